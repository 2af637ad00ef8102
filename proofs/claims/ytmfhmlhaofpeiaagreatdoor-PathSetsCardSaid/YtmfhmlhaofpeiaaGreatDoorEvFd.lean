/- The functions' code, laid out. Printed by WP.lean.txt, a program of this session's. -/
import Derived.Test.YtmfhmlhaofpeiaaGreatDoorEvF
namespace Go.Proofs.YtmfhmlhaofpeiaaGreatDoor.Ev
open Go Go.RowKit
set_option linter.unusedVariables false
set_option maxRecDepth 100000
def an22 : AN := (sqL (sqM))
def w22 (P : Prims) (a0 a1 : AV) (Q : AV -> AS -> Prop) : Prop :=
 P.oN 2 (.cells (AV.cells a0) 35 false) (fun id => (.ptr id 0)) ⟨Tr.nil, 0⟩ fun t2 s1 =>
 P.oV 5 (ac T0 s1.h 35 t2) fun t5 =>
 P.oC 7 48 [t5, a1] s1 fun t7 s2 =>
 P.oV 8 (ah T0 .geq 3 true t7 (.i .i64 0)) fun t8 =>
 Q t8 s2
theorem w22_eq (P : Prims) (a0 a1 : AV) (Q : AV -> AS -> Prop) : w22 P a0 a1 Q = VBd P Tryz.f22 an22 [a0, a1] Q := by kernel_rfl
theorem r22 (a0 a1 : AV) {r : AV} (hi : AV.idfree.idfrees [a0, a1] = true) (hn : AV.norm.norms [a0, a1] = [a0, a1]) (h : w22 (av T0) a0 a1 (fun r1 s1 => oZ T0 s1 r1 (fun r2 => r2 = r))) : R T0 22 [a0, a1] r :=
 RMk (w22_eq ..) hi hn h
def an27 : AN := (sqL (.seq none (sqL (.two (sqM) .leaf)) (.seq none (sqL (.one (.loop [3, 2, 5] (.seq none (sqL (.two .leaf .leaf)) (.seq none (.one (sqL (.two (sqM) .leaf))) .leaf))))) (.seq none (sqL (.one (.loop [3, 2, 6] (.seq none (sqL (.two .leaf .leaf)) (.seq none (.one (sqL (.two (sqM) .leaf))) .leaf))))) (sqM)))))
def w27 (P : Prims) (a0 a1 : AV) (Q : AV -> AS -> Prop) : Prop :=
 P.oN 2 (.cells (AV.cells a0) 35 false) (fun id => (.ptr id 0)) ⟨Tr.nil, 0⟩ fun t2 s1 =>
 P.oN 3 (.cells (AV.cells a1) 35 false) (fun id => (.ptr id 0)) s1 fun t3 s2 =>
 P.oV 7 (am 0 t2) fun t7 =>
 P.oV 8 (ac T0 s2.h 3 t7) fun t8 =>
 P.oV 9 (am 0 t3) fun t9 =>
 P.oV 10 (ac T0 s2.h 3 t9) fun t10 =>
 P.oV 11 (ah T0 .neq 3 false t8 t10) fun t11 =>
 P.oG [13, 14, 15, 16, 17] t11 false (fun (k : C5) => P.oV 13 (am 1 t2) fun t13 =>
  P.oV 14 (ac T0 s2.h 3 t13) fun t14 =>
  P.oV 15 (am 1 t3) fun t15 =>
  P.oV 16 (ac T0 s2.h 3 t15) fun t16 =>
  P.oV 17 (ah T0 .neq 3 false t14 t16) fun t17 =>
  k t13 t14 t15 t16 t17 s2) s2 fun t13 t14 t15 t16 t17 s3 =>
 P.oV 18 (au t11 (some (.b true)) (some t17)) fun t18 =>
 P.oG [20, 21, 22, 23, 24] t18 false (fun (k : C5) => P.oV 20 (am 2 t2) fun t20 =>
  P.oV 21 (ac T0 s3.h 9 t20) fun t21 =>
  P.oV 22 (am 2 t3) fun t22 =>
  P.oV 23 (ac T0 s3.h 9 t22) fun t23 =>
  P.oV 24 (ah T0 .neq 9 false t21 t23) fun t24 =>
  k t20 t21 t22 t23 t24 s3) s3 fun t20 t21 t22 t23 t24 s4 =>
 P.oV 25 (au t18 (some (.b true)) (some t24)) fun t25 =>
 P.oG [27, 28, 29, 30, 31, 32, 33] t25 false (fun (k : C7) => P.oV 27 (am 3 t2) fun t27 =>
  P.oV 28 (ac T0 s4.h 32 t27) fun t28 =>
  P.oV 29 (ak T0 s4.h .len [32] [t28]) fun t29 =>
  P.oV 30 (am 3 t3) fun t30 =>
  P.oV 31 (ac T0 s4.h 32 t30) fun t31 =>
  P.oV 32 (ak T0 s4.h .len [32] [t31]) fun t32 =>
  P.oV 33 (ah T0 .neq 3 false t29 t32) fun t33 =>
  k t27 t28 t29 t30 t31 t32 t33 s4) s4 fun t27 t28 t29 t30 t31 t32 t33 s5 =>
 P.oV 34 (au t25 (some (.b true)) (some t33)) fun t34 =>
 P.oG [36, 37, 38, 39, 40, 41, 42] t34 false (fun (k : C7) => P.oV 36 (am 4 t2) fun t36 =>
  P.oV 37 (ac T0 s5.h 33 t36) fun t37 =>
  P.oV 38 (ak T0 s5.h .len [33] [t37]) fun t38 =>
  P.oV 39 (am 4 t3) fun t39 =>
  P.oV 40 (ac T0 s5.h 33 t39) fun t40 =>
  P.oV 41 (ak T0 s5.h .len [33] [t40]) fun t41 =>
  P.oV 42 (ah T0 .neq 3 false t38 t41) fun t42 =>
  k t36 t37 t38 t39 t40 t41 t42 s5) s5 fun t36 t37 t38 t39 t40 t41 t42 s6 =>
 P.oV 43 (au t34 (some (.b true)) (some t42)) fun t43 =>
 P.oI t43 (Q (.b false) s6)
 (P.oL [3, 2, 5] (fun (next : C3) t3x1 t2x1 t5 s7 =>
  P.oV 45 (am 3 t2x1) fun t45 =>
  P.oV 46 (ac T0 s7.h 32 t45) fun t46 =>
  P.oV 47 (ak T0 s7.h .len [32] [t46]) fun t47 =>
  P.oV 48 (ah T0 .lss 3 false t5 t47) fun t48 =>
  P.oI t48 (P.oV 51 (am 3 t2x1) fun t51 =>
   P.oV 52 (ac T0 s7.h 32 t51) fun t52 =>
   P.oV 54 (ai T0 32 t52 t5) fun t54 =>
   P.oV 55 (ac T0 s7.h 35 t54) fun t55 =>
   P.oV 56 (am 3 t3x1) fun t56 =>
   P.oV 57 (ac T0 s7.h 32 t56) fun t57 =>
   P.oV 59 (ai T0 32 t57 t5) fun t59 =>
   P.oV 60 (ac T0 s7.h 35 t59) fun t60 =>
   P.oC 61 27 [t55, t60] s7 fun t61 s8 =>
   P.oV 62 (cF .not t61) fun t62 =>
   P.oI t62 (Q (.b false) s7)
   (P.oV 50 (ah T0 .add 3 true t5 (.i .i64 1)) fun t50 =>
    next t3x1 t2x1 t50 s7))
  (P.oL [3, 2, 6] (fun (nextx1 : C3) t3x2 t2x2 t6 s8 =>
   P.oV 64 (am 4 t2x2) fun t64 =>
   P.oV 65 (ac T0 s8.h 33 t64) fun t65 =>
   P.oV 66 (ak T0 s8.h .len [33] [t65]) fun t66 =>
   P.oV 67 (ah T0 .lss 3 false t6 t66) fun t67 =>
   P.oI t67 (P.oV 70 (am 4 t2x2) fun t70 =>
    P.oV 71 (ac T0 s8.h 33 t70) fun t71 =>
    P.oV 73 (ai T0 33 t71 t6) fun t73 =>
    P.oV 74 (am 0 t73) fun t74 =>
    P.oV 75 (ac T0 s8.h 9 t74) fun t75 =>
    P.oV 76 (am 4 t3x2) fun t76 =>
    P.oV 77 (ac T0 s8.h 33 t76) fun t77 =>
    P.oV 79 (ai T0 33 t77 t6) fun t79 =>
    P.oV 80 (am 0 t79) fun t80 =>
    P.oV 81 (ac T0 s8.h 9 t80) fun t81 =>
    P.oV 82 (ah T0 .neq 9 false t75 t81) fun t82 =>
    P.oG [84, 85, 86, 87, 88, 89, 90, 91, 92, 93, 94, 95, 96, 97] t82 false (fun (k : C14) => P.oV 84 (am 4 t2x2) fun t84 =>
     P.oV 85 (ac T0 s8.h 33 t84) fun t85 =>
     P.oV 87 (ai T0 33 t85 t6) fun t87 =>
     P.oV 88 (am 1 t87) fun t88 =>
     P.oV 89 (ac T0 s8.h 35 t88) fun t89 =>
     P.oV 90 (am 4 t3x2) fun t90 =>
     P.oV 91 (ac T0 s8.h 33 t90) fun t91 =>
     P.oV 93 (ai T0 33 t91 t6) fun t93 =>
     P.oV 94 (am 1 t93) fun t94 =>
     P.oV 95 (ac T0 s8.h 35 t94) fun t95 =>
     P.oC 96 27 [t89, t95] s8 fun t96 s9 =>
     P.oV 97 (cF .not t96) fun t97 =>
     k t84 t85 t6 t87 t88 t89 t90 t91 t6 t93 t94 t95 t96 t97 s8) s8 fun t84 t85 t86 t87 t88 t89 t90 t91 t92 t93 t94 t95 t96 t97 s9 =>
    P.oV 98 (au t82 (some (.b true)) (some t97)) fun t98 =>
    P.oI t98 (Q (.b false) s8)
    (P.oV 69 (ah T0 .add 3 true t6 (.i .i64 1)) fun t69 =>
     nextx1 t3x2 t2x2 t69 s8))
   (Q (.b true) s8)) t3x1 t2x1 (.i .i64 0) s7)) t3 t2 (.i .i64 0) s6)
theorem w27_eq (P : Prims) (a0 a1 : AV) (Q : AV -> AS -> Prop) : w27 P a0 a1 Q = VBd P Tryz.f27 an27 [a0, a1] Q := by kernel_rfl
theorem r27 (a0 a1 : AV) {r : AV} (hi : AV.idfree.idfrees [a0, a1] = true) (hn : AV.norm.norms [a0, a1] = [a0, a1]) (h : w27 (av T0) a0 a1 (fun r1 s1 => oZ T0 s1 r1 (fun r2 => r2 = r))) : R T0 27 [a0, a1] r :=
 RMk (w27_eq ..) hi hn h
def an48 : AN := (sqL (sqL (.seq none (sqL (.one (.loop [1, 2, 5] (.seq none (sqL (.two .leaf .leaf)) (.seq none (.one .leaf) .leaf))))) (.seq none (sqL (.one (.loop [1, 2, 6] (.seq none (sqL (.two .leaf .leaf)) (.seq none (.one .leaf) .leaf))))) (sqM)))))
def w48 (P : Prims) (a0 a1 : AV) (Q : AV -> AS -> Prop) : Prop :=
 P.oN 2 (.cells (AV.cells a0) 35 false) (fun id => (.ptr id 0)) ⟨Tr.nil, 0⟩ fun t2 s1 =>
 P.oV 8 (ah T0 .sub 3 true a1 (.i .i64 1)) fun t8 =>
 P.oV 9 (am 2 t2) fun t9 =>
 P.oV 10 (ac T0 s1.h 9 t9) fun t10 =>
 P.oV 11 (ak T0 s1.h .len [9] [t10]) fun t11 =>
 P.oV 12 (ah T0 .sub 3 false t8 t11) fun t12 =>
 P.oL [1, 2, 5] (fun (next : C3) t1 t2x1 t5 s2 =>
 P.oV 14 (am 3 t2x1) fun t14 =>
 P.oV 15 (ac T0 s2.h 32 t14) fun t15 =>
 P.oV 16 (ak T0 s2.h .len [32] [t15]) fun t16 =>
 P.oV 17 (ah T0 .lss 3 false t5 t16) fun t17 =>
 P.oG [19, 20] t17 true (fun (k : C2) => P.oV 20 (ah T0 .geq 3 true t1 (.i .i64 0)) fun t20 =>
  k t1 t20 s2) s2 fun t19 t20 s3 =>
 P.oV 21 (au t17 (some t20) (some (.b false))) fun t21 =>
 P.oI t21 (P.oV 24 (am 3 t2x1) fun t24 =>
  P.oV 25 (ac T0 s3.h 32 t24) fun t25 =>
  P.oV 27 (ai T0 32 t25 t5) fun t27 =>
  P.oV 28 (ac T0 s3.h 35 t27) fun t28 =>
  P.oC 30 48 [t28, t1] s3 fun t30 s4 =>
  P.oV 23 (ah T0 .add 3 true t5 (.i .i64 1)) fun t23 =>
  next t30 t2x1 t23 s4)
 (P.oL [1, 2, 6] (fun (nextx1 : C3) t1x1 t2x2 t6 s4 =>
  P.oV 32 (am 4 t2x2) fun t32 =>
  P.oV 33 (ac T0 s4.h 33 t32) fun t33 =>
  P.oV 34 (ak T0 s4.h .len [33] [t33]) fun t34 =>
  P.oV 35 (ah T0 .lss 3 false t6 t34) fun t35 =>
  P.oG [37, 38] t35 true (fun (k : C2) => P.oV 38 (ah T0 .geq 3 true t1x1 (.i .i64 0)) fun t38 =>
   k t1x1 t38 s4) s4 fun t37 t38 s5 =>
  P.oV 39 (au t35 (some t38) (some (.b false))) fun t39 =>
  P.oI t39 (P.oV 42 (am 4 t2x2) fun t42 =>
   P.oV 43 (ac T0 s5.h 33 t42) fun t43 =>
   P.oV 45 (ai T0 33 t43 t6) fun t45 =>
   P.oV 46 (am 1 t45) fun t46 =>
   P.oV 47 (ac T0 s5.h 35 t46) fun t47 =>
   P.oV 49 (am 4 t2x2) fun t49 =>
   P.oV 50 (ac T0 s5.h 33 t49) fun t50 =>
   P.oV 52 (ai T0 33 t50 t6) fun t52 =>
   P.oV 53 (am 0 t52) fun t53 =>
   P.oV 54 (ac T0 s5.h 9 t53) fun t54 =>
   P.oV 55 (ak T0 s5.h .len [9] [t54]) fun t55 =>
   P.oV 56 (ah T0 .sub 3 false t1x1 t55) fun t56 =>
   P.oC 57 48 [t47, t56] s5 fun t57 s6 =>
   P.oV 41 (ah T0 .add 3 true t6 (.i .i64 1)) fun t41 =>
   nextx1 t57 t2x2 t41 s5)
  (Q t1x1 s5)) t1 t2x1 (.i .i64 0) s3)) t12 t2 (.i .i64 0) s1
theorem w48_eq (P : Prims) (a0 a1 : AV) (Q : AV -> AS -> Prop) : w48 P a0 a1 Q = VBd P Tryz.f48 an48 [a0, a1] Q := by kernel_rfl
theorem r48 (a0 a1 : AV) {r : AV} (hi : AV.idfree.idfrees [a0, a1] = true) (hn : AV.norm.norms [a0, a1] = [a0, a1]) (h : w48 (av T0) a0 a1 (fun r1 s1 => oZ T0 s1 r1 (fun r2 => r2 = r))) : R T0 48 [a0, a1] r :=
 RMk (w48_eq ..) hi hn h
def an49 : AN := (sqL (.seq none (.one (sqL (.two (sqM) (sqL (.two (sqM) (sqL (.two (sqM) .leaf))))))) (sqM)))
def w49 (P : Prims) (a0 a1 : AV) (Q : AV -> AS -> Prop) : Prop :=
 P.oN 2 (.cells (AV.cells a0) 35 false) (fun id => (.ptr id 0)) ⟨Tr.nil, 0⟩ fun t2 s1 =>
 P.oN 3 (.cells (AV.cells a1) 50 false) (fun id => (.ptr id 0)) s1 fun t3 s2 =>
 P.oV 6 (am 0 t3) fun t6 =>
 P.oV 7 (ac T0 s2.h 3 t6) fun t7 =>
 P.oV 8 (ah T0 .eql 3 true t7 (.i .i64 1)) fun t8 =>
 P.oG [10, 11, 12] t8 true (fun (k : C3) => P.oV 10 (am 0 t2) fun t10 =>
  P.oV 11 (ac T0 s2.h 3 t10) fun t11 =>
  P.oV 12 (ah T0 .eql 3 true t11 (.i .i64 5)) fun t12 =>
  k t10 t11 t12 s2) s2 fun t10 t11 t12 s3 =>
 P.oV 13 (au t8 (some t12) (some (.b false))) fun t13 =>
 P.oI t13 (P.oV 14 (am 4 t2) fun t14 =>
  P.oV 15 (ac T0 s3.h 33 t14) fun t15 =>
  P.oC 17 72 [t15, (.fn 73 [] [t3])] s3 fun t17 s4 =>
  Q t17 s4)
 (P.oV 19 (am 0 t3) fun t19 =>
  P.oV 20 (ac T0 s3.h 3 t19) fun t20 =>
  P.oV 21 (ah T0 .eql 3 true t20 (.i .i64 2)) fun t21 =>
  P.oG [23, 24, 25] t21 true (fun (k : C3) => P.oV 23 (am 0 t2) fun t23 =>
   P.oV 24 (ac T0 s3.h 3 t23) fun t24 =>
   P.oV 25 (ah T0 .eql 3 true t24 (.i .i64 4)) fun t25 =>
   k t23 t24 t25 s3) s3 fun t23 t24 t25 s4 =>
  P.oV 26 (au t21 (some t25) (some (.b false))) fun t26 =>
  P.oG [28, 29, 30, 31, 32, 33] t26 true (fun (k : C6) => P.oV 28 (am 2 t3) fun t28 =>
   P.oV 29 (ac T0 s4.h 3 t28) fun t29 =>
   P.oV 30 (am 3 t2) fun t30 =>
   P.oV 31 (ac T0 s4.h 32 t30) fun t31 =>
   P.oV 32 (ak T0 s4.h .len [32] [t31]) fun t32 =>
   P.oV 33 (ah T0 .lss 3 false t29 t32) fun t33 =>
   k t28 t29 t30 t31 t32 t33 s4) s4 fun t28 t29 t30 t31 t32 t33 s5 =>
  P.oV 34 (au t26 (some t33) (some (.b false))) fun t34 =>
  P.oI t34 (P.oV 35 (am 2 t3) fun t35 =>
   P.oV 36 (ac T0 s5.h 3 t35) fun t36 =>
   Q t36 s5)
  (P.oV 38 (am 0 t3) fun t38 =>
   P.oV 39 (ac T0 s5.h 3 t38) fun t39 =>
   P.oV 40 (ah T0 .eql 3 true t39 (.i .i64 3)) fun t40 =>
   P.oG [42, 43, 44] t40 true (fun (k : C3) => P.oV 42 (am 0 t2) fun t42 =>
    P.oV 43 (ac T0 s5.h 3 t42) fun t43 =>
    P.oV 44 (ah T0 .eql 3 true t43 (.i .i64 4)) fun t44 =>
    k t42 t43 t44 s5) s5 fun t42 t43 t44 s6 =>
   P.oV 45 (au t40 (some t44) (some (.b false))) fun t45 =>
   P.oI t45 (P.oV 46 (am 3 t2) fun t46 =>
    P.oV 47 (ac T0 s6.h 32 t46) fun t47 =>
    P.oC 49 74 [t47, (.fn 75 [] [t3])] s6 fun t49 s7 =>
    Q t49 s7)
   (Q (.i .i64 (-1)) s6)))
theorem w49_eq (P : Prims) (a0 a1 : AV) (Q : AV -> AS -> Prop) : w49 P a0 a1 Q = VBd P Tryz.f49 an49 [a0, a1] Q := by kernel_rfl
theorem r49 (a0 a1 : AV) {r : AV} (hi : AV.idfree.idfrees [a0, a1] = true) (hn : AV.norm.norms [a0, a1] = [a0, a1]) (h : w49 (av T0) a0 a1 (fun r1 s1 => oZ T0 s1 r1 (fun r2 => r2 = r))) : R T0 49 [a0, a1] r :=
 RMk (w49_eq ..) hi hn h
def an50 : AN := (sqL (sqL (.seq none (sqL (.one (.loop [2, 1, 15, 16] (sqL (.seq none (.two .leaf .leaf) (.seq none (.one (sqM)) .leaf)))))) (.seq none (sqL (.one (.loop [2, 1, 32, 33] (sqL (.seq none (.two .leaf .leaf) (.seq none (.one (sqM)) .leaf)))))) (sqM)))))
def w50 (P : Prims) (a0 : AV) (Q : AV -> AS -> Prop) : Prop :=
 P.oN 1 (.cells (AV.cells a0) 35 false) (fun id => (.ptr id 0)) ⟨Tr.nil, 0⟩ fun t1 s1 =>
 P.oN 2 (.cells [(.i .i64 0), (.i .i64 0), (.s []), (.nilz true), (.nilz true)] 35 false) (fun id => (.ptr id 0)) s1 fun t2 s2 =>
 P.oV 5 (am 3 t1) fun t5 =>
 P.oV 6 (ac T0 s2.h 32 t5) fun t6 =>
 P.oA 7 77 [t6] s2.n fun t7 b =>
 P.oV 8 (am 4 t1) fun t8 =>
 P.oT (bC s2.n [3] [(2, (s2.n, b))] [(2, (s2.n, b))]) (P.oV 9 (ac T0 s2.h 33 t8) fun t9 =>
 P.oT (bC s2.n [0, 1, 2, 3, 4] [(2, (s2.n, b))] [(2, (s2.n, b))]) (P.oA 10 78 [t9] (s2.n + 1) fun t10 bx1 =>
 P.oV 11 (am 3 t1) fun t11 =>
 P.oT (bC s2.n [3, 4, 0, 1, 2, 5, 6] [(5, ((s2.n + 1), bx1)), (2, (s2.n, b))] [(5, ((s2.n + 1), bx1)), (2, (s2.n, b))]) (P.oD (aY T0 ((s2.h.put s2.n b).put (s2.n + 1) bx1) 32 t11 t7) fun i bx2 =>
 P.oT ((bU s2.n (gb [[], [0], [0, 1], [], [3], [0, 1, 2, 3, 4], [3, 4, 0, 1, 2], [3, 4, 0, 1, 2, 5, 6], [3, 4, 0, 1, 2, 5, 6, 7], [3, 4, 0, 1, 2, 5, 6, 7, 8]]) [3, 4, 0, 1, 2, 5, 6] [(5, ((s2.n + 1), bx1)), (2, (s2.n, b))] i [4, 1]) && (ce [3, 4, 0, 1, 2, 5, 6] i [(5, ((s2.n + 1), bx1)), (2, (s2.n, b))])) (P.oV 12 (am 4 t1) fun t12 =>
 P.oT (bC s2.n [3, 4, 0, 1, 2, 5, 6, 7, 8] [(7, (i, (some bx2))), (5, ((s2.n + 1), bx1)), (2, (s2.n, b))] [(7, (i, (some bx2))), (5, ((s2.n + 1), bx1)), (2, (s2.n, b))]) (P.oD (aY T0 (((s2.h.put s2.n b).put (s2.n + 1) bx1).put i (some bx2)) 33 t12 t10) fun ix1 bx3 =>
 P.oT ((bU s2.n (gb [[], [0], [0, 1], [], [3], [0, 1, 2, 3, 4], [3, 4, 0, 1, 2], [3, 4, 0, 1, 2, 5, 6], [3, 4, 0, 1, 2, 5, 6, 7], [3, 4, 0, 1, 2, 5, 6, 7, 8]]) [3, 4, 0, 1, 2, 5, 6, 7, 8] [(7, (i, (some bx2))), (5, ((s2.n + 1), bx1)), (2, (s2.n, b))] ix1 [4, 1]) && (ce [3, 4, 0, 1, 2, 5, 6, 7, 8] ix1 [(7, (i, (some bx2))), (5, ((s2.n + 1), bx1)), (2, (s2.n, b))])) (P.oS ⟨((((s2.h.put s2.n b).put (s2.n + 1) bx1).put i (some bx2)).put ix1 (some bx3)), ((s2.n + 1) + 1)⟩ fun s3 =>
 P.oV 13 (am 3 t1) fun t13 =>
 P.oV 14 (ac T0 s3.h 32 t13) fun t14 =>
 P.oV 15 (ak T0 s3.h .len [32] [t14]) fun t15 =>
 P.oL [2, 1, 15, 16] (fun (next : C4) t2x1 t1x1 t15x1 t16 s4 =>
 P.oV 17 (ah T0 .lss 3 false t16 t15x1) fun t17 =>
 P.oI t17 (P.oV 19 (am 3 t1x1) fun t19 =>
  P.oV 20 (ac T0 s4.h 32 t19) fun t20 =>
  P.oV 22 (am 3 t1x1) fun t22 =>
  P.oV 23 (ac T0 s4.h 32 t22) fun t23 =>
  P.oV 25 (ai T0 32 t23 t16) fun t25 =>
  P.oV 26 (ac T0 s4.h 35 t25) fun t26 =>
  P.oC 27 50 [t26] s4 fun t27 s5 =>
  P.oV 28 (ai T0 32 t20 t16) fun t28 =>
  P.oD (aY T0 s4.h 35 t28 t27) fun ix2 bx4 =>
  P.oT ((bU s4.n (gb [[], [0], [], [], [3], [], [5, 3, 4], [5, 3, 4, 6], [5, 3, 4, 6, 7], [5, 3, 4, 6, 7, 8, 2, 0, 1], [5, 3, 4, 6, 7, 8, 2, 0, 1, 9]]) [5, 3, 4, 6, 7, 8, 2, 0, 1, 9] [] ix2 [8, 7, 4, 1]) && (ce [5, 3, 4, 6, 7, 8, 2, 0, 1, 9] ix2 [])) (P.oS ⟨(s4.h.put ix2 (some bx4)), s4.n⟩ fun s6 =>
  P.oV 29 (ah T0 .add 3 true t16 (.i .i64 1)) fun t29 =>
  next t2x1 t1x1 t15x1 t29 s6))
 (P.oV 30 (am 4 t1x1) fun t30 =>
  P.oV 31 (ac T0 s4.h 33 t30) fun t31 =>
  P.oV 32 (ak T0 s4.h .len [33] [t31]) fun t32 =>
  P.oL [2, 1, 32, 33] (fun (nextx1 : C4) t2x2 t1x2 t32x1 t33 s5 =>
  P.oV 34 (ah T0 .lss 3 false t33 t32x1) fun t34 =>
  P.oI t34 (P.oV 36 (am 4 t1x2) fun t36 =>
   P.oV 37 (ac T0 s5.h 33 t36) fun t37 =>
   P.oV 39 (am 4 t1x2) fun t39 =>
   P.oV 40 (ac T0 s5.h 33 t39) fun t40 =>
   P.oV 42 (ai T0 33 t40 t33) fun t42 =>
   P.oV 43 (am 1 t42) fun t43 =>
   P.oV 44 (ac T0 s5.h 35 t43) fun t44 =>
   P.oC 45 50 [t44] s5 fun t45 s6 =>
   P.oV 46 (ai T0 33 t37 t33) fun t46 =>
   P.oV 47 (am 1 t46) fun t47 =>
   P.oD (aY T0 s5.h 35 t47 t45) fun ix2 bx4 =>
   P.oT ((bU s5.n (gb [[], [0], [], [], [3], [], [5, 3, 4], [5, 3, 4, 6], [5, 3, 4, 6, 7], [5, 3, 4, 6, 7, 8], [5, 3, 4, 6, 7, 8, 9, 2, 0, 1], [5, 3, 4, 6, 7, 8, 9, 2, 0, 1, 10], [5, 3, 4, 6, 7, 8, 9, 2, 0, 1, 10, 11]]) [5, 3, 4, 6, 7, 8, 9, 2, 0, 1, 10, 11] [] ix2 [9, 8, 4, 1]) && (ce [5, 3, 4, 6, 7, 8, 9, 2, 0, 1, 10, 11] ix2 [])) (P.oS ⟨(s5.h.put ix2 (some bx4)), s5.n⟩ fun s7 =>
   P.oV 48 (ah T0 .add 3 true t33 (.i .i64 1)) fun t48 =>
   nextx1 t2x2 t1x2 t32x1 t48 s7))
  (P.oV 49 (ac T0 s5.h 35 t1x2) fun t49 =>
   P.oH (aB T0 s5.h 35 t2x2 t49) s5 fun s6 =>
   P.oV 2 (ac T0 s6.h 35 t2x2) fun t2x3 =>
   Q t2x3 s6)) t2x1 t1x1 t32 (.i .i64 0) s4)) t2 t1 t15 (.i .i64 0) s3))))))
theorem w50_eq (P : Prims) (a0 : AV) (Q : AV -> AS -> Prop) : w50 P a0 Q = VBd P Tryz.f50 an50 [a0] Q := by kernel_rfl
theorem r50 (a0 : AV) {r : AV} (hi : AV.idfree.idfrees [a0] = true) (hn : AV.norm.norms [a0] = [a0]) (h : w50 (av T0) a0 (fun r1 s1 => oZ T0 s1 r1 (fun r2 => r2 = r))) : R T0 50 [a0] r :=
 RMk (w50_eq ..) hi hn h
def an51 : AN := (sqL (.seq none (sqL (.two (sqM) .leaf)) (.seq none (sqL (.two (sqM) .leaf)) (.seq none (sqL (.two (.seq none (sqL (.two (sqM) .leaf)) (sqM)) .leaf)) (.seq none (sqL (.one (.loop [3, 2, 5] (.seq none (sqL (.two .leaf .leaf)) (.seq none (.one (sqL (.two (sqM) .leaf))) .leaf))))) (sqM))))))
def w51 (P : Prims) (a0 a1 : AV) (Q : AV -> AS -> Prop) : Prop :=
 P.oN 2 (.cells (AV.cells a0) 35 false) (fun id => (.ptr id 0)) ⟨Tr.nil, 0⟩ fun t2 s1 =>
 P.oN 3 (.cells (AV.cells a1) 50 false) (fun id => (.ptr id 0)) s1 fun t3 s2 =>
 P.oV 6 (am 0 t3) fun t6 =>
 P.oV 7 (ac T0 s2.h 3 t6) fun t7 =>
 P.oV 8 (ah T0 .eql 3 true t7 (.i .i64 1)) fun t8 =>
 P.oI t8 (P.oV 9 (ac T0 s2.h 35 t2) fun t9 =>
  P.oV 10 (am 1 t3) fun t10 =>
  P.oV 11 (ac T0 s2.h 9 t10) fun t11 =>
  P.oC 12 79 [t9, t11] s2 fun t12 s3 =>
  Q t12 s3)
 (P.oV 13 (am 0 t2) fun t13 =>
  P.oV 14 (ac T0 s2.h 3 t13) fun t14 =>
  P.oV 15 (ah T0 .neq 3 true t14 (.i .i64 4)) fun t15 =>
  P.oI t15 (Q (.i .i64 (-1)) s2)
  (P.oV 16 (am 0 t3) fun t16 =>
   P.oV 17 (ac T0 s2.h 3 t16) fun t17 =>
   P.oV 18 (ah T0 .eql 3 true t17 (.i .i64 2)) fun t18 =>
   P.oI t18 (P.oV 19 (am 2 t3) fun t19 =>
    P.oV 20 (ac T0 s2.h 3 t19) fun t20 =>
    P.oV 21 (am 3 t2) fun t21 =>
    P.oV 22 (ac T0 s2.h 32 t21) fun t22 =>
    P.oV 23 (ak T0 s2.h .len [32] [t22]) fun t23 =>
    P.oV 24 (ah T0 .lss 3 false t20 t23) fun t24 =>
    P.oI t24 (P.oV 25 (am 2 t3) fun t25 =>
     P.oV 26 (ac T0 s2.h 3 t25) fun t26 =>
     Q t26 s2)
    (Q (.i .i64 (-1)) s2))
   (P.oL [3, 2, 5] (fun (next : C3) t3x1 t2x1 t5 s3 =>
    P.oV 28 (am 3 t2x1) fun t28 =>
    P.oV 29 (ac T0 s3.h 32 t28) fun t29 =>
    P.oV 30 (ak T0 s3.h .len [32] [t29]) fun t30 =>
    P.oV 31 (ah T0 .lss 3 false t5 t30) fun t31 =>
    P.oI t31 (P.oV 34 (am 3 t2x1) fun t34 =>
     P.oV 35 (ac T0 s3.h 32 t34) fun t35 =>
     P.oV 37 (ai T0 32 t35 t5) fun t37 =>
     P.oV 38 (ac T0 s3.h 35 t37) fun t38 =>
     P.oV 39 (am 1 t3x1) fun t39 =>
     P.oV 40 (ac T0 s3.h 9 t39) fun t40 =>
     P.oV 41 (am 3 t3x1) fun t41 =>
     P.oV 42 (ac T0 s3.h 9 t41) fun t42 =>
     P.oC 43 80 [t38, t40, t42] s3 fun t43 s4 =>
     P.oI t43 (Q t5 s3)
     (P.oV 33 (ah T0 .add 3 true t5 (.i .i64 1)) fun t33 =>
      next t3x1 t2x1 t33 s3))
    (Q (.i .i64 (-1)) s3)) t3 t2 (.i .i64 0) s2)))
theorem w51_eq (P : Prims) (a0 a1 : AV) (Q : AV -> AS -> Prop) : w51 P a0 a1 Q = VBd P Tryz.f51 an51 [a0, a1] Q := by kernel_rfl
theorem r51 (a0 a1 : AV) {r : AV} (hi : AV.idfree.idfrees [a0, a1] = true) (hn : AV.norm.norms [a0, a1] = [a0, a1]) (h : w51 (av T0) a0 a1 (fun r1 s1 => oZ T0 s1 r1 (fun r2 => r2 = r))) : R T0 51 [a0, a1] r :=
 RMk (w51_eq ..) hi hn h
def an52 : AN := (sqL (sqL (sqL (sqL (.seq (some [4, 2]) (sqL (.one (sqL (.two .leaf (sqL (.two .leaf (sqL (.two .leaf .leaf)))))))) (sqM))))))
def w52 (P : Prims) (a0 a1 : AV) (Q : AV -> AS -> Prop) : Prop :=
 P.oN 2 (.cells (AV.cells a0) 35 false) (fun id => (.ptr id 0)) ⟨Tr.nil, 0⟩ fun t2 s1 =>
 P.oN 4 (.cells [(.i .i64 0), (.i .i64 0), (.s []), (.nilz true), (.nilz true)] 35 false) (fun id => (.ptr id 0)) s1 fun t4 s2 =>
 P.oV 8 (ac T0 s2.h 35 t2) fun t8 =>
 P.oV 10 (ai T0 22 a1 (.i .i64 0)) fun t10 =>
 P.oV 11 (ac T0 s2.h 50 t10) fun t11 =>
 P.oC 12 49 [t8, t11] s2 fun t12 s3 =>
 P.oV 13 (am 3 t2) fun t13 =>
 P.oV 14 (ac T0 s2.h 32 t13) fun t14 =>
 P.oA 15 77 [t14] s2.n fun t15 b =>
 P.oV 16 (am 4 t2) fun t16 =>
 P.oT (bC s2.n [3] [(2, (s2.n, b))] [(2, (s2.n, b))]) (P.oV 17 (ac T0 s2.h 33 t16) fun t17 =>
 P.oT (bC s2.n [0, 1, 2, 3, 4] [(2, (s2.n, b))] [(2, (s2.n, b))]) (P.oA 18 78 [t17] (s2.n + 1) fun t18 bx1 =>
 P.oV 19 (am 3 t2) fun t19 =>
 P.oT (bC s2.n [3, 4, 0, 1, 2, 5, 6] [(5, ((s2.n + 1), bx1)), (2, (s2.n, b))] [(5, ((s2.n + 1), bx1)), (2, (s2.n, b))]) (P.oD (aY T0 ((s2.h.put s2.n b).put (s2.n + 1) bx1) 32 t19 t15) fun i bx2 =>
 P.oT ((bU s2.n (gb [[], [0], [0, 1], [], [3], [0, 1, 2, 3, 4], [3, 4, 0, 1, 2], [3, 4, 0, 1, 2, 5, 6], [3, 4, 0, 1, 2, 5, 6, 7], [3, 4, 0, 1, 2, 5, 6, 7, 8]]) [3, 4, 0, 1, 2, 5, 6] [(5, ((s2.n + 1), bx1)), (2, (s2.n, b))] i [4, 1]) && (ce [3, 4, 0, 1, 2, 5, 6] i [(5, ((s2.n + 1), bx1)), (2, (s2.n, b))])) (P.oV 20 (am 4 t2) fun t20 =>
 P.oT (bC s2.n [3, 4, 0, 1, 2, 5, 6, 7, 8] [(7, (i, (some bx2))), (5, ((s2.n + 1), bx1)), (2, (s2.n, b))] [(7, (i, (some bx2))), (5, ((s2.n + 1), bx1)), (2, (s2.n, b))]) (P.oD (aY T0 (((s2.h.put s2.n b).put (s2.n + 1) bx1).put i (some bx2)) 33 t20 t18) fun ix1 bx3 =>
 P.oT ((bU s2.n (gb [[], [0], [0, 1], [], [3], [0, 1, 2, 3, 4], [3, 4, 0, 1, 2], [3, 4, 0, 1, 2, 5, 6], [3, 4, 0, 1, 2, 5, 6, 7], [3, 4, 0, 1, 2, 5, 6, 7, 8]]) [3, 4, 0, 1, 2, 5, 6, 7, 8] [(7, (i, (some bx2))), (5, ((s2.n + 1), bx1)), (2, (s2.n, b))] ix1 [4, 1]) && (ce [3, 4, 0, 1, 2, 5, 6, 7, 8] ix1 [(7, (i, (some bx2))), (5, ((s2.n + 1), bx1)), (2, (s2.n, b))])) (P.oS ⟨((((s2.h.put s2.n b).put (s2.n + 1) bx1).put i (some bx2)).put ix1 (some bx3)), ((s2.n + 1) + 1)⟩ fun s4 =>
 P.oV 22 (ak T0 s4.h .len [22] [a1]) fun t22 =>
 P.oV 23 (ah T0 .eql 3 true t22 (.i .i64 1)) fun t23 =>
 P.oJ [4, 2] (fun (k : C2) =>
  P.oV 25 (ai T0 22 a1 (.i .i64 0)) fun t25 =>
  P.oV 26 (am 0 t25) fun t26 =>
  P.oV 27 (ac T0 s4.h 3 t26) fun t27 =>
  P.oV 28 (ah T0 .eql 3 true t27 (.i .i64 1)) fun t28 =>
  P.oG [44] t28 true (fun (kx1 : C1) => kx1 t23 s4) s4 fun t44 s5 =>
  P.oV 45 (au t28 (some t44) (some (.b false))) fun t45 =>
  P.oI t45 (P.oV 46 (am 4 t2) fun t46 =>
   P.oV 47 (ac T0 s5.h 33 t46) fun t47 =>
   P.oV 50 (ah T0 .add 3 true t12 (.i .i64 1)) fun t50 =>
   P.oC 51 81 [t47, t12, t50] s5 fun t51 s6 =>
   P.oV 52 (am 4 t2) fun t52 =>
   P.oH (aB T0 s6.h 33 t52 t51) s6 fun s7 =>
   k t4 t2 s7)
  (P.oI t28 (P.oV 55 (am 4 t2) fun t55 =>
   P.oV 56 (ac T0 s5.h 33 t55) fun t56 =>
   P.oV 58 (am 4 t2) fun t58 =>
   P.oV 59 (ac T0 s5.h 33 t58) fun t59 =>
   P.oV 61 (ai T0 33 t59 t12) fun t61 =>
   P.oV 62 (am 1 t61) fun t62 =>
   P.oV 63 (ac T0 s5.h 35 t62) fun t63 =>
   P.oV 65 (aL T0 Tr.nil 22 a1 (some (.i .i64 1)) none none) fun t65 =>
   P.oC 66 52 [t63, t65] s5 fun t66 s6 =>
   P.oV 67 (ai T0 33 t56 t12) fun t67 =>
   P.oV 68 (am 1 t67) fun t68 =>
   P.oD (aY T0 s5.h 35 t68 t66) fun ix2 bx4 =>
   P.oT ((bU s5.n (gb [[], [0], [], [], [3], [], [5, 3, 4], [5, 3, 4, 6], [5, 3, 4, 6, 7], [], [9], [9, 10, 5, 3, 4, 6, 7, 8], [9, 10, 5, 3, 4, 6, 7, 8, 11, 2, 0, 1], [9, 10, 5, 3, 4, 6, 7, 8, 11, 2, 0, 1, 12], [9, 10, 5, 3, 4, 6, 7, 8, 11, 2, 0, 1, 12, 13]]) [9, 10, 5, 3, 4, 6, 7, 8, 11, 2, 0, 1, 12, 13] [] ix2 [11, 8, 4, 1]) && (ce [9, 10, 5, 3, 4, 6, 7, 8, 11, 2, 0, 1, 12, 13] ix2 [])) (P.oS ⟨(s5.h.put ix2 (some bx4)), s5.n⟩ fun s7 =>
   k t4 t2 s7))
   (P.oI t23 (P.oV 71 (am 3 t2) fun t71 =>
    P.oV 72 (ac T0 s5.h 32 t71) fun t72 =>
    P.oV 75 (ah T0 .add 3 true t12 (.i .i64 1)) fun t75 =>
    P.oC 76 82 [t72, t12, t75] s5 fun t76 s6 =>
    P.oV 77 (am 3 t2) fun t77 =>
    P.oH (aB T0 s6.h 32 t77 t76) s6 fun s7 =>
    k t4 t2 s7)
    (P.oV 29 (am 3 t2) fun t29 =>
     P.oV 30 (ac T0 s5.h 32 t29) fun t30 =>
     P.oV 32 (am 3 t2) fun t32 =>
     P.oV 33 (ac T0 s5.h 32 t32) fun t33 =>
     P.oV 35 (ai T0 32 t33 t12) fun t35 =>
     P.oV 36 (ac T0 s5.h 35 t35) fun t36 =>
     P.oV 38 (aL T0 Tr.nil 22 a1 (some (.i .i64 1)) none none) fun t38 =>
     P.oC 39 52 [t36, t38] s5 fun t39 s6 =>
     P.oV 40 (ai T0 32 t30 t12) fun t40 =>
     P.oD (aY T0 s5.h 35 t40 t39) fun ix2 bx4 =>
     P.oT ((bU s5.n (gb [[], [0], [], [], [3], [], [5, 3, 4], [5, 3, 4, 6], [], [8], [8, 9, 5, 3, 4, 6, 7], [8, 9, 5, 3, 4, 6, 7, 10, 2, 0, 1], [8, 9, 5, 3, 4, 6, 7, 10, 2, 0, 1, 11]]) [8, 9, 5, 3, 4, 6, 7, 10, 2, 0, 1, 11] [] ix2 [10, 7, 4, 1]) && (ce [8, 9, 5, 3, 4, 6, 7, 10, 2, 0, 1, 11] ix2 [])) (P.oS ⟨(s5.h.put ix2 (some bx4)), s5.n⟩ fun s7 =>
     k t4 t2 s7)))))
 (fun t4x1 t2x1 s5 =>
 P.oV 78 (ac T0 s5.h 35 t2x1) fun t78 =>
 P.oH (aB T0 s5.h 35 t4x1 t78) s5 fun s6 =>
 P.oV 4 (ac T0 s6.h 35 t4x1) fun t4x2 =>
 Q t4x2 s6)))))))
theorem w52_eq (P : Prims) (a0 a1 : AV) (Q : AV -> AS -> Prop) : w52 P a0 a1 Q = VBd P Tryz.f52 an52 [a0, a1] Q := by kernel_rfl
theorem r52 (a0 a1 : AV) {r : AV} (hi : AV.idfree.idfrees [a0, a1] = true) (hn : AV.norm.norms [a0, a1] = [a0, a1]) (h : w52 (av T0) a0 a1 (fun r1 s1 => oZ T0 s1 r1 (fun r2 => r2 = r))) : R T0 52 [a0, a1] r :=
 RMk (w52_eq ..) hi hn h
def an53 : AN := (sqL (sqL (.seq none (sqL (.two (sqL (.seq (some [4, 2, 5, 6]) (sqL (.two .leaf .leaf)) (sqL (sqL (sqM))))) .leaf)) (sqL (.seq (some [4, 2, 5, 7]) (sqL (.two .leaf .leaf)) (sqL (sqL (sqM))))))))
def w53 (P : Prims) (a0 a1 : AV) (Q : AV -> AS -> Prop) : Prop :=
 P.oN 2 (.cells (AV.cells a0) 35 false) (fun id => (.ptr id 0)) ⟨Tr.nil, 0⟩ fun t2 s1 =>
 P.oN 4 (.cells [(.i .i64 0), (.i .i64 0), (.s []), (.nilz true), (.nilz true)] 35 false) (fun id => (.ptr id 0)) s1 fun t4 s2 =>
 P.oV 8 (ac T0 s2.h 35 t2) fun t8 =>
 P.oV 10 (ai T0 22 a1 (.i .i64 0)) fun t10 =>
 P.oV 11 (ac T0 s2.h 50 t10) fun t11 =>
 P.oC 12 51 [t8, t11] s2 fun t12 s3 =>
 P.oV 14 (ai T0 22 a1 (.i .i64 0)) fun t14 =>
 P.oV 15 (am 0 t14) fun t15 =>
 P.oV 16 (ac T0 s2.h 3 t15) fun t16 =>
 P.oV 17 (ah T0 .eql 3 true t16 (.i .i64 1)) fun t17 =>
 P.oI t17 (P.oV 18 (cE T0 33 0 []) fun t18 =>
  P.oV 19 (am 4 t2) fun t19 =>
  P.oV 20 (ac T0 s2.h 33 t19) fun t20 =>
  P.oV 22 (aL T0 s2.h 33 t20 none (some t12) none) fun t22 =>
  P.oM 23 (aD T0 s2 33 33 t18 t22) fun t23 s4 =>
  P.oJ [4, 2, 5, 6] (fun (k : C4) =>
   P.oV 25 (ak T0 s4.h .len [22] [a1]) fun t25 =>
   P.oV 26 (ah T0 .gtr 3 true t25 (.i .i64 1)) fun t26 =>
   P.oI t26 (P.oV 28 (am 4 t2) fun t28 =>
    P.oV 29 (ac T0 s4.h 33 t28) fun t29 =>
    P.oV 31 (ai T0 33 t29 t12) fun t31 =>
    P.oV 32 (am 0 t31) fun t32 =>
    P.oV 33 (ac T0 s4.h 9 t32) fun t33 =>
    P.oV 34 (am 4 t2) fun t34 =>
    P.oV 35 (ac T0 s4.h 33 t34) fun t35 =>
    P.oV 37 (ai T0 33 t35 t12) fun t37 =>
    P.oV 38 (am 1 t37) fun t38 =>
    P.oV 39 (ac T0 s4.h 35 t38) fun t39 =>
    P.oV 41 (aL T0 Tr.nil 22 a1 (some (.i .i64 1)) none none) fun t41 =>
    P.oC 42 53 [t39, t41] s4 fun t42 s5 =>
    P.oV 43 (aO T0 52 [(0, t33), (1, t42)]) fun t43 =>
    P.oV 44 (cE T0 33 1 [(0, t43)]) fun t44 =>
    P.oM 45 (aD T0 s4 33 33 t23 t44) fun t45 s6 =>
    k t4 t2 t12 t45 s6)
   (k t4 t2 t12 t23 s4))
  (fun t4x1 t2x1 t5 t6 s5 =>
  P.oV 47 (am 4 t2x1) fun t47 =>
  P.oV 48 (ac T0 s5.h 33 t47) fun t48 =>
  P.oV 50 (ah T0 .add 3 true t5 (.i .i64 1)) fun t50 =>
  P.oV 51 (aL T0 s5.h 33 t48 (some t50) none none) fun t51 =>
  P.oM 52 (aD T0 s5 33 33 t6 t51) fun t52 s6 =>
  P.oV 54 (am 4 t2x1) fun t54 =>
  P.oH (aB T0 s6.h 33 t54 t52) s6 fun s7 =>
  P.oV 55 (ac T0 s7.h 35 t2x1) fun t55 =>
  P.oH (aB T0 s7.h 35 t4x1 t55) s7 fun s8 =>
  P.oV 4 (ac T0 s8.h 35 t4x1) fun t4x2 =>
  Q t4x2 s8))
 (P.oV 56 (cE T0 32 0 []) fun t56 =>
  P.oV 57 (am 3 t2) fun t57 =>
  P.oV 58 (ac T0 s2.h 32 t57) fun t58 =>
  P.oV 60 (aL T0 s2.h 32 t58 none (some t12) none) fun t60 =>
  P.oM 61 (aD T0 s2 32 32 t56 t60) fun t61 s4 =>
  P.oJ [4, 2, 5, 7] (fun (k : C4) =>
   P.oV 63 (ak T0 s4.h .len [22] [a1]) fun t63 =>
   P.oV 64 (ah T0 .gtr 3 true t63 (.i .i64 1)) fun t64 =>
   P.oI t64 (P.oV 66 (am 3 t2) fun t66 =>
    P.oV 67 (ac T0 s4.h 32 t66) fun t67 =>
    P.oV 69 (ai T0 32 t67 t12) fun t69 =>
    P.oV 70 (ac T0 s4.h 35 t69) fun t70 =>
    P.oV 72 (aL T0 Tr.nil 22 a1 (some (.i .i64 1)) none none) fun t72 =>
    P.oC 73 53 [t70, t72] s4 fun t73 s5 =>
    P.oV 74 (cE T0 32 1 [(0, t73)]) fun t74 =>
    P.oM 75 (aD T0 s4 32 32 t61 t74) fun t75 s6 =>
    k t4 t2 t12 t75 s6)
   (k t4 t2 t12 t61 s4))
  (fun t4x1 t2x1 t5 t7 s5 =>
  P.oV 77 (am 3 t2x1) fun t77 =>
  P.oV 78 (ac T0 s5.h 32 t77) fun t78 =>
  P.oV 80 (ah T0 .add 3 true t5 (.i .i64 1)) fun t80 =>
  P.oV 81 (aL T0 s5.h 32 t78 (some t80) none none) fun t81 =>
  P.oM 82 (aD T0 s5 32 32 t7 t81) fun t82 s6 =>
  P.oV 84 (am 3 t2x1) fun t84 =>
  P.oH (aB T0 s6.h 32 t84 t82) s6 fun s7 =>
  P.oV 85 (ac T0 s7.h 35 t2x1) fun t85 =>
  P.oH (aB T0 s7.h 35 t4x1 t85) s7 fun s8 =>
  P.oV 4 (ac T0 s8.h 35 t4x1) fun t4x2 =>
  Q t4x2 s8))
theorem w53_eq (P : Prims) (a0 a1 : AV) (Q : AV -> AS -> Prop) : w53 P a0 a1 Q = VBd P Tryz.f53 an53 [a0, a1] Q := by kernel_rfl
theorem r53 (a0 a1 : AV) {r : AV} (hi : AV.idfree.idfrees [a0, a1] = true) (hn : AV.norm.norms [a0, a1] = [a0, a1]) (h : w53 (av T0) a0 a1 (fun r1 s1 => oZ T0 s1 r1 (fun r2 => r2 = r))) : R T0 53 [a0, a1] r :=
 RMk (w53_eq ..) hi hn h
def an72 : AN := (sqL (.seq none (sqL (.one (.loop [0, 1, 7, 8] (sqL (.seq none (.two .leaf .leaf) (.seq none (.one (sqL (sqL (.two (sqM) .leaf)))) .leaf)))))) (sqM)))
def w72 (P : Prims) (a0 a1 : AV) (Q : AV -> AS -> Prop) : Prop :=
 P.oV 7 (ak T0 Tr.nil .len [33] [a0]) fun t7 =>
 P.oL [0, 1, 7, 8] (fun (next : C4) t0 t1 t7x1 t8 s1 =>
 P.oV 9 (ah T0 .lss 3 false t8 t7x1) fun t9 =>
 P.oI t9 (P.oV 14 (ai T0 33 t0 t8) fun t14 =>
  P.oV 15 (ac T0 s1.h 52 t14) fun t15 =>
  P.oF 16 t1 [t15] s1 fun t16 s2 =>
  P.oI t16 (Q t8 s2)
  (P.oV 18 (ah T0 .add 3 true t8 (.i .i64 1)) fun t18 =>
   next t0 t1 t7x1 t18 s2))
 (Q (.i .i64 (-1)) s1)) a0 a1 t7 (.i .i64 0) ⟨Tr.nil, 0⟩
theorem w72_eq (P : Prims) (a0 a1 : AV) (Q : AV -> AS -> Prop) : w72 P a0 a1 Q = VBd P Tryz.f72 an72 [a0, a1] Q := by kernel_rfl
theorem r72 (a0 a1 : AV) {r : AV} (hi : AV.idfree.idfrees [a0, a1] = true) (hn : AV.norm.norms [a0, a1] = [a0, a1]) (h : w72 (av T0) a0 a1 (fun r1 s1 => oZ T0 s1 r1 (fun r2 => r2 = r))) : R T0 72 [a0, a1] r :=
 RMk (w72_eq ..) hi hn h
def an73 : AN := (sqL (sqM))
def w73 (P : Prims) (a0 a1 : AV) (Q : AV -> AS -> Prop) : Prop :=
 P.oN 2 (.cells (AV.cells a0) 52 false) (fun id => (.ptr id 0)) ⟨Tr.nil, 0⟩ fun t2 s1 =>
 P.oV 4 (am 0 t2) fun t4 =>
 P.oV 5 (ac T0 s1.h 9 t4) fun t5 =>
 P.oV 6 (am 1 a1) fun t6 =>
 P.oV 7 (ac T0 s1.h 9 t6) fun t7 =>
 P.oV 8 (ah T0 .eql 9 false t5 t7) fun t8 =>
 Q t8 s1
theorem w73_eq (P : Prims) (a0 a1 : AV) (Q : AV -> AS -> Prop) : w73 P a0 a1 Q = VBd P Tryz.f73 an73 [a0, a1] Q := by kernel_rfl
theorem r73 (a0 a1 : AV) {r : AV} (hi : AV.idfree.idfrees [a0, a1] = true) (hn : AV.norm.norms [a0, a1] = [a0, a1]) (h : w73 (av T0) a0 a1 (fun r1 s1 => oZ T0 s1 r1 (fun r2 => r2 = r))) : R T0 73 [a0, a1] r :=
 RMk (w73_eq ..) hi hn h
def an74 : AN := (sqL (.seq none (sqL (.one (.loop [0, 1, 7, 8] (sqL (.seq none (.two .leaf .leaf) (.seq none (.one (sqL (sqL (.two (sqM) .leaf)))) .leaf)))))) (sqM)))
def w74 (P : Prims) (a0 a1 : AV) (Q : AV -> AS -> Prop) : Prop :=
 P.oV 7 (ak T0 Tr.nil .len [32] [a0]) fun t7 =>
 P.oL [0, 1, 7, 8] (fun (next : C4) t0 t1 t7x1 t8 s1 =>
 P.oV 9 (ah T0 .lss 3 false t8 t7x1) fun t9 =>
 P.oI t9 (P.oV 14 (ai T0 32 t0 t8) fun t14 =>
  P.oV 15 (ac T0 s1.h 35 t14) fun t15 =>
  P.oF 16 t1 [t15] s1 fun t16 s2 =>
  P.oI t16 (Q t8 s2)
  (P.oV 18 (ah T0 .add 3 true t8 (.i .i64 1)) fun t18 =>
   next t0 t1 t7x1 t18 s2))
 (Q (.i .i64 (-1)) s1)) a0 a1 t7 (.i .i64 0) ⟨Tr.nil, 0⟩
theorem w74_eq (P : Prims) (a0 a1 : AV) (Q : AV -> AS -> Prop) : w74 P a0 a1 Q = VBd P Tryz.f74 an74 [a0, a1] Q := by kernel_rfl
theorem r74 (a0 a1 : AV) {r : AV} (hi : AV.idfree.idfrees [a0, a1] = true) (hn : AV.norm.norms [a0, a1] = [a0, a1]) (h : w74 (av T0) a0 a1 (fun r1 s1 => oZ T0 s1 r1 (fun r2 => r2 = r))) : R T0 74 [a0, a1] r :=
 RMk (w74_eq ..) hi hn h
def an75 : AN := (sqL (sqM))
def w75 (P : Prims) (a0 a1 : AV) (Q : AV -> AS -> Prop) : Prop :=
 P.oN 2 (.cells (AV.cells a0) 35 false) (fun id => (.ptr id 0)) ⟨Tr.nil, 0⟩ fun t2 s1 =>
 P.oV 4 (ac T0 s1.h 35 t2) fun t4 =>
 P.oV 5 (ac T0 s1.h 50 a1) fun t5 =>
 P.oC 6 76 [t4, t5] s1 fun t6 s2 =>
 Q t6 s2
theorem w75_eq (P : Prims) (a0 a1 : AV) (Q : AV -> AS -> Prop) : w75 P a0 a1 Q = VBd P Tryz.f75 an75 [a0, a1] Q := by kernel_rfl
theorem r75 (a0 a1 : AV) {r : AV} (hi : AV.idfree.idfrees [a0, a1] = true) (hn : AV.norm.norms [a0, a1] = [a0, a1]) (h : w75 (av T0) a0 a1 (fun r1 s1 => oZ T0 s1 r1 (fun r2 => r2 = r))) : R T0 75 [a0, a1] r :=
 RMk (w75_eq ..) hi hn h
def an76 : AN := (sqL (sqL (sqM)))
def w76 (P : Prims) (a0 a1 : AV) (Q : AV -> AS -> Prop) : Prop :=
 P.oN 2 (.cells (AV.cells a0) 35 false) (fun id => (.ptr id 0)) ⟨Tr.nil, 0⟩ fun t2 s1 =>
 P.oN 3 (.cells (AV.cells a1) 50 false) (fun id => (.ptr id 0)) s1 fun t3 s2 =>
 P.oV 8 (ac T0 s2.h 35 t2) fun t8 =>
 P.oV 9 (am 1 t3) fun t9 =>
 P.oV 10 (ac T0 s2.h 9 t9) fun t10 =>
 P.oC 11 101 [t8, t10] s2 fun t11 s3 =>
 P.oV 12 (aI 0 t11) fun t12 =>
 P.oV 13 (aI 1 t11) fun t13 =>
 P.oN 5 (.cells [(.i .i64 0), (.i .i64 0), (.s []), (.nilz true), (.nilz true)] 35 false) (fun id => (.ptr id 0)) s3 fun t5 s4 =>
 P.oH (aB T0 s4.h 35 t5 t12) s4 fun s5 =>
 P.oG [16, 17, 18] t13 true (fun (k : C3) => P.oV 16 (am 0 t5) fun t16 =>
  P.oV 17 (ac T0 s5.h 3 t16) fun t17 =>
  P.oV 18 (ah T0 .eql 3 true t17 (.i .i64 3)) fun t18 =>
  k t16 t17 t18 s5) s5 fun t16 t17 t18 s6 =>
 P.oV 19 (au t13 (some t18) (some (.b false))) fun t19 =>
 P.oG [21, 22, 23, 24, 25] t19 true (fun (k : C5) => P.oV 21 (am 2 t5) fun t21 =>
  P.oV 22 (ac T0 s6.h 9 t21) fun t22 =>
  P.oV 23 (am 3 t3) fun t23 =>
  P.oV 24 (ac T0 s6.h 9 t23) fun t24 =>
  P.oV 25 (ah T0 .eql 9 false t22 t24) fun t25 =>
  k t21 t22 t23 t24 t25 s6) s6 fun t21 t22 t23 t24 t25 s7 =>
 P.oV 26 (au t19 (some t25) (some (.b false))) fun t26 =>
 Q t26 s7
theorem w76_eq (P : Prims) (a0 a1 : AV) (Q : AV -> AS -> Prop) : w76 P a0 a1 Q = VBd P Tryz.f76 an76 [a0, a1] Q := by kernel_rfl
theorem r76 (a0 a1 : AV) {r : AV} (hi : AV.idfree.idfrees [a0, a1] = true) (hn : AV.norm.norms [a0, a1] = [a0, a1]) (h : w76 (av T0) a0 a1 (fun r1 s1 => oZ T0 s1 r1 (fun r2 => r2 = r))) : R T0 76 [a0, a1] r :=
 RMk (w76_eq ..) hi hn h
def an79 : AN := (sqL (.seq none (sqL (.one (.loop [1, 2, 5] (.seq none (sqL (.two .leaf .leaf)) (.seq none (.one (sqL (.two (sqM) .leaf))) .leaf))))) (sqM)))
def w79 (P : Prims) (a0 a1 : AV) (Q : AV -> AS -> Prop) : Prop :=
 P.oN 2 (.cells (AV.cells a0) 35 false) (fun id => (.ptr id 0)) ⟨Tr.nil, 0⟩ fun t2 s1 =>
 P.oL [1, 2, 5] (fun (next : C3) t1 t2x1 t5 s2 =>
 P.oV 7 (am 4 t2x1) fun t7 =>
 P.oV 8 (ac T0 s2.h 33 t7) fun t8 =>
 P.oV 9 (ak T0 s2.h .len [33] [t8]) fun t9 =>
 P.oV 10 (ah T0 .lss 3 false t5 t9) fun t10 =>
 P.oI t10 (P.oV 13 (am 0 t2x1) fun t13 =>
  P.oV 14 (ac T0 s2.h 3 t13) fun t14 =>
  P.oV 15 (ah T0 .eql 3 true t14 (.i .i64 5)) fun t15 =>
  P.oG [17, 18, 19, 20, 21, 22, 23, 24] t15 true (fun (k : C8) => P.oV 17 (am 4 t2x1) fun t17 =>
   P.oV 18 (ac T0 s2.h 33 t17) fun t18 =>
   P.oV 20 (ai T0 33 t18 t5) fun t20 =>
   P.oV 21 (am 0 t20) fun t21 =>
   P.oV 22 (ac T0 s2.h 9 t21) fun t22 =>
   P.oV 24 (ah T0 .eql 9 false t22 t1) fun t24 =>
   k t17 t18 t5 t20 t21 t22 t1 t24 s2) s2 fun t17 t18 t19 t20 t21 t22 t23 t24 s3 =>
  P.oV 25 (au t15 (some t24) (some (.b false))) fun t25 =>
  P.oI t25 (Q t5 s3)
  (P.oV 12 (ah T0 .add 3 true t5 (.i .i64 1)) fun t12 =>
   next t1 t2x1 t12 s3))
 (Q (.i .i64 (-1)) s2)) a1 t2 (.i .i64 0) s1
theorem w79_eq (P : Prims) (a0 a1 : AV) (Q : AV -> AS -> Prop) : w79 P a0 a1 Q = VBd P Tryz.f79 an79 [a0, a1] Q := by kernel_rfl
theorem r79 (a0 a1 : AV) {r : AV} (hi : AV.idfree.idfrees [a0, a1] = true) (hn : AV.norm.norms [a0, a1] = [a0, a1]) (h : w79 (av T0) a0 a1 (fun r1 s1 => oZ T0 s1 r1 (fun r2 => r2 = r))) : R T0 79 [a0, a1] r :=
 RMk (w79_eq ..) hi hn h
def an80 : AN := (sqL (sqL (sqM)))
def w80 (P : Prims) (a0 a1 a2 : AV) (Q : AV -> AS -> Prop) : Prop :=
 P.oN 3 (.cells (AV.cells a0) 35 false) (fun id => (.ptr id 0)) ⟨Tr.nil, 0⟩ fun t3 s1 =>
 P.oV 8 (ac T0 s1.h 35 t3) fun t8 =>
 P.oC 10 79 [t8, a1] s1 fun t10 s2 =>
 P.oV 12 (ah T0 .geq 3 true t10 (.i .i64 0)) fun t12 =>
 P.oG [14, 15, 16, 17, 18, 19, 20, 21] t12 true (fun (k : C8) => P.oV 14 (am 4 t3) fun t14 =>
  P.oV 15 (ac T0 s2.h 33 t14) fun t15 =>
  P.oV 17 (ai T0 33 t15 t10) fun t17 =>
  P.oV 18 (am 1 t17) fun t18 =>
  P.oV 19 (am 0 t18) fun t19 =>
  P.oV 20 (ac T0 s2.h 3 t19) fun t20 =>
  P.oV 21 (ah T0 .eql 3 true t20 (.i .i64 3)) fun t21 =>
  k t14 t15 t10 t17 t18 t19 t20 t21 s2) s2 fun t14 t15 t16 t17 t18 t19 t20 t21 s3 =>
 P.oV 22 (au t12 (some t21) (some (.b false))) fun t22 =>
 P.oG [24, 25, 26, 27, 28, 29, 30, 31, 32] t22 true (fun (k : C9) => P.oV 24 (am 4 t3) fun t24 =>
  P.oV 25 (ac T0 s3.h 33 t24) fun t25 =>
  P.oV 27 (ai T0 33 t25 t10) fun t27 =>
  P.oV 28 (am 1 t27) fun t28 =>
  P.oV 29 (am 2 t28) fun t29 =>
  P.oV 30 (ac T0 s3.h 9 t29) fun t30 =>
  P.oV 32 (ah T0 .eql 9 false t30 a2) fun t32 =>
  k t24 t25 t10 t27 t28 t29 t30 a2 t32 s3) s3 fun t24 t25 t26 t27 t28 t29 t30 t31 t32 s4 =>
 P.oV 33 (au t22 (some t32) (some (.b false))) fun t33 =>
 Q t33 s4
theorem w80_eq (P : Prims) (a0 a1 a2 : AV) (Q : AV -> AS -> Prop) : w80 P a0 a1 a2 Q = VBd P Tryz.f80 an80 [a0, a1, a2] Q := by kernel_rfl
theorem r80 (a0 a1 a2 : AV) {r : AV} (hi : AV.idfree.idfrees [a0, a1, a2] = true) (hn : AV.norm.norms [a0, a1, a2] = [a0, a1, a2]) (h : w80 (av T0) a0 a1 a2 (fun r1 s1 => oZ T0 s1 r1 (fun r2 => r2 = r))) : R T0 80 [a0, a1, a2] r :=
 RMk (w80_eq ..) hi hn h
def an81 : AN := (sqL (sqL (.seq none (sqL (.two (sqM) .leaf)) (sqL (sqL (sqL (sqM)))))))
def w81 (P : Prims) (a0 a1 a2 : AV) (s : AS) (Q : AV -> AS -> Prop) : Prop :=
 P.oV 12 (ak T0 s.h .len [33] [a0]) fun t12 =>
 P.oV 13 (aL T0 s.h 33 a0 (some a1) (some a2) (some t12)) fun t13 =>
 P.oV 16 (ah T0 .eql 3 false a1 a2) fun t16 =>
 P.oI t16 (Q a0 s)
 (P.oV 19 (ak T0 s.h .len [33] [a0]) fun t19 =>
  P.oV 22 (aL T0 Tr.nil 33 a0 none (some a1) none) fun t22 =>
  P.oV 25 (aL T0 Tr.nil 33 a0 (some a2) none none) fun t25 =>
  P.oM 26 (aD T0 s 33 33 t22 t25) fun t26 s1 =>
  P.oV 29 (ak T0 s1.h .len [33] [t26]) fun t29 =>
  P.oV 31 (aL T0 s1.h 33 t26 (some t29) (some t19) none) fun t31 =>
  P.oM 0 (dY T0 s1 33 t31) fun t0 s2 =>
  Q t26 s2)
theorem w81_eq (P : Prims) (a0 a1 a2 : AV) (s : AS) (Q : AV -> AS -> Prop) : w81 P a0 a1 a2 s Q = bI P T0 Tryz.f81 (bx Tryz.f81) an81 [a0, a1, a2] s Q := by kernel_rfl
theorem r81 (a0 a1 a2 : AV) {s s' : AS} {r : AV} (h : w81 (av T0) a0 a1 a2 s (fun r1 s1 => r1 = r /\ s1 = s')) : Runs T0 81 [a0, a1, a2] s r s' :=
 Runs.mk (by kernel_rfl) (by kernel_rfl) (show T0.fn 81 = some Tryz.f81 by kernel_rfl) (by kernel_rfl) (by kernel_rfl) (by kernel_rfl) (by rw [w81_eq] at h; exact h)
def an82 : AN := (sqL (sqL (.seq none (sqL (.two (sqM) .leaf)) (sqL (sqL (sqL (sqM)))))))
def w82 (P : Prims) (a0 a1 a2 : AV) (s : AS) (Q : AV -> AS -> Prop) : Prop :=
 P.oV 12 (ak T0 s.h .len [32] [a0]) fun t12 =>
 P.oV 13 (aL T0 s.h 32 a0 (some a1) (some a2) (some t12)) fun t13 =>
 P.oV 16 (ah T0 .eql 3 false a1 a2) fun t16 =>
 P.oI t16 (Q a0 s)
 (P.oV 19 (ak T0 s.h .len [32] [a0]) fun t19 =>
  P.oV 22 (aL T0 Tr.nil 32 a0 none (some a1) none) fun t22 =>
  P.oV 25 (aL T0 Tr.nil 32 a0 (some a2) none none) fun t25 =>
  P.oM 26 (aD T0 s 32 32 t22 t25) fun t26 s1 =>
  P.oV 29 (ak T0 s1.h .len [32] [t26]) fun t29 =>
  P.oV 31 (aL T0 s1.h 32 t26 (some t29) (some t19) none) fun t31 =>
  P.oM 0 (dY T0 s1 32 t31) fun t0 s2 =>
  Q t26 s2)
theorem w82_eq (P : Prims) (a0 a1 a2 : AV) (s : AS) (Q : AV -> AS -> Prop) : w82 P a0 a1 a2 s Q = bI P T0 Tryz.f82 (bx Tryz.f82) an82 [a0, a1, a2] s Q := by kernel_rfl
theorem r82 (a0 a1 a2 : AV) {s s' : AS} {r : AV} (h : w82 (av T0) a0 a1 a2 s (fun r1 s1 => r1 = r /\ s1 = s')) : Runs T0 82 [a0, a1, a2] s r s' :=
 Runs.mk (by kernel_rfl) (by kernel_rfl) (show T0.fn 82 = some Tryz.f82 by kernel_rfl) (by kernel_rfl) (by kernel_rfl) (by kernel_rfl) (by rw [w82_eq] at h; exact h)
def an101 : AN := (sqL (.seq (some [4]) (sqL (.two (sqL (.one (.loop [4, 1, 12, 13, 14] (sqL (.seq none (.two .leaf .leaf) (.seq none (.one (sqL (sqL (.two (sqM) .leaf)))) .leaf)))))) .leaf)) (sqM)))
def w101 (P : Prims) (a0 a1 : AV) (Q : AV -> AS -> Prop) : Prop :=
 P.oN 2 (.cells (AV.cells a0) 35 false) (fun id => (.ptr id 0)) ⟨Tr.nil, 0⟩ fun t2 s1 =>
 P.oN 4 (.cells [(.i .i64 0), (.i .i64 0), (.s []), (.nilz true), (.nilz true)] 35 false) (fun id => (.ptr id 0)) s1 fun t4 s2 =>
 P.oJ [4] (fun (k : C1) =>
  P.oV 8 (am 0 t2) fun t8 =>
  P.oV 9 (ac T0 s2.h 3 t8) fun t9 =>
  P.oV 10 (ah T0 .eql 3 true t9 (.i .i64 5)) fun t10 =>
  P.oI t10 (P.oV 11 (am 4 t2) fun t11 =>
   P.oV 12 (ac T0 s2.h 33 t11) fun t12 =>
   P.oV 13 (ak T0 s2.h .len [33] [t12]) fun t13 =>
   P.oL [4, 1, 12, 13, 14] (fun (next : C5) t4x1 t1 t12x1 t13x1 t14 s3 =>
   P.oV 15 (ah T0 .lss 3 false t14 t13x1) fun t15 =>
   P.oI t15 (P.oV 16 (ai T0 33 t12x1 t14) fun t16 =>
    P.oV 17 (ac T0 s3.h 52 t16) fun t17 =>
    P.oN 7 (.cells [(.s []), (.i .i64 0), (.i .i64 0), (.s []), (.nilz true), (.nilz true)] 52 false) (fun id => (.ptr id 0)) s3 fun t7 s4 =>
    P.oH (aB T0 s4.h 52 t7 t17) s4 fun s5 =>
    P.oV 18 (am 0 t7) fun t18 =>
    P.oV 19 (ac T0 s5.h 9 t18) fun t19 =>
    P.oV 21 (ah T0 .eql 9 false t19 t1) fun t21 =>
    P.oI t21 (P.oV 22 (am 1 t7) fun t22 =>
     P.oV 23 (ac T0 s5.h 35 t22) fun t23 =>
     P.oC 24 107 [t23] s5 fun t24 s6 =>
     P.oH (aB T0 s6.h 35 t4x1 t24) s6 fun s7 =>
     P.oV 4 (ac T0 s7.h 35 t4x1) fun t4x2 =>
     Q (.tup [t4x2, (.b true)]) s7)
    (P.oV 25 (ah T0 .add 3 true t14 (.i .i64 1)) fun t25 =>
     next t4x1 t1 t12x1 t13x1 t25 s5))
   (k t4x1 s3)) t4 a1 t12 t13 (.i .i64 0) s2)
  (k t4 s2))
 (fun t4x1 s3 =>
 P.oV 26 (aO T0 35 []) fun t26 =>
 P.oH (aB T0 s3.h 35 t4x1 t26) s3 fun s4 =>
 P.oV 4 (ac T0 s4.h 35 t4x1) fun t4x2 =>
 Q (.tup [t4x2, (.b false)]) s4)
theorem w101_eq (P : Prims) (a0 a1 : AV) (Q : AV -> AS -> Prop) : w101 P a0 a1 Q = VBd P Tryz.f101 an101 [a0, a1] Q := by kernel_rfl
theorem r101 (a0 a1 : AV) {r : AV} (hi : AV.idfree.idfrees [a0, a1] = true) (hn : AV.norm.norms [a0, a1] = [a0, a1]) (h : w101 (av T0) a0 a1 (fun r1 s1 => oZ T0 s1 r1 (fun r2 => r2 = r))) : R T0 101 [a0, a1] r :=
 RMk (w101_eq ..) hi hn h
def an107 : AN := (sqL (sqL (.seq none (sqL (.one (.loop [2, 1, 12, 13, 14] (sqL (.seq none (.two .leaf .leaf) (.seq none (.one (sqM)) .leaf)))))) (sqL (.seq none (sqL (.one (.loop [2, 1, 31, 32, 33] (sqL (.seq none (.two .leaf .leaf) (.seq none (.one (sqM)) .leaf)))))) (sqM))))))
def w107 (P : Prims) (a0 : AV) (Q : AV -> AS -> Prop) : Prop :=
 P.oN 1 (.cells (AV.cells a0) 35 false) (fun id => (.ptr id 0)) ⟨Tr.nil, 0⟩ fun t1 s1 =>
 P.oN 2 (.cells [(.i .i64 0), (.i .i64 0), (.s []), (.nilz true), (.nilz true)] 35 false) (fun id => (.ptr id 0)) s1 fun t2 s2 =>
 P.oV 7 (am 3 t1) fun t7 =>
 P.oV 8 (ac T0 s2.h 32 t7) fun t8 =>
 P.oC 9 77 [t8] s2 fun t9 s3 =>
 P.oV 10 (am 3 t1) fun t10 =>
 P.oH (aB T0 s3.h 32 t10 t9) s3 fun s4 =>
 P.oV 11 (am 3 t1) fun t11 =>
 P.oV 12 (ac T0 s4.h 32 t11) fun t12 =>
 P.oV 13 (ak T0 s4.h .len [32] [t12]) fun t13 =>
 P.oL [2, 1, 12, 13, 14] (fun (next : C5) t2x1 t1x1 t12x1 t13x1 t14 s5 =>
 P.oV 15 (ah T0 .lss 3 false t14 t13x1) fun t15 =>
 P.oI t15 (P.oV 17 (ai T0 32 t12x1 t14) fun t17 =>
  P.oV 18 (ac T0 s5.h 35 t17) fun t18 =>
  P.oN 4 (.cells [(.i .i64 0), (.i .i64 0), (.s []), (.nilz true), (.nilz true)] 35 false) (fun id => (.ptr id 0)) s5 fun t4 s6 =>
  P.oH (aB T0 s6.h 35 t4 t18) s6 fun s7 =>
  P.oV 19 (am 3 t1x1) fun t19 =>
  P.oV 20 (ac T0 s7.h 32 t19) fun t20 =>
  P.oV 22 (ac T0 s7.h 35 t4) fun t22 =>
  P.oT (mj [t22]) (P.oC 23 107 [t22] s7 fun t23 s8 =>
  P.oV 24 (ai T0 32 t20 t14) fun t24 =>
  P.oD (aY T0 s7.h 35 t24 t23) fun i b =>
  P.oT ((bU s7.n (gb [[], [0], [], [], [3], [3, 4, 2, 0, 1], [3, 4, 2, 0, 1, 5]]) [3, 4, 2, 0, 1, 5] [] i [4, 3, 1]) && (ce [3, 4, 2, 0, 1, 5] i [])) (P.oS ⟨(s7.h.put i (some b)), s7.n⟩ fun s9 =>
  P.oV 25 (ah T0 .add 3 true t14 (.i .i64 1)) fun t25 =>
  next t2x1 t1x1 t12x1 t13x1 t25 s9)))
 (P.oV 26 (am 4 t1x1) fun t26 =>
  P.oV 27 (ac T0 s5.h 33 t26) fun t27 =>
  P.oC 28 78 [t27] s5 fun t28 s6 =>
  P.oV 29 (am 4 t1x1) fun t29 =>
  P.oH (aB T0 s6.h 33 t29 t28) s6 fun s7 =>
  P.oV 30 (am 4 t1x1) fun t30 =>
  P.oV 31 (ac T0 s7.h 33 t30) fun t31 =>
  P.oV 32 (ak T0 s7.h .len [33] [t31]) fun t32 =>
  P.oL [2, 1, 31, 32, 33] (fun (nextx1 : C5) t2x2 t1x2 t31x1 t32x1 t33 s8 =>
  P.oV 34 (ah T0 .lss 3 false t33 t32x1) fun t34 =>
  P.oI t34 (P.oV 36 (ai T0 33 t31x1 t33) fun t36 =>
   P.oV 37 (ac T0 s8.h 52 t36) fun t37 =>
   P.oN 6 (.cells [(.s []), (.i .i64 0), (.i .i64 0), (.s []), (.nilz true), (.nilz true)] 52 false) (fun id => (.ptr id 0)) s8 fun t6 s9 =>
   P.oH (aB T0 s9.h 52 t6 t37) s9 fun s10 =>
   P.oV 38 (am 4 t1x2) fun t38 =>
   P.oV 39 (ac T0 s10.h 33 t38) fun t39 =>
   P.oV 41 (am 1 t6) fun t41 =>
   P.oV 42 (ac T0 s10.h 35 t41) fun t42 =>
   P.oT (mj [t42]) (P.oC 43 107 [t42] s10 fun t43 s11 =>
   P.oV 44 (ai T0 33 t39 t33) fun t44 =>
   P.oV 45 (am 1 t44) fun t45 =>
   P.oD (aY T0 s10.h 35 t45 t43) fun i b =>
   P.oT ((bU s10.n (gb [[], [0], [], [], [3], [3, 4], [3, 4, 5, 2, 0, 1], [3, 4, 5, 2, 0, 1, 6], [3, 4, 5, 2, 0, 1, 6, 7]]) [3, 4, 5, 2, 0, 1, 6, 7] [] i [5, 4, 1]) && (ce [3, 4, 5, 2, 0, 1, 6, 7] i [])) (P.oS ⟨(s10.h.put i (some b)), s10.n⟩ fun s12 =>
   P.oV 46 (ah T0 .add 3 true t33 (.i .i64 1)) fun t46 =>
   nextx1 t2x2 t1x2 t31x1 t32x1 t46 s12)))
  (P.oV 47 (ac T0 s8.h 35 t1x2) fun t47 =>
   P.oH (aB T0 s8.h 35 t2x2 t47) s8 fun s9 =>
   P.oV 2 (ac T0 s9.h 35 t2x2) fun t2x3 =>
   Q t2x3 s9)) t2x1 t1x1 t31 t32 (.i .i64 0) s7)) t2 t1 t12 t13 (.i .i64 0) s4
theorem w107_eq (P : Prims) (a0 : AV) (Q : AV -> AS -> Prop) : w107 P a0 Q = VBd P Tryz.f107 an107 [a0] Q := by kernel_rfl
end Go.Proofs.YtmfhmlhaofpeiaaGreatDoor.Ev
