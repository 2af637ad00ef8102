/- The functions' code, laid out. Printed by WP.lean.txt, a program of this session's. -/
import Derived.Test.YtmfhmlhaofpeiaaGreatDoorEvF
namespace Go.Proofs.YtmfhmlhaofpeiaaGreatDoor.Ev
open Go Go.RowKit
set_option linter.unusedVariables false
set_option maxRecDepth 100000
def an10 : AN := (sqL (.seq none (sqL (.two (sqM) .leaf)) (sqL (sqL (.seq none (sqL (.two (sqM) .leaf)) (.seq none (sqL (.two (sqM) .leaf)) (sqL (sqL (sqM)))))))))
def w10 (P : Prims) (a0 a1 : AV) (Q : AV -> AS -> Prop) : Prop :=
 P.oN 2 (.cells (AV.cells a0) 35 false) (fun id => (.ptr id 0)) ⟨Tr.nil, 0⟩ fun t2 s1 =>
 P.oV 13 (ac T0 s1.h 35 t2) fun t13 =>
 P.oC 14 22 [t13, (.i .i64 2000)] s1 fun t14 s2 =>
 P.oV 15 (cZ .not t14) fun t15 =>
 P.oG [17, 18, 19] t15 false (fun (k : C3) => P.oC 18 11 [a1] s2 fun t18 s3 =>
  P.oV 19 (cZ .not t18) fun t19 =>
  k a1 t18 t19 s3) s2 fun t17 t18 t19 s3 =>
 P.oV 20 (au t15 (some (.b true)) (some t19)) fun t20 =>
 P.oG [22, 23, 24] t20 false (fun (k : C3) => P.oV 23 (aj T0 s3.h .len [22] [a1]) fun t23 =>
  P.oV 24 (af T0 .eql 3 true t23 (.i .i64 0)) fun t24 =>
  k a1 t23 t24 s3) s3 fun t22 t23 t24 s4 =>
 P.oV 25 (au t20 (some (.b true)) (some t24)) fun t25 =>
 P.oG [27, 28, 29, 30, 31, 32, 33, 34] t25 false (fun (k : C8) => P.oV 29 (aj T0 s4.h .len [22] [a1]) fun t29 =>
  P.oV 30 (af T0 .sub 3 true t29 (.i .i64 1)) fun t30 =>
  P.oV 31 (ai T0 22 a1 t30) fun t31 =>
  P.oV 32 (ar 0 t31) fun t32 =>
  P.oV 33 (ac T0 s4.h 3 t32) fun t33 =>
  P.oV 34 (af T0 .neq 3 true t33 (.i .i64 1)) fun t34 =>
  k a1 a1 t29 t30 t31 t32 t33 t34 s4) s4 fun t27 t28 t29 t30 t31 t32 t33 t34 s5 =>
 P.oV 35 (au t25 (some (.b true)) (some t34)) fun t35 =>
 P.oG [37, 38, 39] t35 false (fun (k : C3) => P.oC 38 31 [a1] s5 fun t38 s6 =>
  P.oV 39 (cZ .not t38) fun t39 =>
  k a1 t38 t39 s6) s5 fun t37 t38 t39 s6 =>
 P.oV 40 (au t35 (some (.b true)) (some t39)) fun t40 =>
 P.oG [42, 43, 44] t40 false (fun (k : C3) => P.oV 42 (ac T0 s6.h 35 t2) fun t42 =>
  P.oC 43 30 [t42] s6 fun t43 s7 =>
  P.oV 44 (cZ .not t43) fun t44 =>
  k t42 t43 t44 s7) s6 fun t42 t43 t44 s7 =>
 P.oV 45 (au t40 (some (.b true)) (some t44)) fun t45 =>
 P.oI t45 (P.oC 46 12 [] s7 fun t46 s8 =>
  Q t46 s8)
 (P.oV 48 (ac T0 s7.h 35 t2) fun t48 =>
  P.oC 50 23 [t48, a1] s7 fun t50 s8 =>
  P.oV 51 (aI 0 t50) fun t51 =>
  P.oV 52 (aI 1 t50) fun t52 =>
  P.oN 5 (.cells [(.i .i64 0), (.i .i64 0), (.s []), (.nilz true), (.nilz true)] 35 false) (fun id => (.ptr id 0)) s8 fun t5 s9 =>
  P.oH (az T0 s9.h 35 t5 t51) s9 fun s10 =>
  P.oV 54 (ac T0 s10.h 35 t2) fun t54 =>
  P.oC 56 25 [t54, a1] s10 fun t56 s11 =>
  P.oV 57 (aI 0 t56) fun t57 =>
  P.oV 58 (aI 1 t56) fun t58 =>
  P.oN 7 (.cells [(.i .i64 0), (.i .i64 0), (.s []), (.nilz true), (.nilz true)] 35 false) (fun id => (.ptr id 0)) s11 fun t7 s12 =>
  P.oH (az T0 s12.h 35 t7 t57) s12 fun s13 =>
  P.oV 61 (af T0 .neq 4 false t52 t58) fun t61 =>
  P.oI t61 (Q (.b false) s13)
  (P.oV 63 (cZ .not t58) fun t63 =>
   P.oI t63 (P.oC 64 12 [] s13 fun t64 s14 =>
    Q t64 s14)
   (P.oV 66 (ac T0 s13.h 35 t7) fun t66 =>
    P.oC 68 23 [t66, a1] s13 fun t68 s14 =>
    P.oV 69 (aI 0 t68) fun t69 =>
    P.oV 70 (aI 1 t68) fun t70 =>
    P.oN 9 (.cells [(.i .i64 0), (.i .i64 0), (.s []), (.nilz true), (.nilz true)] 35 false) (fun id => (.ptr id 0)) s14 fun t9 s15 =>
    P.oH (az T0 s15.h 35 t9 t69) s15 fun s16 =>
    P.oV 72 (ac T0 s16.h 35 t7) fun t72 =>
    P.oV 74 (ac T0 s16.h 35 t5) fun t74 =>
    P.oC 75 28 [t72, a1, t74] s16 fun t75 s17 =>
    P.oV 76 (aI 0 t75) fun t76 =>
    P.oV 77 (aI 1 t75) fun t77 =>
    P.oN 11 (.cells [(.i .i64 0), (.i .i64 0), (.s []), (.nilz true), (.nilz true)] 35 false) (fun id => (.ptr id 0)) s17 fun t11 s18 =>
    P.oH (az T0 s18.h 35 t11 t76) s18 fun s19 =>
    P.oV 79 (cZ .not t70) fun t79 =>
    P.oG [81, 82] t79 true (fun (k : C2) => P.oV 82 (af T0 .eql 26 true t77 (.i .i64 0)) fun t82 =>
     k t77 t82 s19) s19 fun t81 t82 s20 =>
    P.oV 83 (au t79 (some t82) (some (.b false))) fun t83 =>
    P.oG [85, 86, 87] t83 true (fun (k : C3) => P.oV 85 (ac T0 s20.h 35 t11) fun t85 =>
     P.oV 86 (ac T0 s20.h 35 t2) fun t86 =>
     P.oC 87 27 [t85, t86] s20 fun t87 s21 =>
     k t85 t86 t87 s21) s20 fun t85 t86 t87 s21 =>
    P.oV 88 (au t83 (some t87) (some (.b false))) fun t88 =>
    P.oG [90] t88 true (fun (k : C1) => P.oC 90 12 [] s21 fun t90 s22 =>
     k t90 s22) s21 fun t90 s22 =>
    P.oV 91 (au t88 (some t90) (some (.b false))) fun t91 =>
    Q t91 s22)))
theorem w10_eq (P : Prims) (a0 a1 : AV) (Q : AV -> AS -> Prop) : w10 P a0 a1 Q = VBd P Tryz.f10 an10 [a0, a1] Q := by kernel_rfl
theorem r10 (a0 a1 : AV) {r : AV} (hi : AV.idfree.idfrees [a0, a1] = true) (hn : AV.norm.norms [a0, a1] = [a0, a1]) (h : w10 (av T0) a0 a1 (fun r1 s1 => oZ T0 s1 r1 (fun r2 => r2 = r))) : R T0 10 [a0, a1] r :=
 RMk (w10_eq ..) hi hn h
def an28 : AN := (sqL (.seq none (sqL (.two (sqM) .leaf)) (sqL (.seq none (.one (sqL (.two (sqM) (sqL (.two (sqM) .leaf))))) (sqM)))))
def w28 (P : Prims) (a0 a1 a2 : AV) (Q : AV -> AS -> Prop) : Prop :=
 P.oN 3 (.cells (AV.cells a0) 35 false) (fun id => (.ptr id 0)) ⟨Tr.nil, 0⟩ fun t3 s1 =>
 P.oN 5 (.cells (AV.cells a2) 35 false) (fun id => (.ptr id 0)) s1 fun t5 s2 =>
 P.oN 6 (.cells [(.i .i64 0), (.i .i64 0), (.s []), (.nilz true), (.nilz true)] 35 false) (fun id => (.ptr id 0)) s2 fun t6 s3 =>
 P.oC 11 13 [a1] s3 fun t11 s4 =>
 P.oV 12 (cZ .not t11) fun t12 =>
 P.oG [14, 15, 16] t12 false (fun (k : C3) => P.oV 14 (ac T0 s4.h 35 t3) fun t14 =>
  P.oC 15 54 [t14] s4 fun t15 s5 =>
  P.oV 16 (cZ .not t15) fun t16 =>
  k t14 t15 t16 s5) s4 fun t14 t15 t16 s5 =>
 P.oV 17 (au t12 (some (.b true)) (some t16)) fun t17 =>
 P.oG [19, 20, 21] t17 false (fun (k : C3) => P.oV 19 (ac T0 s5.h 35 t5) fun t19 =>
  P.oC 20 54 [t19] s5 fun t20 s6 =>
  P.oV 21 (cZ .not t20) fun t21 =>
  k t19 t20 t21 s6) s5 fun t19 t20 t21 s6 =>
 P.oV 22 (au t17 (some (.b true)) (some t21)) fun t22 =>
 P.oI t22 (P.oV 23 (bF T0 35 []) fun t23 =>
  P.oH (az T0 s6.h 35 t6 t23) s6 fun s7 =>
  P.oV 6 (ac T0 s7.h 35 t6) fun t6x1 =>
  Q (.tup [t6x1, (.i .i64 1)]) s7)
 (P.oV 25 (ac T0 s6.h 35 t3) fun t25 =>
  P.oV 27 (ac T0 s6.h 35 t5) fun t27 =>
  P.oC 28 55 [t25, a1, t27] s6 fun t28 s7 =>
  P.oV 29 (aI 0 t28) fun t29 =>
  P.oV 30 (aI 1 t28) fun t30 =>
  P.oN 8 (.cells [(.i .i64 0), (.i .i64 0), (.s []), (.nilz true), (.nilz true)] 35 false) (fun id => (.ptr id 0)) s7 fun t8 s8 =>
  P.oH (az T0 s8.h 35 t8 t29) s8 fun s9 =>
  P.oV 33 (af T0 .neq 26 true t30 (.i .i64 0)) fun t33 =>
  P.oI t33 (P.oV 34 (bF T0 35 []) fun t34 =>
   P.oH (az T0 s9.h 35 t6 t34) s9 fun s10 =>
   P.oV 6 (ac T0 s10.h 35 t6) fun t6x1 =>
   Q (.tup [t6x1, t30]) s10)
  (P.oV 37 (ac T0 s9.h 35 t8) fun t37 =>
   P.oC 38 54 [t37] s9 fun t38 s10 =>
   P.oV 39 (cZ .not t38) fun t39 =>
   P.oI t39 (P.oV 40 (bF T0 35 []) fun t40 =>
    P.oH (az T0 s10.h 35 t6 t40) s10 fun s11 =>
    P.oV 6 (ac T0 s11.h 35 t6) fun t6x1 =>
    Q (.tup [t6x1, (.i .i64 4)]) s11)
   (P.oV 41 (ac T0 s10.h 35 t8) fun t41 =>
    P.oC 42 50 [t41] s10 fun t42 s11 =>
    P.oH (az T0 s11.h 35 t6 t42) s11 fun s12 =>
    P.oV 6 (ac T0 s12.h 35 t6) fun t6x1 =>
    Q (.tup [t6x1, (.i .i64 0)]) s12)))
theorem w28_eq (P : Prims) (a0 a1 a2 : AV) (Q : AV -> AS -> Prop) : w28 P a0 a1 a2 Q = VBd P Tryz.f28 an28 [a0, a1, a2] Q := by kernel_rfl
theorem r28 (a0 a1 a2 : AV) {r : AV} (hi : AV.idfree.idfrees [a0, a1, a2] = true) (hn : AV.norm.norms [a0, a1, a2] = [a0, a1, a2]) (h : w28 (av T0) a0 a1 a2 (fun r1 s1 => oZ T0 s1 r1 (fun r2 => r2 = r))) : R T0 28 [a0, a1, a2] r :=
 RMk (w28_eq ..) hi hn h
def an31 : AN := (sqL (.seq none (sqL (.one (.loop [5, 6, 7] (sqL (.seq none (.two .leaf .leaf) (.seq none (.one (sqL (sqL (.two (sqM) .leaf)))) .leaf)))))) (sqM)))
def w31 (P : Prims) (a0 : AV) (Q : AV -> AS -> Prop) : Prop :=
 P.oV 6 (aj T0 Tr.nil .len [22] [a0]) fun t6 =>
 P.oL [5, 6, 7] (fun (next : C3) t5 t6x1 t7 s1 =>
 P.oV 8 (af T0 .lss 3 false t7 t6x1) fun t8 =>
 P.oI t8 (P.oV 9 (ai T0 22 t5 t7) fun t9 =>
  P.oV 10 (ac T0 s1.h 50 t9) fun t10 =>
  P.oN 4 (.cells [(.i .i64 0), (.s []), (.i .i64 0), (.s [])] 50 false) (fun id => (.ptr id 0)) s1 fun t4 s2 =>
  P.oH (az T0 s2.h 50 t4 t10) s2 fun s3 =>
  P.oV 11 (ar 0 t4) fun t11 =>
  P.oV 12 (ac T0 s3.h 3 t11) fun t12 =>
  P.oV 13 (af T0 .eql 3 true t12 (.i .i64 3)) fun t13 =>
  P.oI t13 (Q (.b false) s3)
  (P.oV 14 (af T0 .add 3 true t7 (.i .i64 1)) fun t14 =>
   next t5 t6x1 t14 s3))
 (Q (.b true) s1)) a0 t6 (.i .i64 0) ⟨Tr.nil, 0⟩
theorem w31_eq (P : Prims) (a0 : AV) (Q : AV -> AS -> Prop) : w31 P a0 Q = VBd P Tryz.f31 an31 [a0] Q := by kernel_rfl
theorem r31 (a0 : AV) {r : AV} (hi : AV.idfree.idfrees [a0] = true) (hn : AV.norm.norms [a0] = [a0]) (h : w31 (av T0) a0 (fun r1 s1 => oZ T0 s1 r1 (fun r2 => r2 = r))) : R T0 31 [a0] r :=
 RMk (w31_eq ..) hi hn h
def an55 : AN := (sqL (.seq none (sqL (.two (sqM) .leaf)) (sqL (.seq none (sqL (sqL (.two (sqM) .leaf))) (sqL (sqL (.seq (some [6, 11, 3, 8, 5, 9, 12]) (.one (sqL (.two .leaf (sqL (.two .leaf (sqL (.two (sqM) (sqL (.two .leaf .leaf))))))))) (sqL (.seq none (sqL (.two (sqM) .leaf)) (.seq none (sqL (.two (sqM) .leaf)) (.seq none (sqL (.two (sqM) .leaf)) (sqL (.seq (some [6, 15]) (sqL (.two .leaf .leaf)) (sqM))))))))))))))
def w55 (P : Prims) (a0 a1 a2 : AV) (Q : AV -> AS -> Prop) : Prop :=
 P.oN 3 (.cells (AV.cells a0) 35 false) (fun id => (.ptr id 0)) ⟨Tr.nil, 0⟩ fun t3 s1 =>
 P.oN 5 (.cells (AV.cells a2) 35 false) (fun id => (.ptr id 0)) s1 fun t5 s2 =>
 P.oN 6 (.cells [(.i .i64 0), (.i .i64 0), (.s []), (.nilz true), (.nilz true)] 35 false) (fun id => (.ptr id 0)) s2 fun t6 s3 =>
 P.oV 17 (aj T0 s3.h .len [22] [a1]) fun t17 =>
 P.oV 18 (af T0 .eql 3 true t17 (.i .i64 0)) fun t18 =>
 P.oI t18 (P.oV 19 (ac T0 s3.h 35 t5) fun t19 =>
  P.oH (az T0 s3.h 35 t6 t19) s3 fun s4 =>
  P.oV 6 (ac T0 s4.h 35 t6) fun t6x1 =>
  Q (.tup [t6x1, (.i .i64 0)]) s4)
 (P.oV 21 (ai T0 22 a1 (.i .i64 0)) fun t21 =>
  P.oV 22 (ac T0 s3.h 50 t21) fun t22 =>
  P.oV 24 (aL T0 Tr.nil 22 a1 (some (.i .i64 1)) none none) fun t24 =>
  P.oT (bD s3.n [5, 0, 1, 2] [(5, (s3.n, (some (.cells [(.i .i64 0), (.s []), (.i .i64 0), (.s [])] 50 false))))] [(5, (s3.n, (some (.cells [(.i .i64 0), (.s []), (.i .i64 0), (.s [])] 50 false))))]) (P.oD (ba T0 (s3.h.put s3.n (some (.cells [(.i .i64 0), (.s []), (.i .i64 0), (.s [])] 50 false))) 50 (.ptr s3.n 0) t22) fun i b =>
  P.oT ((cb s3.n (ib [[], [0], [0, 1], [], [3], [], [5, 0, 1, 2], [5, 0, 1, 2, 6, 3, 4]]) [5, 0, 1, 2] [(5, (s3.n, (some (.cells [(.i .i64 0), (.s []), (.i .i64 0), (.s [])] 50 false))))] i [2]) && (cE [5, 0, 1, 2] i [(5, (s3.n, (some (.cells [(.i .i64 0), (.s []), (.i .i64 0), (.s [])] 50 false))))])) (P.oS ⟨((s3.h.put s3.n (some (.cells [(.i .i64 0), (.s []), (.i .i64 0), (.s [])] 50 false))).put i (some b)), (s3.n + 1)⟩ fun s4 =>
  P.oV 25 (ar 0 (.ptr s3.n 0)) fun t25 =>
  P.oV 26 (ac T0 s4.h 3 t25) fun t26 =>
  P.oV 27 (af T0 .eql 3 true t26 (.i .i64 1)) fun t27 =>
  P.oG [29, 30, 31] t27 true (fun (k : C3) => P.oV 29 (ar 0 t3) fun t29 =>
   P.oV 30 (ac T0 s4.h 3 t29) fun t30 =>
   P.oV 31 (af T0 .neq 3 true t30 (.i .i64 5)) fun t31 =>
   k t29 t30 t31 s4) s4 fun t29 t30 t31 s5 =>
  P.oV 32 (au t27 (some t31) (some (.b false))) fun t32 =>
  P.oG [34, 35, 36, 37] t32 false (fun (k : C4) => P.oV 34 (ar 0 (.ptr s3.n 0)) fun t34 =>
   P.oV 35 (ac T0 s5.h 3 t34) fun t35 =>
   P.oV 36 (af T0 .neq 3 true t35 (.i .i64 1)) fun t36 =>
   k t34 t35 t36 t36 s5) s5 fun t34 t35 t36 t37 s6 =>
  P.oG [38, 39, 40, 41] t37 true (fun (k : C4) => P.oV 38 (ar 0 t3) fun t38 =>
   P.oV 39 (ac T0 s6.h 3 t38) fun t39 =>
   P.oV 41 (af T0 .neq 3 false t39 (.i .i64 4)) fun t41 =>
   k t38 t39 (.i .i64 4) t41 s6) s6 fun t38 t39 t40 t41 s7 =>
  P.oG [42] t32 false (fun (k : C1) => P.oV 42 (au t37 (some t41) (some (.b false))) fun t42 =>
   k t42 s7) s7 fun t42 s8 =>
  P.oV 43 (au t32 (some (.b true)) (some t42)) fun t43 =>
  P.oI t43 (P.oV 44 (bF T0 35 []) fun t44 =>
   P.oH (az T0 s8.h 35 t6 t44) s8 fun s9 =>
   P.oV 6 (ac T0 s9.h 35 t6) fun t6x1 =>
   Q (.tup [t6x1, (.i .i64 6)]) s9)
  (P.oV 45 (ac T0 s8.h 35 t3) fun t45 =>
   P.oV 46 (ac T0 s8.h 50 (.ptr s3.n 0)) fun t46 =>
   P.oC 47 49 [t45, t46] s8 fun t47 s9 =>
   P.oC 48 85 [(.nilz true)] s9 fun t48 s10 =>
   P.oN 12 (.cells [(.i .i64 0), (.i .i64 0), (.s []), (.nilz true), (.nilz true)] 35 false) (fun id => (.ptr id 0)) s10 fun t12 s11 =>
   P.oH (az T0 s11.h 35 t12 t48) s11 fun s12 =>
   P.oJ [6, 11, 3, 8, 5, 9, 12] (fun (k : C7) =>
    P.oV 51 (af T0 .geq 3 true t47 (.i .i64 0)) fun t51 =>
    P.oG [53, 54, 55] t51 true (fun (kx1 : C3) => P.oV 53 (ar 0 (.ptr s3.n 0)) fun t53 =>
     P.oV 54 (ac T0 s12.h 3 t53) fun t54 =>
     P.oV 55 (af T0 .eql 3 true t54 (.i .i64 1)) fun t55 =>
     kx1 t53 t54 t55 s12) s12 fun t53 t54 t55 s13 =>
    P.oV 56 (au t51 (some t55) (some (.b false))) fun t56 =>
    P.oI t56 (P.oV 57 (ar 4 t3) fun t57 =>
     P.oV 58 (ac T0 s13.h 33 t57) fun t58 =>
     P.oV 60 (ai T0 33 t58 t47) fun t60 =>
     P.oV 61 (ar 1 t60) fun t61 =>
     P.oV 62 (ac T0 s13.h 35 t61) fun t62 =>
     P.oH (az T0 s13.h 35 t12 t62) s13 fun s14 =>
     k t6 t47 t3 (.ptr s3.n 0) t5 t24 t12 s14)
    (P.oV 65 (af T0 .geq 3 true t47 (.i .i64 0)) fun t65 =>
     P.oI t65 (P.oV 66 (ar 3 t3) fun t66 =>
      P.oV 67 (ac T0 s13.h 32 t66) fun t67 =>
      P.oV 69 (ai T0 32 t67 t47) fun t69 =>
      P.oV 70 (ac T0 s13.h 35 t69) fun t70 =>
      P.oH (az T0 s13.h 35 t12 t70) s13 fun s14 =>
      k t6 t47 t3 (.ptr s3.n 0) t5 t24 t12 s14)
     (P.oV 72 (ar 0 (.ptr s3.n 0)) fun t72 =>
      P.oV 73 (ac T0 s13.h 3 t72) fun t73 =>
      P.oV 74 (af T0 .eql 3 true t73 (.i .i64 2)) fun t74 =>
      P.oG [76, 77, 78, 79, 80, 81] t74 true (fun (kx1 : C6) => P.oV 76 (ar 2 (.ptr s3.n 0)) fun t76 =>
       P.oV 77 (ac T0 s13.h 3 t76) fun t77 =>
       P.oV 78 (ar 3 t3) fun t78 =>
       P.oV 79 (ac T0 s13.h 32 t78) fun t79 =>
       P.oV 80 (aj T0 s13.h .len [32] [t79]) fun t80 =>
       P.oV 81 (af T0 .gtr 3 false t77 t80) fun t81 =>
       kx1 t76 t77 t78 t79 t80 t81 s13) s13 fun t76 t77 t78 t79 t80 t81 s14 =>
      P.oV 82 (au t74 (some t81) (some (.b false))) fun t82 =>
      P.oI t82 (P.oV 83 (bF T0 35 []) fun t83 =>
       P.oH (az T0 s14.h 35 t6 t83) s14 fun s15 =>
       P.oV 6 (ac T0 s15.h 35 t6) fun t6x1 =>
       Q (.tup [t6x1, (.i .i64 5)]) s15)
      (P.oV 85 (ar 0 (.ptr s3.n 0)) fun t85 =>
       P.oV 86 (ac T0 s14.h 3 t85) fun t86 =>
       P.oV 87 (af T0 .eql 3 true t86 (.i .i64 3)) fun t87 =>
       P.oI t87 (P.oV 88 (ac T0 s14.h 35 t12) fun t88 =>
        P.oV 89 (ar 1 (.ptr s3.n 0)) fun t89 =>
        P.oV 90 (ac T0 s14.h 9 t89) fun t90 =>
        P.oV 91 (ar 3 (.ptr s3.n 0)) fun t91 =>
        P.oV 92 (ac T0 s14.h 9 t91) fun t92 =>
        P.oC 93 61 [t92] s14 fun t93 s15 =>
        P.oC 94 86 [t88, t90, t93] s14 fun t94 s16 =>
        P.oD (ba T0 s14.h 35 t12 t94) fun ix1 bx1 =>
        P.oT ((cb s14.n (ib [[], [], [1], [], [3], [3, 4], [3, 4, 5, 1, 2, 0], [3, 4, 5, 1, 2, 0, 6]]) [3, 4, 5, 1, 2, 0, 6] [] ix1 [6, 5, 4, 2, 0]) && (cE [3, 4, 5, 1, 2, 0, 6] ix1 [])) (P.oS ⟨(s14.h.put ix1 (some bx1)), s14.n⟩ fun s17 =>
        k t6 t47 t3 (.ptr s3.n 0) t5 t24 t12 s17))
       (k t6 t47 t3 (.ptr s3.n 0) t5 t24 t12 s14)))))
   (fun t6x1 t11 t3x1 t8 t5x1 t9 t12x1 s13 =>
   P.oV 96 (ac T0 s13.h 35 t12x1) fun t96 =>
   P.oV 98 (ac T0 s13.h 35 t5x1) fun t98 =>
   P.oC 99 55 [t96, t9, t98] s13 fun t99 s14 =>
   P.oV 100 (aI 0 t99) fun t100 =>
   P.oV 101 (aI 1 t99) fun t101 =>
   P.oN 13 (.cells [(.i .i64 0), (.i .i64 0), (.s []), (.nilz true), (.nilz true)] 35 false) (fun id => (.ptr id 0)) s14 fun t13 s15 =>
   P.oH (az T0 s15.h 35 t13 t100) s15 fun s16 =>
   P.oV 103 (af T0 .neq 26 true t101 (.i .i64 0)) fun t103 =>
   P.oI t103 (P.oV 104 (bF T0 35 []) fun t104 =>
    P.oH (az T0 s16.h 35 t6x1 t104) s16 fun s17 =>
    P.oV 6 (ac T0 s17.h 35 t6x1) fun t6x2 =>
    Q (.tup [t6x2, t101]) s17)
   (P.oV 106 (ar 0 t8) fun t106 =>
    P.oV 107 (ac T0 s16.h 3 t106) fun t107 =>
    P.oV 108 (af T0 .eql 3 true t107 (.i .i64 1)) fun t108 =>
    P.oI t108 (P.oV 109 (ac T0 s16.h 35 t3x1) fun t109 =>
     P.oV 110 (ar 1 t8) fun t110 =>
     P.oV 111 (ac T0 s16.h 9 t110) fun t111 =>
     P.oV 112 (ac T0 s16.h 35 t13) fun t112 =>
     P.oC 113 86 [t109, t111, t112] s16 fun t113 s17 =>
     P.oH (az T0 s17.h 35 t6x1 t113) s17 fun s18 =>
     P.oV 6 (ac T0 s18.h 35 t6x1) fun t6x2 =>
     Q (.tup [t6x2, (.i .i64 0)]) s18)
    (P.oV 114 (ar 0 t8) fun t114 =>
     P.oV 115 (ac T0 s16.h 3 t114) fun t115 =>
     P.oV 116 (af T0 .eql 3 true t115 (.i .i64 3)) fun t116 =>
     P.oG [118, 119, 120, 121] t116 true (fun (k : C4) => P.oV 118 (ac T0 s16.h 35 t13) fun t118 =>
      P.oV 119 (ac T0 s16.h 50 t8) fun t119 =>
      P.oC 120 76 [t118, t119] s16 fun t120 s17 =>
      P.oV 121 (cZ .not t120) fun t121 =>
      k t118 t119 t120 t121 s17) s16 fun t118 t119 t120 t121 s17 =>
     P.oV 122 (au t116 (some t121) (some (.b false))) fun t122 =>
     P.oI t122 (P.oV 123 (bF T0 35 []) fun t123 =>
      P.oH (az T0 s17.h 35 t6x1 t123) s17 fun s18 =>
      P.oV 6 (ac T0 s18.h 35 t6x1) fun t6x2 =>
      Q (.tup [t6x2, (.i .i64 6)]) s18)
     (P.oV 124 (ar 3 t3x1) fun t124 =>
      P.oV 125 (ac T0 s17.h 32 t124) fun t125 =>
      P.oC 126 77 [t125] s17 fun t126 s18 =>
      P.oJ [6, 15] (fun (k : C2) =>
       P.oV 128 (af T0 .lss 3 true t11 (.i .i64 0)) fun t128 =>
       P.oI t128 (P.oV 130 (ac T0 s18.h 35 t13) fun t130 =>
        P.oV 131 (eE T0 32 1 [(0, t130)]) fun t131 =>
        P.oM 132 (aG T0 s18 32 32 t126 t131) fun t132 s19 =>
        k t6x1 t132 s19)
       (P.oV 135 (ac T0 s18.h 35 t13) fun t135 =>
        P.oV 136 (ai T0 32 t126 t11) fun t136 =>
        P.oH (az T0 s18.h 35 t136 t135) s18 fun s19 =>
        k t6x1 t126 s19))
      (fun t6x2 t15 s19 =>
      P.oC 138 87 [t15] s19 fun t138 s20 =>
      P.oH (az T0 s20.h 35 t6x2 t138) s20 fun s21 =>
      P.oV 6 (ac T0 s21.h 35 t6x2) fun t6x3 =>
      Q (.tup [t6x3, (.i .i64 0)]) s21)))))))))
theorem w55_eq (P : Prims) (a0 a1 a2 : AV) (Q : AV -> AS -> Prop) : w55 P a0 a1 a2 Q = VBd P Tryz.f55 an55 [a0, a1, a2] Q := by kernel_rfl
theorem r55 (a0 a1 a2 : AV) {r : AV} (hi : AV.idfree.idfrees [a0, a1, a2] = true) (hn : AV.norm.norms [a0, a1, a2] = [a0, a1, a2]) (h : w55 (av T0) a0 a1 a2 (fun r1 s1 => oZ T0 s1 r1 (fun r2 => r2 = r))) : R T0 55 [a0, a1, a2] r :=
 RMk (w55_eq ..) hi hn h
def an85 : AN := (sqL (sqL (sqL (sqL (.seq none (sqL (.one (.loop [2, 4, 3, 12, 13, 14] (sqL (.seq none (.two .leaf .leaf) (.seq (some [2, 4, 3, 12, 13, 14]) (.one (sqL (sqL (.two .leaf .leaf)))) .leaf)))))) (sqM))))))
def w85 (P : Prims) (a0 : AV) (Q : AV -> AS -> Prop) : Prop :=
 P.oN 2 (.cells [(.i .i64 0), (.i .i64 0), (.s []), (.nilz true), (.nilz true)] 35 false) (fun id => (.ptr id 0)) ⟨Tr.nil, 0⟩ fun t2 s1 =>
 P.oC 8 78 [a0] s1 fun t8 s2 =>
 P.oC 10 104 [t8, (.fn 105 [] [])] s2 fun t10 s3 =>
 P.oV 11 (bF T0 35 [(0, (.i .i64 5))]) fun t11 =>
 P.oN 4 (.cells [(.i .i64 0), (.i .i64 0), (.s []), (.nilz true), (.nilz true)] 35 false) (fun id => (.ptr id 0)) s3 fun t4 s4 =>
 P.oH (az T0 s4.h 35 t4 t11) s4 fun s5 =>
 P.oV 13 (aj T0 s5.h .len [33] [t8]) fun t13 =>
 P.oL [2, 4, 3, 12, 13, 14] (fun (next : C6) t2x1 t4x1 t3 t12 t13x1 t14 s6 =>
 P.oV 15 (af T0 .lss 3 false t14 t13x1) fun t15 =>
 P.oI t15 (P.oJ [2, 4, 3, 12, 13, 14] (fun (k : C6) =>
  P.oV 17 (ai T0 33 t12 t14) fun t17 =>
  P.oV 18 (ac T0 s6.h 52 t17) fun t18 =>
  P.oN 6 (.cells [(.s []), (.i .i64 0), (.i .i64 0), (.s []), (.nilz true), (.nilz true)] 52 false) (fun id => (.ptr id 0)) s6 fun t6 s7 =>
  P.oH (az T0 s7.h 52 t6 t18) s7 fun s8 =>
  P.oV 20 (af T0 .add 3 true t14 (.i .i64 1)) fun t20 =>
  P.oV 22 (aj T0 s8.h .len [33] [t3]) fun t22 =>
  P.oV 23 (af T0 .eql 3 false t20 t22) fun t23 =>
  P.oG [25, 26, 27, 28, 29, 30, 31, 32, 33] t23 false (fun (kx1 : C9) => P.oV 27 (af T0 .add 3 true t14 (.i .i64 1)) fun t27 =>
   P.oV 28 (ai T0 33 t3 t27) fun t28 =>
   P.oV 29 (ar 0 t28) fun t29 =>
   P.oV 30 (ac T0 s8.h 9 t29) fun t30 =>
   P.oV 31 (ar 0 t6) fun t31 =>
   P.oV 32 (ac T0 s8.h 9 t31) fun t32 =>
   P.oV 33 (af T0 .neq 9 false t30 t32) fun t33 =>
   kx1 t3 t14 t27 t28 t29 t30 t31 t32 t33 s8) s8 fun t25 t26 t27 t28 t29 t30 t31 t32 t33 s9 =>
  P.oV 34 (au t23 (some (.b true)) (some t33)) fun t34 =>
  P.oI t34 (P.oV 35 (ar 4 t4x1) fun t35 =>
   P.oV 36 (ac T0 s8.h 33 t35) fun t36 =>
   P.oV 37 (ac T0 s8.h 52 t6) fun t37 =>
   P.oV 38 (eE T0 33 1 [(0, t37)]) fun t38 =>
   P.oM 39 (aG T0 s8 33 33 t36 t38) fun t39 s10 =>
   P.oV 40 (ar 4 t4x1) fun t40 =>
   P.oH (az T0 s10.h 33 t40 t39) s10 fun s11 =>
   k t2x1 t4x1 t3 t12 t13x1 t14 s11)
  (k t2x1 t4x1 t3 t12 t13x1 t14 s8))
  (fun t2x2 t4x2 t3x1 t12x1 t13x2 t14x1 s7 =>
  P.oV 41 (af T0 .add 3 true t14x1 (.i .i64 1)) fun t41 =>
  next t2x2 t4x2 t3x1 t12x1 t13x2 t41 s7))
 (P.oV 42 (ac T0 s6.h 35 t4x1) fun t42 =>
  P.oC 43 107 [t42] s6 fun t43 s7 =>
  P.oH (az T0 s7.h 35 t2x1 t43) s7 fun s8 =>
  P.oV 2 (ac T0 s8.h 35 t2x1) fun t2x2 =>
  Q t2x2 s8)) t2 t4 t8 t8 t13 (.i .i64 0) s5
theorem w85_eq (P : Prims) (a0 : AV) (Q : AV -> AS -> Prop) : w85 P a0 Q = bQ P T0 Tryz.f85 (bO Tryz.f85) an85 [a0] ⟨.nil, 0⟩ Q := by kernel_rfl
def an86 : AN := (sqL (sqM))
def w86 (P : Prims) (a0 a1 a2 : AV) (Q : AV -> AS -> Prop) : Prop :=
 P.oN 3 (.cells (AV.cells a0) 35 false) (fun id => (.ptr id 0)) ⟨Tr.nil, 0⟩ fun t3 s1 =>
 P.oN 5 (.cells (AV.cells a2) 35 false) (fun id => (.ptr id 0)) s1 fun t5 s2 =>
 P.oN 6 (.cells [(.i .i64 0), (.i .i64 0), (.s []), (.nilz true), (.nilz true)] 35 false) (fun id => (.ptr id 0)) s2 fun t6 s3 =>
 P.oV 7 (ac T0 s3.h 35 t3) fun t7 =>
 P.oA 9 108 [t7, a1] s3.n fun t9 b =>
 P.oT (bD s3.n [] [(2, (s3.n, b))] [(2, (s3.n, b))]) (P.oV 11 (ac T0 s3.h 35 t5) fun t11 =>
 P.oV 12 (bF T0 52 [(0, a1), (1, t11)]) fun t12 =>
 P.oT (bD s3.n [4, 3, 5] [(2, (s3.n, b))] [(2, (s3.n, b))]) (P.oV 13 (eE T0 33 1 [(0, t12)]) fun t13 =>
 P.oS ⟨(s3.h.put s3.n b), (s3.n + 1)⟩ fun s4 =>
 P.oM 14 (aG T0 s4 33 33 t9 t13) fun t14 s5 =>
 P.oC 15 85 [t14] s5 fun t15 s6 =>
 P.oD (ba T0 s6.h 35 t6 t15) fun i bx1 =>
 P.oT ((cb s6.n (ib [[]]) [] [] i []) && (cE [] i [])) (P.oS ⟨(s6.h.put i (some bx1)), s6.n⟩ fun s7 =>
 P.oV 6 (ac T0 s7.h 35 t6) fun t6x1 =>
 Q t6x1 s7)))
theorem w86_eq (P : Prims) (a0 a1 a2 : AV) (Q : AV -> AS -> Prop) : w86 P a0 a1 a2 Q = VBd P Tryz.f86 an86 [a0, a1, a2] Q := by kernel_rfl
theorem r86 (a0 a1 a2 : AV) {r : AV} (hi : AV.idfree.idfrees [a0, a1, a2] = true) (hn : AV.norm.norms [a0, a1, a2] = [a0, a1, a2]) (h : w86 (av T0) a0 a1 a2 (fun r1 s1 => oZ T0 s1 r1 (fun r2 => r2 = r))) : R T0 86 [a0, a1, a2] r :=
 RMk (w86_eq ..) hi hn h
def an87 : AN := (sqL (sqM))
def w87 (P : Prims) (a0 : AV) (Q : AV -> AS -> Prop) : Prop :=
 P.oN 2 (.cells [(.i .i64 0), (.i .i64 0), (.s []), (.nilz true), (.nilz true)] 35 false) (fun id => (.ptr id 0)) ⟨Tr.nil, 0⟩ fun t2 s1 =>
 P.oV 4 (bF T0 35 [(0, (.i .i64 4)), (3, a0)]) fun t4 =>
 P.oC 5 107 [t4] s1 fun t5 s2 =>
 P.oH (az T0 s2.h 35 t2 t5) s2 fun s3 =>
 P.oV 2 (ac T0 s3.h 35 t2) fun t2x1 =>
 Q t2x1 s3
theorem w87_eq (P : Prims) (a0 : AV) (Q : AV -> AS -> Prop) : w87 P a0 Q = bQ P T0 Tryz.f87 (bO Tryz.f87) an87 [a0] ⟨.nil, 0⟩ Q := by kernel_rfl
def an104 : AN := .leaf
def w104 (P : Prims) (a0 a1 : AV) (s : AS) (Q : AV -> AS -> Prop) : Prop :=
 P.oV 6 (aj T0 s.h .len [33] [a0]) fun t6 =>
 P.oC 8 120 [a0, t6, a1] s fun t8 s1 =>
 Q (.tup []) s1
theorem w104_eq (P : Prims) (a0 a1 : AV) (s : AS) (Q : AV -> AS -> Prop) : w104 P a0 a1 s Q = bQ P T0 Tryz.f104 (bO Tryz.f104) an104 [a0, a1] s Q := by kernel_rfl
def an105 : AN := (sqL (sqM))
def w105 (P : Prims) (a0 a1 : AV) (Q : AV -> AS -> Prop) : Prop :=
 P.oN 2 (.cells (AV.cells a0) 52 false) (fun id => (.ptr id 0)) ⟨Tr.nil, 0⟩ fun t2 s1 =>
 P.oN 3 (.cells (AV.cells a1) 52 false) (fun id => (.ptr id 0)) s1 fun t3 s2 =>
 P.oV 5 (ar 0 t2) fun t5 =>
 P.oV 6 (ac T0 s2.h 9 t5) fun t6 =>
 P.oV 7 (ar 0 t3) fun t7 =>
 P.oV 8 (ac T0 s2.h 9 t7) fun t8 =>
 P.oC 9 106 [t6, t8] s2 fun t9 s3 =>
 Q t9 s3
theorem w105_eq (P : Prims) (a0 a1 : AV) (Q : AV -> AS -> Prop) : w105 P a0 a1 Q = VBd P Tryz.f105 an105 [a0, a1] Q := by kernel_rfl
theorem r105 (a0 a1 : AV) {r : AV} (hi : AV.idfree.idfrees [a0, a1] = true) (hn : AV.norm.norms [a0, a1] = [a0, a1]) (h : w105 (av T0) a0 a1 (fun r1 s1 => oZ T0 s1 r1 (fun r2 => r2 = r))) : R T0 105 [a0, a1] r :=
 RMk (w105_eq ..) hi hn h
def an106 : AN := (sqL (sqM))
def w106 (P : Prims) (a0 a1 : AV) (Q : AV -> AS -> Prop) : Prop :=
 P.oC 7 121 [a0, a1] ⟨Tr.nil, 0⟩ fun t7 s1 =>
 Q t7 s1
theorem w106_eq (P : Prims) (a0 a1 : AV) (Q : AV -> AS -> Prop) : w106 P a0 a1 Q = VBd P Tryz.f106 an106 [a0, a1] Q := by kernel_rfl
theorem r106 (a0 a1 : AV) {r : AV} (hi : AV.idfree.idfrees [a0, a1] = true) (hn : AV.norm.norms [a0, a1] = [a0, a1]) (h : w106 (av T0) a0 a1 (fun r1 s1 => oZ T0 s1 r1 (fun r2 => r2 = r))) : R T0 106 [a0, a1] r :=
 RMk (w106_eq ..) hi hn h
def an108 : AN := (sqL (.seq none (sqL (.two (sqM) .leaf)) (sqM)))
def w108 (P : Prims) (a0 a1 : AV) (Q : AV -> AS -> Prop) : Prop :=
 P.oN 2 (.cells (AV.cells a0) 35 false) (fun id => (.ptr id 0)) ⟨Tr.nil, 0⟩ fun t2 s1 =>
 P.oN 3 (.cells (AV.cells a1) 9 false) (fun id => (.ptr id 0)) s1 fun t3 s2 =>
 P.oV 5 (ar 0 t2) fun t5 =>
 P.oV 6 (ac T0 s2.h 3 t5) fun t6 =>
 P.oV 7 (af T0 .neq 3 true t6 (.i .i64 5)) fun t7 =>
 P.oI t7 (Q (.nilz true) s2)
 (P.oV 8 (ar 4 t2) fun t8 =>
  P.oV 9 (ac T0 s2.h 33 t8) fun t9 =>
  P.oC 10 78 [t9] s2 fun t10 s3 =>
  P.oC 12 122 [t10, (.fn 123 [] [t3])] s3 fun t12 s4 =>
  Q t12 s4)
theorem w108_eq (P : Prims) (a0 a1 : AV) (Q : AV -> AS -> Prop) : w108 P a0 a1 Q = bQ P T0 Tryz.f108 (bO Tryz.f108) an108 [a0, a1] ⟨.nil, 0⟩ Q := by kernel_rfl
def an120 : AN := (sqL (sqL (.seq none (.one (.loop [2, 1, 0, 6, 7, 8] (.seq none (sqL (.two .leaf .leaf)) (.one (sqL (sqM)))))) (sqL (.one (.loop [2, 1, 0, 6] (.seq none (sqL (.two .leaf .leaf)) (.one (sqL (.seq none (.one (.loop [2, 1, 0, 6, 7, 8] (.seq none (sqL (.two .leaf .leaf)) (.one (sqL (sqM)))))) (.seq (some [2, 1, 0, 6]) (sqL (sqL (.two .leaf .leaf))) .leaf)))))))))))
def w120 (P : Prims) (a0 a1 a2 : AV) (s : AS) (Q : AV -> AS -> Prop) : Prop :=
 P.oL [2, 1, 0, 6, 7, 8] (fun (next : C6) t2 t1 t0 t6 t7 t8 s1 =>
 P.oV 13 (af T0 .leq 3 false t8 t1) fun t13 =>
 P.oI t13 (P.oC 18 136 [t0, t7, t8, t2] s1 fun t18 s2 =>
  P.oV 22 (af T0 .add 3 false t8 t6) fun t22 =>
  next t2 t1 t0 t6 t8 t22 s2)
 (P.oC 27 136 [t0, t7, t1, t2] s1 fun t27 s2 =>
  P.oL [2, 1, 0, 6] (fun (nextx1 : C4) t2x1 t1x1 t0x1 t6x1 s3 =>
  P.oV 30 (af T0 .lss 3 false t6x1 t1x1) fun t30 =>
  P.oI t30 (P.oV 32 (af T0 .mul 3 true (.i .i64 2) t6x1) fun t32 =>
   P.oL [2, 1, 0, 6, 7, 8] (fun (nextx2 : C6) t2x2 t1x2 t0x2 t6x2 t7x1 t8x1 s4 =>
   P.oV 35 (af T0 .leq 3 false t8x1 t1x2) fun t35 =>
   P.oI t35 (P.oV 40 (af T0 .add 3 false t7x1 t6x2) fun t40 =>
    P.oC 43 137 [t0x2, t7x1, t40, t8x1, t2x2] s4 fun t43 s5 =>
    P.oV 47 (af T0 .mul 3 true (.i .i64 2) t6x2) fun t47 =>
    P.oV 48 (af T0 .add 3 false t8x1 t47) fun t48 =>
    nextx2 t2x2 t1x2 t0x2 t6x2 t8x1 t48 s5)
   (P.oJ [2, 1, 0, 6] (fun (k : C4) =>
    P.oV 51 (af T0 .add 3 false t7x1 t6x2) fun t51 =>
    P.oV 54 (af T0 .lss 3 false t51 t1x2) fun t54 =>
    P.oI t54 (P.oC 60 137 [t0x2, t7x1, t51, t1x2, t2x2] s4 fun t60 s5 =>
     k t2x2 t1x2 t0x2 t6x2 s5)
    (k t2x2 t1x2 t0x2 t6x2 s4))
    (fun t2x3 t1x3 t0x3 t6x3 s5 =>
    P.oV 62 (af T0 .mul 3 true t6x3 (.i .i64 2)) fun t62 =>
    nextx1 t2x3 t1x3 t0x3 t62 s5))) t2x1 t1x1 t0x1 t6x1 (.i .i64 0) t32 s3)
  (Q (.tup []) s3)) t2 t1 t0 t6 s2)) a2 a1 a0 (.i .i64 20) (.i .i64 0) (.i .i64 20) s
theorem w120_eq (P : Prims) (a0 a1 a2 : AV) (s : AS) (Q : AV -> AS -> Prop) : w120 P a0 a1 a2 s Q = bQ P T0 Tryz.f120 (bO Tryz.f120) an120 [a0, a1, a2] s Q := by kernel_rfl
def an122 : AN := (sqL (sqL (.seq none (sqL (.two (sqM) .leaf)) (.seq none (sqL (.one (.loop [5, 0, 1, 6] (.seq none (sqL (.two .leaf .leaf)) (.seq (some [5, 0, 1, 6]) (.one (sqL (sqL (.two (sqM) .leaf)))) .leaf))))) (sqL (sqM))))))
def w122 (P : Prims) (a0 a1 : AV) (s : AS) (Q : AV -> AS -> Prop) : Prop :=
 P.oC 10 72 [a0, a1] s fun t10 s1 =>
 P.oV 12 (af T0 .eql 3 true t10 (.i .i64 (-1))) fun t12 =>
 P.oI t12 (Q a0 s1)
 (P.oV 15 (af T0 .add 3 true t10 (.i .i64 1)) fun t15 =>
  P.oL [5, 0, 1, 6] (fun (next : C4) t5 t0 t1 t6 s2 =>
  P.oV 18 (aj T0 s2.h .len [33] [t0]) fun t18 =>
  P.oV 19 (af T0 .lss 3 false t6 t18) fun t19 =>
  P.oI t19 (P.oJ [5, 0, 1, 6] (fun (k : C4) =>
   P.oV 24 (ai T0 33 t0 t6) fun t24 =>
   P.oV 25 (ac T0 s2.h 52 t24) fun t25 =>
   P.oN 7 (.cells [(.s []), (.i .i64 0), (.i .i64 0), (.s []), (.nilz true), (.nilz true)] 52 false) (fun id => (.ptr id 0)) s2 fun t7 s3 =>
   P.oH (az T0 s3.h 52 t7 t25) s3 fun s4 =>
   P.oV 27 (ac T0 s4.h 52 t7) fun t27 =>
   P.oF 28 t1 [t27] s4 fun t28 s5 =>
   P.oV 29 (cZ .not t28) fun t29 =>
   P.oI t29 (P.oV 32 (ac T0 s5.h 52 t7) fun t32 =>
    P.oV 33 (ai T0 33 t0 t5) fun t33 =>
    P.oH (az T0 s5.h 52 t33 t32) s5 fun s6 =>
    P.oV 35 (af T0 .add 3 true t5 (.i .i64 1)) fun t35 =>
    k t35 t0 t1 t6 s6)
   (k t5 t0 t1 t6 s5))
   (fun t5x1 t0x1 t1x1 t6x1 s3 =>
   P.oV 21 (af T0 .add 3 true t6x1 (.i .i64 1)) fun t21 =>
   next t5x1 t0x1 t1x1 t21 s3))
  (P.oV 38 (aL T0 s2.h 33 t0 (some t5) none none) fun t38 =>
   P.oM 0 (eA T0 s2 33 t38) fun t0x1 s3 =>
   P.oV 41 (aL T0 s3.h 33 t0 none (some t5) none) fun t41 =>
   Q t41 s3)) t10 a0 a1 t15 s1)
theorem w122_eq (P : Prims) (a0 a1 : AV) (s : AS) (Q : AV -> AS -> Prop) : w122 P a0 a1 s Q = bQ P T0 Tryz.f122 (bO Tryz.f122) an122 [a0, a1] s Q := by kernel_rfl
def an123 : AN := (sqL (sqM))
def w123 (P : Prims) (a0 a1 : AV) (Q : AV -> AS -> Prop) : Prop :=
 P.oN 2 (.cells (AV.cells a0) 52 false) (fun id => (.ptr id 0)) ⟨Tr.nil, 0⟩ fun t2 s1 =>
 P.oV 4 (ar 0 t2) fun t4 =>
 P.oV 5 (ac T0 s1.h 9 t4) fun t5 =>
 P.oV 6 (ac T0 s1.h 9 a1) fun t6 =>
 P.oV 7 (af T0 .eql 9 false t5 t6) fun t7 =>
 Q t7 s1
theorem w123_eq (P : Prims) (a0 a1 : AV) (Q : AV -> AS -> Prop) : w123 P a0 a1 Q = VBd P Tryz.f123 an123 [a0, a1] Q := by kernel_rfl
theorem r123 (a0 a1 : AV) {r : AV} (hi : AV.idfree.idfrees [a0, a1] = true) (hn : AV.norm.norms [a0, a1] = [a0, a1]) (h : w123 (av T0) a0 a1 (fun r1 s1 => oZ T0 s1 r1 (fun r2 => r2 = r))) : R T0 123 [a0, a1] r :=
 RMk (w123_eq ..) hi hn h
def an136 : AN := (sqL (.one (.loop [0, 3, 1, 2, 8] (.seq none (sqL (.two .leaf .leaf)) (.seq none (.one (sqL (.one (.loop [0, 3, 1, 2, 8, 9] (.seq none (sqL (.two .leaf .leaf)) (.seq none (.one .leaf) .leaf)))))) .leaf)))))
def w136 (P : Prims) (a0 a1 a2 a3 : AV) (s : AS) (Q : AV -> AS -> Prop) : Prop :=
 P.oV 11 (af T0 .add 3 true a1 (.i .i64 1)) fun t11 =>
 P.oL [0, 3, 1, 2, 8] (fun (next : C5) t0 t3 t1 t2 t8 s1 =>
 P.oV 14 (af T0 .lss 3 false t8 t2) fun t14 =>
 P.oI t14 (P.oL [0, 3, 1, 2, 8, 9] (fun (nextx1 : C6) t0x1 t3x1 t1x1 t2x1 t8x1 t9 s2 =>
  P.oV 20 (af T0 .gtr 3 false t9 t1x1) fun t20 =>
  P.oG [22, 23, 24, 25, 26, 27, 28, 29, 30, 31, 32, 33] t20 true (fun (k : C12) => P.oV 25 (ai T0 33 t0x1 t9) fun t25 =>
   P.oV 26 (ac T0 s2.h 52 t25) fun t26 =>
   P.oV 29 (af T0 .sub 3 true t9 (.i .i64 1)) fun t29 =>
   P.oV 30 (ai T0 33 t0x1 t29) fun t30 =>
   P.oV 31 (ac T0 s2.h 52 t30) fun t31 =>
   P.oT (oP T0 t3x1) (P.oF 32 t3x1 [t26, t31] s2 fun t32 s3 =>
   P.oV 33 (af T0 .lss 3 true t32 (.i .i64 0)) fun t33 =>
   k t3x1 t0x1 t9 t25 t26 t0x1 t9 t29 t30 t31 t32 t33 s2)) s2 fun t22 t23 t24 t25 t26 t27 t28 t29 t30 t31 t32 t33 s3 =>
  P.oV 34 (au t20 (some t33) (some (.b false))) fun t34 =>
  P.oI t34 (P.oV 41 (af T0 .sub 3 true t9 (.i .i64 1)) fun t41 =>
   P.oV 44 (af T0 .sub 3 true t9 (.i .i64 1)) fun t44 =>
   P.oV 45 (ai T0 33 t0x1 t44) fun t45 =>
   P.oV 46 (ac T0 s2.h 52 t45) fun t46 =>
   P.oV 49 (ai T0 33 t0x1 t9) fun t49 =>
   P.oV 50 (ac T0 s2.h 52 t49) fun t50 =>
   P.oV 51 (ai T0 33 t0x1 t9) fun t51 =>
   P.oD (ba T0 s2.h 52 t51 t46) fun i b =>
   P.oT ((cb s2.n (ib [[], [], [], [], [3], [], [], [6], [6, 7, 5], [6, 7, 5, 8], [], [], [11, 10], [11, 10, 12], [11, 10, 12, 13, 6, 7, 5, 8, 9, 1, 0], [11, 10, 12, 13, 6, 7, 5, 8, 9, 1, 0, 14], [11, 10, 12, 13, 6, 7, 5, 8, 9, 1, 0, 14, 15, 3, 4, 2], [11, 10, 12, 13, 6, 7, 5, 8, 9, 1, 0, 14, 15, 3, 4, 2, 16]]) [11, 10, 12, 13, 6, 7, 5, 8, 9, 1, 0, 14] [] i [13, 9]) && (cE [11, 10, 12, 13, 6, 7, 5, 8, 9, 1, 0, 14] i [])) (P.oV 52 (ai T0 33 t0x1 t41) fun t52 =>
   P.oT (bD s2.n [11, 10, 12, 13, 6, 7, 5, 8, 9, 1, 0, 14, 15, 3, 4, 2, 16] [(15, (i, (some b)))] [(15, (i, (some b)))]) (P.oD (ba T0 (s2.h.put i (some b)) 52 t52 t50) fun ix1 bx1 =>
   P.oT ((cb s2.n (ib [[], [], [], [], [3], [], [], [6], [6, 7, 5], [6, 7, 5, 8], [], [], [11, 10], [11, 10, 12], [11, 10, 12, 13, 6, 7, 5, 8, 9, 1, 0], [11, 10, 12, 13, 6, 7, 5, 8, 9, 1, 0, 14], [11, 10, 12, 13, 6, 7, 5, 8, 9, 1, 0, 14, 15, 3, 4, 2], [11, 10, 12, 13, 6, 7, 5, 8, 9, 1, 0, 14, 15, 3, 4, 2, 16]]) [11, 10, 12, 13, 6, 7, 5, 8, 9, 1, 0, 14, 15, 3, 4, 2, 16] [(15, (i, (some b)))] ix1 [13, 9]) && (cE [11, 10, 12, 13, 6, 7, 5, 8, 9, 1, 0, 14, 15, 3, 4, 2, 16] ix1 [(15, (i, (some b)))])) (P.oS ⟨((s2.h.put i (some b)).put ix1 (some bx1)), s2.n⟩ fun s4 =>
   P.oV 36 (af T0 .sub 3 true t9 (.i .i64 1)) fun t36 =>
   nextx1 t0x1 t3x1 t1x1 t2x1 t8x1 t36 s4))))
  (P.oV 16 (af T0 .add 3 true t8x1 (.i .i64 1)) fun t16 =>
   next t0x1 t3x1 t1x1 t2x1 t16 s2)) t0 t3 t1 t2 t8 t8 s1)
 (Q (.tup []) s1)) a0 a3 a1 a2 t11 s
theorem w136_eq (P : Prims) (a0 a1 a2 a3 : AV) (s : AS) (Q : AV -> AS -> Prop) : w136 P a0 a1 a2 a3 s Q = bQ P T0 Tryz.f136 (bO Tryz.f136) an136 [a0, a1, a2, a3] s Q := by kernel_rfl
def an137 : AN := (.seq none (sqL (.two (sqL (sqL (.seq none (.one (.loop [0, 10, 1, 4, 11] (.seq none (sqL (.two .leaf .leaf)) (.one (sqL (sqL (.two .leaf .leaf))))))) (.seq none (sqL (.one (.loop [0, 10, 13] (.seq none (sqL (.two .leaf .leaf)) (.seq none (.one .leaf) .leaf))))) .leaf)))) .leaf)) (.seq none (sqL (.two (sqL (sqL (.seq none (.one (.loop [0, 14, 2, 4, 15] (.seq none (sqL (.two .leaf .leaf)) (.one (sqL (sqL (.two .leaf .leaf))))))) (.seq none (sqL (.one (.loop [0, 14, 17] (.seq none (sqL (.two .leaf .leaf)) (.seq none (.one .leaf) .leaf))))) .leaf)))) .leaf)) (sqL (sqL (sqL (.seq (some [4, 3, 18, 0, 20, 1, 2, 19, 21]) (sqL (.two (sqM) (sqM))) (sqL (.seq none (.one (.loop [4, 3, 18, 0, 20, 1, 2, 19, 22, 21] (.seq none (sqL (.two .leaf .leaf)) (.one (sqL (sqL (.two .leaf .leaf))))))) (sqL (.seq (some [4, 3, 24, 18, 0, 20, 1]) (sqL (.two .leaf .leaf)) (.seq (some [4, 3, 24, 18, 0]) (sqL (.two .leaf .leaf)) (sqL (.two .leaf .leaf)))))))))))))
def w137 (P : Prims) (a0 a1 a2 a3 a4 : AV) (s : AS) (Q : AV -> AS -> Prop) : Prop :=
 P.oV 27 (af T0 .sub 3 false a2 a1) fun t27 =>
 P.oV 28 (af T0 .eql 3 true t27 (.i .i64 1)) fun t28 =>
 P.oI t28 (P.oL [0, 10, 1, 4, 11] (fun (next : C5) t0 t10 t1 t4 t11 s1 =>
  P.oV 33 (af T0 .lss 3 false t10 t11) fun t33 =>
  P.oI t33 (P.oV 36 (af T0 .add 3 false t10 t11) fun t36 =>
   P.oV 37 (cV T0 s1.h 3 137 t36) fun t37 =>
   P.oV 38 (af T0 .shr 137 true t37 (.i .u64 1)) fun t38 =>
   P.oV 39 (cV T0 s1.h 137 3 t38) fun t39 =>
   P.oV 43 (ai T0 33 t0 t39) fun t43 =>
   P.oV 44 (ac T0 s1.h 52 t43) fun t44 =>
   P.oV 47 (ai T0 33 t0 t1) fun t47 =>
   P.oV 48 (ac T0 s1.h 52 t47) fun t48 =>
   P.oT (oP T0 t4) (P.oF 49 t4 [t44, t48] s1 fun t49 s2 =>
   P.oV 50 (af T0 .lss 3 true t49 (.i .i64 0)) fun t50 =>
   P.oI t50 (P.oV 52 (af T0 .add 3 true t39 (.i .i64 1)) fun t52 =>
    next t0 t52 t1 t4 t11 s1)
   (next t0 t10 t1 t4 t39 s1)))
  (P.oL [0, 10, 13] (fun (nextx1 : C3) t0x1 t10x1 t13 s2 =>
   P.oV 57 (af T0 .sub 3 true t10x1 (.i .i64 1)) fun t57 =>
   P.oV 58 (af T0 .lss 3 false t13 t57) fun t58 =>
   P.oI t58 (P.oV 65 (af T0 .add 3 true t13 (.i .i64 1)) fun t65 =>
    P.oV 68 (af T0 .add 3 true t13 (.i .i64 1)) fun t68 =>
    P.oV 69 (ai T0 33 t0x1 t68) fun t69 =>
    P.oV 70 (ac T0 s2.h 52 t69) fun t70 =>
    P.oV 73 (ai T0 33 t0x1 t13) fun t73 =>
    P.oV 74 (ac T0 s2.h 52 t73) fun t74 =>
    P.oV 75 (ai T0 33 t0x1 t13) fun t75 =>
    P.oD (ba T0 s2.h 52 t75 t70) fun i b =>
    P.oT ((cb s2.n (ib [[], [], [], [], [3], [], [], [6], [6, 7, 5], [6, 7, 5, 8], [], [], [11, 10], [11, 10, 12], [11, 10, 12, 13, 6, 7, 5, 8, 9, 1, 0], [11, 10, 12, 13, 6, 7, 5, 8, 9, 1, 0, 14], [11, 10, 12, 13, 6, 7, 5, 8, 9, 1, 0, 14, 15, 3, 4, 2], [11, 10, 12, 13, 6, 7, 5, 8, 9, 1, 0, 14, 15, 3, 4, 2, 16]]) [11, 10, 12, 13, 6, 7, 5, 8, 9, 1, 0, 14] [] i [13, 9]) && (cE [11, 10, 12, 13, 6, 7, 5, 8, 9, 1, 0, 14] i [])) (P.oV 76 (ai T0 33 t0x1 t65) fun t76 =>
    P.oT (bD s2.n [11, 10, 12, 13, 6, 7, 5, 8, 9, 1, 0, 14, 15, 3, 4, 2, 16] [(15, (i, (some b)))] [(15, (i, (some b)))]) (P.oD (ba T0 (s2.h.put i (some b)) 52 t76 t74) fun ix1 bx1 =>
    P.oT ((cb s2.n (ib [[], [], [], [], [3], [], [], [6], [6, 7, 5], [6, 7, 5, 8], [], [], [11, 10], [11, 10, 12], [11, 10, 12, 13, 6, 7, 5, 8, 9, 1, 0], [11, 10, 12, 13, 6, 7, 5, 8, 9, 1, 0, 14], [11, 10, 12, 13, 6, 7, 5, 8, 9, 1, 0, 14, 15, 3, 4, 2], [11, 10, 12, 13, 6, 7, 5, 8, 9, 1, 0, 14, 15, 3, 4, 2, 16]]) [11, 10, 12, 13, 6, 7, 5, 8, 9, 1, 0, 14, 15, 3, 4, 2, 16] [(15, (i, (some b)))] ix1 [13, 9]) && (cE [11, 10, 12, 13, 6, 7, 5, 8, 9, 1, 0, 14, 15, 3, 4, 2, 16] ix1 [(15, (i, (some b)))])) (P.oS ⟨((s2.h.put i (some b)).put ix1 (some bx1)), s2.n⟩ fun s3 =>
    P.oV 60 (af T0 .add 3 true t13 (.i .i64 1)) fun t60 =>
    nextx1 t0x1 t10x1 t60 s3))))
   (Q (.tup []) s2)) t0 t10 t1 s1)) a0 a2 a1 a4 a3 s)
 (P.oV 79 (af T0 .sub 3 false a3 a2) fun t79 =>
  P.oV 80 (af T0 .eql 3 true t79 (.i .i64 1)) fun t80 =>
  P.oI t80 (P.oL [0, 14, 2, 4, 15] (fun (next : C5) t0 t14 t2 t4 t15 s1 =>
   P.oV 85 (af T0 .lss 3 false t14 t15) fun t85 =>
   P.oI t85 (P.oV 88 (af T0 .add 3 false t14 t15) fun t88 =>
    P.oV 89 (cV T0 s1.h 3 137 t88) fun t89 =>
    P.oV 90 (af T0 .shr 137 true t89 (.i .u64 1)) fun t90 =>
    P.oV 91 (cV T0 s1.h 137 3 t90) fun t91 =>
    P.oV 95 (ai T0 33 t0 t2) fun t95 =>
    P.oV 96 (ac T0 s1.h 52 t95) fun t96 =>
    P.oV 99 (ai T0 33 t0 t91) fun t99 =>
    P.oV 100 (ac T0 s1.h 52 t99) fun t100 =>
    P.oT (oP T0 t4) (P.oF 101 t4 [t96, t100] s1 fun t101 s2 =>
    P.oV 102 (af T0 .lss 3 true t101 (.i .i64 0)) fun t102 =>
    P.oV 103 (cZ .not t102) fun t103 =>
    P.oI t103 (P.oV 105 (af T0 .add 3 true t91 (.i .i64 1)) fun t105 =>
     next t0 t105 t2 t4 t15 s1)
    (next t0 t14 t2 t4 t91 s1)))
   (P.oL [0, 14, 17] (fun (nextx1 : C3) t0x1 t14x1 t17 s2 =>
    P.oV 110 (af T0 .gtr 3 false t17 t14x1) fun t110 =>
    P.oI t110 (P.oV 117 (af T0 .sub 3 true t17 (.i .i64 1)) fun t117 =>
     P.oV 120 (af T0 .sub 3 true t17 (.i .i64 1)) fun t120 =>
     P.oV 121 (ai T0 33 t0x1 t120) fun t121 =>
     P.oV 122 (ac T0 s2.h 52 t121) fun t122 =>
     P.oV 125 (ai T0 33 t0x1 t17) fun t125 =>
     P.oV 126 (ac T0 s2.h 52 t125) fun t126 =>
     P.oV 127 (ai T0 33 t0x1 t17) fun t127 =>
     P.oD (ba T0 s2.h 52 t127 t122) fun i b =>
     P.oT ((cb s2.n (ib [[], [], [], [], [3], [], [], [6], [6, 7, 5], [6, 7, 5, 8], [], [], [11, 10], [11, 10, 12], [11, 10, 12, 13, 6, 7, 5, 8, 9, 1, 0], [11, 10, 12, 13, 6, 7, 5, 8, 9, 1, 0, 14], [11, 10, 12, 13, 6, 7, 5, 8, 9, 1, 0, 14, 15, 3, 4, 2], [11, 10, 12, 13, 6, 7, 5, 8, 9, 1, 0, 14, 15, 3, 4, 2, 16]]) [11, 10, 12, 13, 6, 7, 5, 8, 9, 1, 0, 14] [] i [13, 9]) && (cE [11, 10, 12, 13, 6, 7, 5, 8, 9, 1, 0, 14] i [])) (P.oV 128 (ai T0 33 t0x1 t117) fun t128 =>
     P.oT (bD s2.n [11, 10, 12, 13, 6, 7, 5, 8, 9, 1, 0, 14, 15, 3, 4, 2, 16] [(15, (i, (some b)))] [(15, (i, (some b)))]) (P.oD (ba T0 (s2.h.put i (some b)) 52 t128 t126) fun ix1 bx1 =>
     P.oT ((cb s2.n (ib [[], [], [], [], [3], [], [], [6], [6, 7, 5], [6, 7, 5, 8], [], [], [11, 10], [11, 10, 12], [11, 10, 12, 13, 6, 7, 5, 8, 9, 1, 0], [11, 10, 12, 13, 6, 7, 5, 8, 9, 1, 0, 14], [11, 10, 12, 13, 6, 7, 5, 8, 9, 1, 0, 14, 15, 3, 4, 2], [11, 10, 12, 13, 6, 7, 5, 8, 9, 1, 0, 14, 15, 3, 4, 2, 16]]) [11, 10, 12, 13, 6, 7, 5, 8, 9, 1, 0, 14, 15, 3, 4, 2, 16] [(15, (i, (some b)))] ix1 [13, 9]) && (cE [11, 10, 12, 13, 6, 7, 5, 8, 9, 1, 0, 14, 15, 3, 4, 2, 16] ix1 [(15, (i, (some b)))])) (P.oS ⟨((s2.h.put i (some b)).put ix1 (some bx1)), s2.n⟩ fun s3 =>
     P.oV 112 (af T0 .sub 3 true t17 (.i .i64 1)) fun t112 =>
     nextx1 t0x1 t14x1 t112 s3))))
    (Q (.tup []) s2)) t0 t14 t2 s1)) a0 a1 a2 a4 a2 s)
  (P.oV 131 (af T0 .add 3 false a1 a3) fun t131 =>
   P.oV 132 (cV T0 s.h 3 137 t131) fun t132 =>
   P.oV 133 (af T0 .shr 137 true t132 (.i .u64 1)) fun t133 =>
   P.oV 134 (cV T0 s.h 137 3 t133) fun t134 =>
   P.oV 137 (af T0 .add 3 false t134 a2) fun t137 =>
   P.oJ [4, 3, 18, 0, 20, 1, 2, 19, 21] (fun (k : C9) =>
    P.oV 140 (af T0 .gtr 3 false a2 t134) fun t140 =>
    P.oI t140 (P.oV 143 (af T0 .sub 3 false t137 a3) fun t143 =>
     k a4 a3 t134 a0 t143 a1 a2 t137 t134 s)
    (k a4 a3 t134 a0 a1 a1 a2 t137 a2 s))
   (fun t4 t3 t18 t0 t20 t1 t2 t19 t21 s1 =>
   P.oV 148 (af T0 .sub 3 true t19 (.i .i64 1)) fun t148 =>
   P.oL [4, 3, 18, 0, 20, 1, 2, 19, 22, 21] (fun (next : C10) t4x1 t3x1 t18x1 t0x1 t20x1 t1x1 t2x1 t19x1 t22 t21x1 s2 =>
   P.oV 151 (af T0 .lss 3 false t20x1 t21x1) fun t151 =>
   P.oI t151 (P.oV 154 (af T0 .add 3 false t20x1 t21x1) fun t154 =>
    P.oV 155 (cV T0 s2.h 3 137 t154) fun t155 =>
    P.oV 156 (af T0 .shr 137 true t155 (.i .u64 1)) fun t156 =>
    P.oV 157 (cV T0 s2.h 137 3 t156) fun t157 =>
    P.oV 162 (af T0 .sub 3 false t22 t157) fun t162 =>
    P.oV 163 (ai T0 33 t0x1 t162) fun t163 =>
    P.oV 164 (ac T0 s2.h 52 t163) fun t164 =>
    P.oV 167 (ai T0 33 t0x1 t157) fun t167 =>
    P.oV 168 (ac T0 s2.h 52 t167) fun t168 =>
    P.oT (oP T0 t4x1) (P.oF 169 t4x1 [t164, t168] s2 fun t169 s3 =>
    P.oV 170 (af T0 .lss 3 true t169 (.i .i64 0)) fun t170 =>
    P.oV 171 (cZ .not t170) fun t171 =>
    P.oI t171 (P.oV 173 (af T0 .add 3 true t157 (.i .i64 1)) fun t173 =>
     next t4x1 t3x1 t18x1 t0x1 t173 t1x1 t2x1 t19x1 t22 t21x1 s2)
    (next t4x1 t3x1 t18x1 t0x1 t20x1 t1x1 t2x1 t19x1 t22 t157 s2)))
   (P.oV 177 (af T0 .sub 3 false t19x1 t20x1) fun t177 =>
    P.oJ [4, 3, 24, 18, 0, 20, 1] (fun (k : C7) =>
     P.oV 180 (af T0 .lss 3 false t20x1 t2x1) fun t180 =>
     P.oG [182, 183, 184] t180 true (fun (kx1 : C3) => P.oV 184 (af T0 .lss 3 false t2x1 t177) fun t184 =>
      kx1 t2x1 t177 t184 s2) s2 fun t182 t183 t184 s3 =>
     P.oV 185 (au t180 (some t184) (some (.b false))) fun t185 =>
     P.oI t185 (P.oC 191 144 [t0x1, t20x1, t2x1, t177, t4x1] s3 fun t191 s4 =>
      k t4x1 t3x1 t177 t18x1 t0x1 t20x1 t1x1 s4)
     (k t4x1 t3x1 t177 t18x1 t0x1 t20x1 t1x1 s3))
    (fun t4x2 t3x2 t24 t18x2 t0x2 t20x2 t1x2 s3 =>
    P.oJ [4, 3, 24, 18, 0] (fun (k : C5) =>
     P.oV 194 (af T0 .lss 3 false t1x2 t20x2) fun t194 =>
     P.oG [196, 197, 198] t194 true (fun (kx1 : C3) => P.oV 198 (af T0 .lss 3 false t20x2 t18x2) fun t198 =>
      kx1 t20x2 t18x2 t198 s3) s3 fun t196 t197 t198 s4 =>
     P.oV 199 (au t194 (some t198) (some (.b false))) fun t199 =>
     P.oI t199 (P.oC 205 137 [t0x2, t1x2, t20x2, t18x2, t4x2] s4 fun t205 s5 =>
      k t4x2 t3x2 t24 t18x2 t0x2 s5)
     (k t4x2 t3x2 t24 t18x2 t0x2 s4))
    (fun t4x3 t3x3 t24x1 t18x3 t0x3 s4 =>
    P.oV 208 (af T0 .lss 3 false t18x3 t24x1) fun t208 =>
    P.oG [210, 211, 212] t208 true (fun (k : C3) => P.oV 212 (af T0 .lss 3 false t24x1 t3x3) fun t212 =>
     k t24x1 t3x3 t212 s4) s4 fun t210 t211 t212 s5 =>
    P.oV 213 (au t208 (some t212) (some (.b false))) fun t213 =>
    P.oI t213 (P.oC 219 137 [t0x3, t18x3, t24x1, t3x3, t4x3] s5 fun t219 s6 =>
     Q (.tup []) s6)
    (Q (.tup []) s5))))) t4 t3 t18 t0 t20 t1 t2 t19 t148 t21 s1)))
theorem w137_eq (P : Prims) (a0 a1 a2 a3 a4 : AV) (s : AS) (Q : AV -> AS -> Prop) : w137 P a0 a1 a2 a3 a4 s Q = bQ P T0 Tryz.f137 (bO Tryz.f137) an137 [a0, a1, a2, a3, a4] s Q := by kernel_rfl
def an144 : AN := (sqL (sqL (.seq none (.one (.loop [4, 10, 2, 0, 11] (.seq none (sqL (.two .leaf .leaf)) (.one (sqL (.two (sqM) (sqM))))))) .leaf)))
def w144 (P : Prims) (a0 a1 a2 a3 a4 : AV) (s : AS) (Q : AV -> AS -> Prop) : Prop :=
 P.oV 14 (af T0 .sub 3 false a2 a1) fun t14 =>
 P.oV 17 (af T0 .sub 3 false a3 a2) fun t17 =>
 P.oL [4, 10, 2, 0, 11] (fun (next : C5) t4 t10 t2 t0 t11 s1 =>
 P.oV 20 (af T0 .neq 3 false t10 t11) fun t20 =>
 P.oI t20 (P.oV 23 (af T0 .gtr 3 false t10 t11) fun t23 =>
  P.oI t23 (P.oV 27 (af T0 .sub 3 false t2 t10) fun t27 =>
   P.oC 31 147 [t0, t27, t2, t11, t4] s1 fun t31 s2 =>
   P.oV 34 (af T0 .sub 3 false t10 t11) fun t34 =>
   next t4 t34 t2 t0 t11 s2)
  (P.oV 38 (af T0 .sub 3 false t2 t10) fun t38 =>
   P.oV 41 (af T0 .add 3 false t2 t11) fun t41 =>
   P.oV 43 (af T0 .sub 3 false t41 t10) fun t43 =>
   P.oC 46 147 [t0, t38, t43, t10, t4] s1 fun t46 s2 =>
   P.oV 49 (af T0 .sub 3 false t11 t10) fun t49 =>
   next t4 t10 t2 t0 t49 s2))
 (P.oV 53 (af T0 .sub 3 false t2 t10) fun t53 =>
  P.oC 57 147 [t0, t53, t2, t10, t4] s1 fun t57 s2 =>
  Q (.tup []) s2)) a4 t14 a2 a0 t17 s
theorem w144_eq (P : Prims) (a0 a1 a2 a3 a4 : AV) (s : AS) (Q : AV -> AS -> Prop) : w144 P a0 a1 a2 a3 a4 s Q = bQ P T0 Tryz.f144 (bO Tryz.f144) an144 [a0, a1, a2, a3, a4] s Q := by kernel_rfl
def an147 : AN := (sqL (.one (.loop [1, 0, 2, 3, 10] (.seq none (sqL (.two .leaf .leaf)) (.seq none (.one .leaf) .leaf)))))
def w147 (P : Prims) (a0 a1 a2 a3 a4 : AV) (s : AS) (Q : AV -> AS -> Prop) : Prop :=
 P.oL [1, 0, 2, 3, 10] (fun (next : C5) t1 t0 t2 t3 t10 s1 =>
 P.oV 13 (af T0 .lss 3 false t10 t3) fun t13 =>
 P.oI t13 (P.oV 19 (af T0 .add 3 false t1 t10) fun t19 =>
  P.oV 23 (af T0 .add 3 false t2 t10) fun t23 =>
  P.oV 27 (af T0 .add 3 false t2 t10) fun t27 =>
  P.oV 28 (ai T0 33 t0 t27) fun t28 =>
  P.oV 29 (ac T0 s1.h 52 t28) fun t29 =>
  P.oV 33 (af T0 .add 3 false t1 t10) fun t33 =>
  P.oV 34 (ai T0 33 t0 t33) fun t34 =>
  P.oV 35 (ac T0 s1.h 52 t34) fun t35 =>
  P.oV 36 (ai T0 33 t0 t19) fun t36 =>
  P.oD (ba T0 s1.h 52 t36 t29) fun i b =>
  P.oT ((cb s1.n (ib [[], [], [], [2, 1], [], [], [], [6, 5], [], [], [], [10, 9], [10, 9, 11, 8], [10, 9, 11, 8, 12], [], [], [], [16, 15], [16, 15, 17, 14], [16, 15, 17, 14, 18], [16, 15, 17, 14, 18, 19, 10, 9, 11, 8, 12, 13, 2, 1, 3, 0], [16, 15, 17, 14, 18, 19, 10, 9, 11, 8, 12, 13, 2, 1, 3, 0, 20], [16, 15, 17, 14, 18, 19, 10, 9, 11, 8, 12, 13, 2, 1, 3, 0, 20, 21, 6, 5, 7, 4], [16, 15, 17, 14, 18, 19, 10, 9, 11, 8, 12, 13, 2, 1, 3, 0, 20, 21, 6, 5, 7, 4, 22]]) [16, 15, 17, 14, 18, 19, 10, 9, 11, 8, 12, 13, 2, 1, 3, 0, 20] [] i [19, 13]) && (cE [16, 15, 17, 14, 18, 19, 10, 9, 11, 8, 12, 13, 2, 1, 3, 0, 20] i [])) (P.oV 37 (ai T0 33 t0 t23) fun t37 =>
  P.oT (bD s1.n [16, 15, 17, 14, 18, 19, 10, 9, 11, 8, 12, 13, 2, 1, 3, 0, 20, 21, 6, 5, 7, 4, 22] [(21, (i, (some b)))] [(21, (i, (some b)))]) (P.oD (ba T0 (s1.h.put i (some b)) 52 t37 t35) fun ix1 bx1 =>
  P.oT ((cb s1.n (ib [[], [], [], [2, 1], [], [], [], [6, 5], [], [], [], [10, 9], [10, 9, 11, 8], [10, 9, 11, 8, 12], [], [], [], [16, 15], [16, 15, 17, 14], [16, 15, 17, 14, 18], [16, 15, 17, 14, 18, 19, 10, 9, 11, 8, 12, 13, 2, 1, 3, 0], [16, 15, 17, 14, 18, 19, 10, 9, 11, 8, 12, 13, 2, 1, 3, 0, 20], [16, 15, 17, 14, 18, 19, 10, 9, 11, 8, 12, 13, 2, 1, 3, 0, 20, 21, 6, 5, 7, 4], [16, 15, 17, 14, 18, 19, 10, 9, 11, 8, 12, 13, 2, 1, 3, 0, 20, 21, 6, 5, 7, 4, 22]]) [16, 15, 17, 14, 18, 19, 10, 9, 11, 8, 12, 13, 2, 1, 3, 0, 20, 21, 6, 5, 7, 4, 22] [(21, (i, (some b)))] ix1 [19, 13]) && (cE [16, 15, 17, 14, 18, 19, 10, 9, 11, 8, 12, 13, 2, 1, 3, 0, 20, 21, 6, 5, 7, 4, 22] ix1 [(21, (i, (some b)))])) (P.oS ⟨((s1.h.put i (some b)).put ix1 (some bx1)), s1.n⟩ fun s2 =>
  P.oV 15 (af T0 .add 3 true t10 (.i .i64 1)) fun t15 =>
  next t1 t0 t2 t3 t15 s2))))
 (Q (.tup []) s1)) a1 a0 a2 a3 (.i .i64 0) s
theorem w147_eq (P : Prims) (a0 a1 a2 a3 a4 : AV) (s : AS) (Q : AV -> AS -> Prop) : w147 P a0 a1 a2 a3 a4 s Q = bQ P T0 Tryz.f147 (bO Tryz.f147) an147 [a0, a1, a2, a3, a4] s Q := by kernel_rfl
end Go.Proofs.YtmfhmlhaofpeiaaGreatDoor.Ev
