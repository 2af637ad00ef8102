/- The functions' code, laid out. Printed by WP.lean.txt, a program of this session's. -/
import Derived.Test.YtmfhmlhaofpeiaaGreatDoorEvTy
namespace Go.Proofs.YtmfhmlhaofpeiaaGreatDoor.Ev
open Go Go.RowKit
set_option linter.unusedVariables false
set_option maxRecDepth 100000
def sqL (x : AN) : AN := .seq none .leaf x
def sqM : AN := .seq none .leaf .leaf
abbrev VBd (P : Prims) (f : Func) (an : AN) (l : List AV) (Q : AV -> AS -> Prop) : Prop := bQ P T0 f (bO f) an l ⟨.nil, 0⟩ Q
theorem RMk {f : Nat} {fn : Func} {an : AN} {l : List AV} {r : AV} {w : Prop} (hw : w = VBd (av T0) fn an l (fun r1 s1 => oZ T0 s1 r1 (fun r2 => r2 = r))) (hi : AV.idfree.idfrees l = true) (hn : AV.norm.norms l = l) (h : w) (h1 : T0.prim f = none := by kernel_rfl) (h2 : fU T0 f l = none := by kernel_rfl) (h3 : T0.fn f = some fn := by kernel_rfl) (h4 : fn.body = some (bO fn) := by kernel_rfl) (h5 : T0.opened f = false := by kernel_rfl) : R T0 f l r := R.mk h1 h2 h3 h4 h5 hi hn (hw ▸ h)
def an3 : AN := (sqL (.seq none (sqL (.two (sqM) .leaf)) (sqM)))
def w3 (P : Prims) (a0 a1 : AV) (Q : AV -> AS -> Prop) : Prop :=
 P.oC 6 11 [a0] ⟨Tr.nil, 0⟩ fun t6 s1 =>
 P.oV 7 (cZ .not t6) fun t7 =>
 P.oG [9, 10, 11] t7 false (fun (k : C3) => P.oC 10 11 [a1] s1 fun t10 s2 =>
  P.oV 11 (cZ .not t10) fun t11 =>
  k a1 t10 t11 s2) s1 fun t9 t10 t11 s2 =>
 P.oV 12 (au t7 (some (.b true)) (some t11)) fun t12 =>
 P.oI t12 (P.oC 13 12 [] s2 fun t13 s3 =>
  Q t13 s3)
 (P.oC 15 13 [a0] s2 fun t15 s3 =>
  P.oC 17 14 [a0] s3 fun t17 s4 =>
  P.oV 18 (af T0 .eql 4 false t15 t17) fun t18 =>
  P.oG [20, 21, 22, 23, 24, 25, 26] t18 true (fun (k : C7) => P.oC 22 15 [a0, a1] s4 fun t22 s5 =>
   P.oC 25 16 [a0, a1] s5 fun t25 s6 =>
   P.oV 26 (af T0 .eql 4 false t22 t25) fun t26 =>
   k a0 a1 t22 a0 a1 t25 t26 s6) s4 fun t20 t21 t22 t23 t24 t25 t26 s5 =>
  P.oV 27 (au t18 (some t26) (some (.b false))) fun t27 =>
  P.oG [29] t27 true (fun (k : C1) => P.oC 29 12 [] s5 fun t29 s6 =>
   k t29 s6) s5 fun t29 s6 =>
  P.oV 30 (au t27 (some t29) (some (.b false))) fun t30 =>
  Q t30 s6)
theorem w3_eq (P : Prims) (a0 a1 : AV) (Q : AV -> AS -> Prop) : w3 P a0 a1 Q = VBd P Tryz.f3 an3 [a0, a1] Q := by kernel_rfl
theorem r3 (a0 a1 : AV) {r : AV} (hi : AV.idfree.idfrees [a0, a1] = true) (hn : AV.norm.norms [a0, a1] = [a0, a1]) (h : w3 (av T0) a0 a1 (fun r1 s1 => oZ T0 s1 r1 (fun r2 => r2 = r))) : R T0 3 [a0, a1] r :=
 RMk (w3_eq ..) hi hn h
def an11 : AN := (sqL (.seq none (sqL (.two (sqM) .leaf)) (.seq none (sqL (.one (.loop [8, 9, 10] (sqL (.seq none (.two .leaf .leaf) (.seq none (.one (sqL (sqL (.two (sqM) .leaf)))) .leaf)))))) (sqM))))
def w11 (P : Prims) (a0 : AV) (Q : AV -> AS -> Prop) : Prop :=
 P.oV 6 (aj T0 Tr.nil .len [22] [a0]) fun t6 =>
 P.oV 7 (af T0 .gtr 3 true t6 (.i .i64 20)) fun t7 =>
 P.oI t7 (Q (.b false) ⟨Tr.nil, 0⟩)
 (P.oV 9 (aj T0 Tr.nil .len [22] [a0]) fun t9 =>
  P.oL [8, 9, 10] (fun (next : C3) t8 t9x1 t10 s1 =>
  P.oV 11 (af T0 .lss 3 false t10 t9x1) fun t11 =>
  P.oI t11 (P.oV 12 (ai T0 22 t8 t10) fun t12 =>
   P.oV 13 (ac T0 s1.h 50 t12) fun t13 =>
   P.oN 4 (.cells [(.i .i64 0), (.s []), (.i .i64 0), (.s [])] 50 false) (fun id => (.ptr id 0)) s1 fun t4 s2 =>
   P.oH (az T0 s2.h 50 t4 t13) s2 fun s3 =>
   P.oV 14 (ar 1 t4) fun t14 =>
   P.oV 15 (ac T0 s3.h 9 t14) fun t15 =>
   P.oV 16 (aj T0 s3.h .len [9] [t15]) fun t16 =>
   P.oV 17 (af T0 .gtr 3 true t16 (.i .i64 300)) fun t17 =>
   P.oG [19, 20, 21, 22] t17 false (fun (k : C4) => P.oV 19 (ar 3 t4) fun t19 =>
    P.oV 20 (ac T0 s3.h 9 t19) fun t20 =>
    P.oV 21 (aj T0 s3.h .len [9] [t20]) fun t21 =>
    P.oV 22 (af T0 .gtr 3 true t21 (.i .i64 300)) fun t22 =>
    k t19 t20 t21 t22 s3) s3 fun t19 t20 t21 t22 s4 =>
   P.oV 23 (au t17 (some (.b true)) (some t22)) fun t23 =>
   P.oI t23 (Q (.b false) s4)
   (P.oV 24 (af T0 .add 3 true t10 (.i .i64 1)) fun t24 =>
    next t8 t9x1 t24 s4))
  (Q (.b true) s1)) a0 t9 (.i .i64 0) ⟨Tr.nil, 0⟩)
theorem w11_eq (P : Prims) (a0 : AV) (Q : AV -> AS -> Prop) : w11 P a0 Q = VBd P Tryz.f11 an11 [a0] Q := by kernel_rfl
theorem r11 (a0 : AV) {r : AV} (hi : AV.idfree.idfrees [a0] = true) (hn : AV.norm.norms [a0] = [a0]) (h : w11 (av T0) a0 (fun r1 s1 => oZ T0 s1 r1 (fun r2 => r2 = r))) : R T0 11 [a0] r :=
 RMk (w11_eq ..) hi hn h
def an13 : AN := (sqL (sqM))
def w13 (P : Prims) (a0 : AV) (Q : AV -> AS -> Prop) : Prop :=
 P.oV 4 (aj T0 Tr.nil .len [22] [a0]) fun t4 =>
 P.oV 5 (af T0 .leq 3 true t4 (.i .i64 16)) fun t5 =>
 P.oG [7, 8, 9] t5 true (fun (k : C3) => P.oC 8 33 [a0, (.fn 34 [] [])] ⟨Tr.nil, 0⟩ fun t8 s1 =>
  P.oV 9 (cZ .not t8) fun t9 =>
  k a0 t8 t9 s1) ⟨Tr.nil, 0⟩ fun t7 t8 t9 s1 =>
 P.oV 10 (au t5 (some t9) (some (.b false))) fun t10 =>
 Q t10 s1
theorem w13_eq (P : Prims) (a0 : AV) (Q : AV -> AS -> Prop) : w13 P a0 Q = VBd P Tryz.f13 an13 [a0] Q := by kernel_rfl
theorem r13 (a0 : AV) {r : AV} (hi : AV.idfree.idfrees [a0] = true) (hn : AV.norm.norms [a0] = [a0]) (h : w13 (av T0) a0 (fun r1 s1 => oZ T0 s1 r1 (fun r2 => r2 = r))) : R T0 13 [a0] r :=
 RMk (w13_eq ..) hi hn h
def an14 : AN := (sqL (.seq none (sqL (.one (.loop [0, 3] (.seq none (sqL (.two .leaf .leaf)) (.seq none (.one (sqL (.two (sqM) .leaf))) .leaf))))) (sqM)))
def w14 (P : Prims) (a0 : AV) (Q : AV -> AS -> Prop) : Prop :=
 P.oL [0, 3] (fun (next : C2) t0 t3 s1 =>
 P.oV 6 (aj T0 s1.h .len [22] [t0]) fun t6 =>
 P.oV 7 (af T0 .lss 3 false t3 t6) fun t7 =>
 P.oI t7 (P.oV 12 (ai T0 22 t0 t3) fun t12 =>
  P.oV 13 (ac T0 s1.h 50 t12) fun t13 =>
  P.oC 14 36 [t13] s1 fun t14 s2 =>
  P.oV 15 (cZ .not t14) fun t15 =>
  P.oI t15 (Q (.b false) s2)
  (P.oV 9 (af T0 .add 3 true t3 (.i .i64 1)) fun t9 =>
   next t0 t9 s2))
 (P.oV 17 (aj T0 s1.h .len [22] [t0]) fun t17 =>
  P.oV 18 (af T0 .leq 3 true t17 (.i .i64 16)) fun t18 =>
  Q t18 s1)) a0 (.i .i64 0) ⟨Tr.nil, 0⟩
theorem w14_eq (P : Prims) (a0 : AV) (Q : AV -> AS -> Prop) : w14 P a0 Q = VBd P Tryz.f14 an14 [a0] Q := by kernel_rfl
theorem r14 (a0 : AV) {r : AV} (hi : AV.idfree.idfrees [a0] = true) (hn : AV.norm.norms [a0] = [a0]) (h : w14 (av T0) a0 (fun r1 s1 => oZ T0 s1 r1 (fun r2 => r2 = r))) : R T0 14 [a0] r :=
 RMk (w14_eq ..) hi hn h
def an30 : AN := (sqL (sqM))
def w30 (P : Prims) (a0 : AV) (Q : AV -> AS -> Prop) : Prop :=
 P.oN 1 (.cells (AV.cells a0) 35 false) (fun id => (.ptr id 0)) ⟨Tr.nil, 0⟩ fun t1 s1 =>
 P.oV 3 (ac T0 s1.h 35 t1) fun t3 =>
 P.oC 4 57 [t3, (.i .i64 12)] s1 fun t4 s2 =>
 P.oG [6, 7, 8] t4 true (fun (k : C3) => P.oV 6 (ac T0 s2.h 35 t1) fun t6 =>
  P.oC 7 58 [t6] s2 fun t7 s3 =>
  P.oV 8 (af T0 .leq 3 true t7 (.i .i64 600)) fun t8 =>
  k t6 t7 t8 s3) s2 fun t6 t7 t8 s3 =>
 P.oV 9 (au t4 (some t8) (some (.b false))) fun t9 =>
 Q t9 s3
theorem w30_eq (P : Prims) (a0 : AV) (Q : AV -> AS -> Prop) : w30 P a0 Q = VBd P Tryz.f30 an30 [a0] Q := by kernel_rfl
theorem r30 (a0 : AV) {r : AV} (hi : AV.idfree.idfrees [a0] = true) (hn : AV.norm.norms [a0] = [a0]) (h : w30 (av T0) a0 (fun r1 s1 => oZ T0 s1 r1 (fun r2 => r2 = r))) : R T0 30 [a0] r :=
 RMk (w30_eq ..) hi hn h
def an33 : AN := (sqL (sqM))
def w33 (P : Prims) (a0 a1 : AV) (Q : AV -> AS -> Prop) : Prop :=
 P.oC 7 59 [a0, a1] ⟨Tr.nil, 0⟩ fun t7 s1 =>
 P.oV 8 (af T0 .geq 3 true t7 (.i .i64 0)) fun t8 =>
 Q t8 s1
theorem w33_eq (P : Prims) (a0 a1 : AV) (Q : AV -> AS -> Prop) : w33 P a0 a1 Q = VBd P Tryz.f33 an33 [a0, a1] Q := by kernel_rfl
theorem r33 (a0 a1 : AV) {r : AV} (hi : AV.idfree.idfrees [a0, a1] = true) (hn : AV.norm.norms [a0, a1] = [a0, a1]) (h : w33 (av T0) a0 a1 (fun r1 s1 => oZ T0 s1 r1 (fun r2 => r2 = r))) : R T0 33 [a0, a1] r :=
 RMk (w33_eq ..) hi hn h
def an34 : AN := (sqL (sqM))
def w34 (P : Prims) (a0 : AV) (Q : AV -> AS -> Prop) : Prop :=
 P.oN 1 (.cells (AV.cells a0) 50 false) (fun id => (.ptr id 0)) ⟨Tr.nil, 0⟩ fun t1 s1 =>
 P.oV 3 (ac T0 s1.h 50 t1) fun t3 =>
 P.oC 4 35 [t3] s1 fun t4 s2 =>
 P.oV 5 (cZ .not t4) fun t5 =>
 Q t5 s2
theorem w34_eq (P : Prims) (a0 : AV) (Q : AV -> AS -> Prop) : w34 P a0 Q = VBd P Tryz.f34 an34 [a0] Q := by kernel_rfl
theorem r34 (a0 : AV) {r : AV} (hi : AV.idfree.idfrees [a0] = true) (hn : AV.norm.norms [a0] = [a0]) (h : w34 (av T0) a0 (fun r1 s1 => oZ T0 s1 r1 (fun r2 => r2 = r))) : R T0 34 [a0] r :=
 RMk (w34_eq ..) hi hn h
def an35 : AN := (sqL (.seq none (sqL (.one (sqL (.two (sqM) (sqL (.two (sqM) (sqL (.two (sqM) .leaf)))))))) (sqM)))
def w35 (P : Prims) (a0 : AV) (Q : AV -> AS -> Prop) : Prop :=
 P.oN 1 (.cells (AV.cells a0) 50 false) (fun id => (.ptr id 0)) ⟨Tr.nil, 0⟩ fun t1 s1 =>
 P.oV 3 (ar 0 t1) fun t3 =>
 P.oV 4 (ac T0 s1.h 3 t3) fun t4 =>
 P.oV 6 (af T0 .eql 3 true t4 (.i .i64 1)) fun t6 =>
 P.oI t6 (P.oV 7 (ar 1 t1) fun t7 =>
  P.oV 8 (ac T0 s1.h 9 t7) fun t8 =>
  P.oC 9 60 [t8] s1 fun t9 s2 =>
  P.oG [11, 12, 13] t9 true (fun (k : C3) => P.oV 11 (ar 2 t1) fun t11 =>
   P.oV 12 (ac T0 s2.h 3 t11) fun t12 =>
   P.oV 13 (af T0 .eql 3 true t12 (.i .i64 0)) fun t13 =>
   k t11 t12 t13 s2) s2 fun t11 t12 t13 s3 =>
  P.oV 14 (au t9 (some t13) (some (.b false))) fun t14 =>
  P.oG [16, 17, 18] t14 true (fun (k : C3) => P.oV 16 (ar 3 t1) fun t16 =>
   P.oV 17 (ac T0 s3.h 9 t16) fun t17 =>
   P.oV 18 (af T0 .eql 9 true t17 (.s [])) fun t18 =>
   k t16 t17 t18 s3) s3 fun t16 t17 t18 s4 =>
  P.oV 19 (au t14 (some t18) (some (.b false))) fun t19 =>
  Q t19 s4)
 (P.oV 21 (af T0 .eql 3 true t4 (.i .i64 2)) fun t21 =>
  P.oI t21 (P.oV 22 (ar 2 t1) fun t22 =>
   P.oV 23 (ac T0 s1.h 3 t22) fun t23 =>
   P.oV 24 (af T0 .geq 3 true t23 (.i .i64 0)) fun t24 =>
   P.oG [26, 27, 28] t24 true (fun (k : C3) => P.oV 26 (ar 2 t1) fun t26 =>
    P.oV 27 (ac T0 s1.h 3 t26) fun t27 =>
    P.oV 28 (af T0 .leq 3 true t27 (.i .i64 64)) fun t28 =>
    k t26 t27 t28 s1) s1 fun t26 t27 t28 s2 =>
   P.oV 29 (au t24 (some t28) (some (.b false))) fun t29 =>
   P.oG [31, 32, 33] t29 true (fun (k : C3) => P.oV 31 (ar 1 t1) fun t31 =>
    P.oV 32 (ac T0 s2.h 9 t31) fun t32 =>
    P.oV 33 (af T0 .eql 9 true t32 (.s [])) fun t33 =>
    k t31 t32 t33 s2) s2 fun t31 t32 t33 s3 =>
   P.oV 34 (au t29 (some t33) (some (.b false))) fun t34 =>
   P.oG [36, 37, 38] t34 true (fun (k : C3) => P.oV 36 (ar 3 t1) fun t36 =>
    P.oV 37 (ac T0 s3.h 9 t36) fun t37 =>
    P.oV 38 (af T0 .eql 9 true t37 (.s [])) fun t38 =>
    k t36 t37 t38 s3) s3 fun t36 t37 t38 s4 =>
   P.oV 39 (au t34 (some t38) (some (.b false))) fun t39 =>
   Q t39 s4)
  (P.oV 41 (af T0 .eql 3 true t4 (.i .i64 3)) fun t41 =>
   P.oI t41 (P.oV 42 (ar 1 t1) fun t42 =>
    P.oV 43 (ac T0 s1.h 9 t42) fun t43 =>
    P.oC 44 60 [t43] s1 fun t44 s2 =>
    P.oG [46, 47, 48] t44 true (fun (k : C3) => P.oV 46 (ar 2 t1) fun t46 =>
     P.oV 47 (ac T0 s2.h 3 t46) fun t47 =>
     P.oV 48 (af T0 .eql 3 true t47 (.i .i64 0)) fun t48 =>
     k t46 t47 t48 s2) s2 fun t46 t47 t48 s3 =>
    P.oV 49 (au t44 (some t48) (some (.b false))) fun t49 =>
    P.oG [51, 52, 53, 54] t49 true (fun (k : C4) => P.oV 51 (ar 3 t1) fun t51 =>
     P.oV 52 (ac T0 s3.h 9 t51) fun t52 =>
     P.oC 53 61 [t52] s3 fun t53 s4 =>
     P.oC 54 54 [t53] s4 fun t54 s5 =>
     k t51 t52 t53 t54 s5) s3 fun t51 t52 t53 t54 s4 =>
    P.oV 55 (au t49 (some t54) (some (.b false))) fun t55 =>
    Q t55 s4)
   (Q (.b false) s1)))
theorem w35_eq (P : Prims) (a0 : AV) (Q : AV -> AS -> Prop) : w35 P a0 Q = VBd P Tryz.f35 an35 [a0] Q := by kernel_rfl
theorem r35 (a0 : AV) {r : AV} (hi : AV.idfree.idfrees [a0] = true) (hn : AV.norm.norms [a0] = [a0]) (h : w35 (av T0) a0 (fun r1 s1 => oZ T0 s1 r1 (fun r2 => r2 = r))) : R T0 35 [a0] r :=
 RMk (w35_eq ..) hi hn h
def an36 : AN := (sqL (.seq none (sqL (.two (sqM) .leaf)) (.seq none (sqL (.two (sqM) .leaf)) (sqM))))
def w36 (P : Prims) (a0 : AV) (Q : AV -> AS -> Prop) : Prop :=
 P.oN 1 (.cells (AV.cells a0) 50 false) (fun id => (.ptr id 0)) ⟨Tr.nil, 0⟩ fun t1 s1 =>
 P.oV 3 (ar 0 t1) fun t3 =>
 P.oV 4 (ac T0 s1.h 3 t3) fun t4 =>
 P.oV 5 (af T0 .eql 3 true t4 (.i .i64 1)) fun t5 =>
 P.oI t5 (P.oV 6 (ar 1 t1) fun t6 =>
  P.oV 7 (ac T0 s1.h 9 t6) fun t7 =>
  P.oC 8 62 [t7] s1 fun t8 s2 =>
  P.oG [10, 11, 12] t8 true (fun (k : C3) => P.oV 10 (ar 2 t1) fun t10 =>
   P.oV 11 (ac T0 s2.h 3 t10) fun t11 =>
   P.oV 12 (af T0 .eql 3 true t11 (.i .i64 0)) fun t12 =>
   k t10 t11 t12 s2) s2 fun t10 t11 t12 s3 =>
  P.oV 13 (au t8 (some t12) (some (.b false))) fun t13 =>
  P.oG [15, 16, 17] t13 true (fun (k : C3) => P.oV 15 (ar 3 t1) fun t15 =>
   P.oV 16 (ac T0 s3.h 9 t15) fun t16 =>
   P.oV 17 (af T0 .eql 9 true t16 (.s [])) fun t17 =>
   k t15 t16 t17 s3) s3 fun t15 t16 t17 s4 =>
  P.oV 18 (au t13 (some t17) (some (.b false))) fun t18 =>
  Q t18 s4)
 (P.oV 19 (ar 0 t1) fun t19 =>
  P.oV 20 (ac T0 s1.h 3 t19) fun t20 =>
  P.oV 21 (af T0 .eql 3 true t20 (.i .i64 2)) fun t21 =>
  P.oI t21 (P.oV 22 (ar 2 t1) fun t22 =>
   P.oV 23 (ac T0 s1.h 3 t22) fun t23 =>
   P.oV 24 (af T0 .geq 3 true t23 (.i .i64 0)) fun t24 =>
   P.oG [26, 27, 28] t24 true (fun (k : C3) => P.oV 26 (ar 2 t1) fun t26 =>
    P.oV 27 (ac T0 s1.h 3 t26) fun t27 =>
    P.oV 28 (af T0 .leq 3 true t27 (.i .i64 64)) fun t28 =>
    k t26 t27 t28 s1) s1 fun t26 t27 t28 s2 =>
   P.oV 29 (au t24 (some t28) (some (.b false))) fun t29 =>
   P.oG [31, 32, 33] t29 true (fun (k : C3) => P.oV 31 (ar 1 t1) fun t31 =>
    P.oV 32 (ac T0 s2.h 9 t31) fun t32 =>
    P.oV 33 (af T0 .eql 9 true t32 (.s [])) fun t33 =>
    k t31 t32 t33 s2) s2 fun t31 t32 t33 s3 =>
   P.oV 34 (au t29 (some t33) (some (.b false))) fun t34 =>
   P.oG [36, 37, 38] t34 true (fun (k : C3) => P.oV 36 (ar 3 t1) fun t36 =>
    P.oV 37 (ac T0 s3.h 9 t36) fun t37 =>
    P.oV 38 (af T0 .eql 9 true t37 (.s [])) fun t38 =>
    k t36 t37 t38 s3) s3 fun t36 t37 t38 s4 =>
   P.oV 39 (au t34 (some t38) (some (.b false))) fun t39 =>
   Q t39 s4)
  (P.oV 40 (ar 0 t1) fun t40 =>
   P.oV 41 (ac T0 s1.h 3 t40) fun t41 =>
   P.oV 42 (af T0 .eql 3 true t41 (.i .i64 3)) fun t42 =>
   P.oG [44, 45, 46] t42 true (fun (k : C3) => P.oV 44 (ar 1 t1) fun t44 =>
    P.oV 45 (ac T0 s1.h 9 t44) fun t45 =>
    P.oC 46 62 [t45] s1 fun t46 s2 =>
    k t44 t45 t46 s2) s1 fun t44 t45 t46 s2 =>
   P.oV 47 (au t42 (some t46) (some (.b false))) fun t47 =>
   P.oG [49, 50, 51] t47 true (fun (k : C3) => P.oV 49 (ar 3 t1) fun t49 =>
    P.oV 50 (ac T0 s2.h 9 t49) fun t50 =>
    P.oC 51 63 [t50] s2 fun t51 s3 =>
    k t49 t50 t51 s3) s2 fun t49 t50 t51 s3 =>
   P.oV 52 (au t47 (some t51) (some (.b false))) fun t52 =>
   P.oG [54, 55, 56] t52 true (fun (k : C3) => P.oV 54 (ar 2 t1) fun t54 =>
    P.oV 55 (ac T0 s3.h 3 t54) fun t55 =>
    P.oV 56 (af T0 .eql 3 true t55 (.i .i64 0)) fun t56 =>
    k t54 t55 t56 s3) s3 fun t54 t55 t56 s4 =>
   P.oV 57 (au t52 (some t56) (some (.b false))) fun t57 =>
   Q t57 s4))
theorem w36_eq (P : Prims) (a0 : AV) (Q : AV -> AS -> Prop) : w36 P a0 Q = VBd P Tryz.f36 an36 [a0] Q := by kernel_rfl
theorem r36 (a0 : AV) {r : AV} (hi : AV.idfree.idfrees [a0] = true) (hn : AV.norm.norms [a0] = [a0]) (h : w36 (av T0) a0 (fun r1 s1 => oZ T0 s1 r1 (fun r2 => r2 = r))) : R T0 36 [a0] r :=
 RMk (w36_eq ..) hi hn h
def an37 : AN := (sqL (.seq none (sqL (.two (sqM) .leaf)) (.seq none (sqL (.one (.loop [1, 0, 12, 13] (sqL (.seq none (.two .leaf .leaf) (.seq none (.one (sqL (sqL (.two (sqM) .leaf)))) .leaf)))))) (sqM))))
def w37 (P : Prims) (a0 a1 : AV) (Q : AV -> AS -> Prop) : Prop :=
 P.oV 7 (aj T0 Tr.nil .len [22] [a0]) fun t7 =>
 P.oV 9 (aj T0 Tr.nil .len [22] [a1]) fun t9 =>
 P.oV 10 (af T0 .neq 3 false t7 t9) fun t10 =>
 P.oI t10 (Q (.b false) ⟨Tr.nil, 0⟩)
 (P.oV 12 (aj T0 Tr.nil .len [22] [a0]) fun t12 =>
  P.oL [1, 0, 12, 13] (fun (next : C4) t1 t0 t12x1 t13 s1 =>
  P.oV 14 (af T0 .lss 3 false t13 t12x1) fun t14 =>
  P.oI t14 (P.oV 18 (ai T0 22 t0 t13) fun t18 =>
   P.oV 19 (ac T0 s1.h 50 t18) fun t19 =>
   P.oV 22 (ai T0 22 t1 t13) fun t22 =>
   P.oV 23 (ac T0 s1.h 50 t22) fun t23 =>
   P.oV 24 (af T0 .neq 50 false t19 t23) fun t24 =>
   P.oI t24 (Q (.b false) s1)
   (P.oV 25 (af T0 .add 3 true t13 (.i .i64 1)) fun t25 =>
    next t1 t0 t12x1 t25 s1))
  (Q (.b true) s1)) a1 a0 t12 (.i .i64 0) ⟨Tr.nil, 0⟩)
theorem w37_eq (P : Prims) (a0 a1 : AV) (Q : AV -> AS -> Prop) : w37 P a0 a1 Q = VBd P Tryz.f37 an37 [a0, a1] Q := by kernel_rfl
theorem r37 (a0 a1 : AV) {r : AV} (hi : AV.idfree.idfrees [a0, a1] = true) (hn : AV.norm.norms [a0, a1] = [a0, a1]) (h : w37 (av T0) a0 a1 (fun r1 s1 => oZ T0 s1 r1 (fun r2 => r2 = r))) : R T0 37 [a0, a1] r :=
 RMk (w37_eq ..) hi hn h
def an54 : AN := (sqL (sqM))
def w54 (P : Prims) (a0 : AV) (Q : AV -> AS -> Prop) : Prop :=
 P.oN 1 (.cells (AV.cells a0) 35 false) (fun id => (.ptr id 0)) ⟨Tr.nil, 0⟩ fun t1 s1 =>
 P.oV 3 (ac T0 s1.h 35 t1) fun t3 =>
 P.oC 4 83 [t3, (.i .i64 12)] s1 fun t4 s2 =>
 P.oG [6, 7, 8] t4 true (fun (k : C3) => P.oV 6 (ac T0 s2.h 35 t1) fun t6 =>
  P.oC 7 84 [t6] s2 fun t7 s3 =>
  P.oV 8 (af T0 .leq 3 true t7 (.i .i64 600)) fun t8 =>
  k t6 t7 t8 s3) s2 fun t6 t7 t8 s3 =>
 P.oV 9 (au t4 (some t8) (some (.b false))) fun t9 =>
 Q t9 s3
theorem w54_eq (P : Prims) (a0 : AV) (Q : AV -> AS -> Prop) : w54 P a0 Q = VBd P Tryz.f54 an54 [a0] Q := by kernel_rfl
theorem r54 (a0 : AV) {r : AV} (hi : AV.idfree.idfrees [a0] = true) (hn : AV.norm.norms [a0] = [a0]) (h : w54 (av T0) a0 (fun r1 s1 => oZ T0 s1 r1 (fun r2 => r2 = r))) : R T0 54 [a0] r :=
 RMk (w54_eq ..) hi hn h
def an57 : AN := (sqL (.seq none (sqL (.two (sqM) .leaf)) (.seq none (sqL (.two (sqM) .leaf)) (.seq none (sqL (.one (.loop [1, 2, 5] (.seq none (sqL (.two .leaf .leaf)) (.seq none (.one (sqL (.two (sqM) .leaf))) .leaf))))) (.seq none (sqL (.one (.loop [1, 2, 6] (.seq none (sqL (.two .leaf .leaf)) (.seq none (.one (sqL (.two (sqM) .leaf))) .leaf))))) (sqM))))))
def w57 (P : Prims) (a0 a1 : AV) (Q : AV -> AS -> Prop) : Prop :=
 P.oN 2 (.cells (AV.cells a0) 35 false) (fun id => (.ptr id 0)) ⟨Tr.nil, 0⟩ fun t2 s1 =>
 P.oV 8 (af T0 .eql 3 true a1 (.i .i64 0)) fun t8 =>
 P.oG [10, 11, 12] t8 false (fun (k : C3) => P.oV 10 (ac T0 s1.h 35 t2) fun t10 =>
  P.oC 11 91 [t10] s1 fun t11 s2 =>
  P.oV 12 (cZ .not t11) fun t12 =>
  k t10 t11 t12 s2) s1 fun t10 t11 t12 s2 =>
 P.oV 13 (au t8 (some (.b true)) (some t12)) fun t13 =>
 P.oG [15, 16, 17, 18] t13 false (fun (k : C4) => P.oV 15 (ar 3 t2) fun t15 =>
  P.oV 16 (ac T0 s2.h 32 t15) fun t16 =>
  P.oV 17 (aj T0 s2.h .len [32] [t16]) fun t17 =>
  P.oV 18 (af T0 .gtr 3 true t17 (.i .i64 64)) fun t18 =>
  k t15 t16 t17 t18 s2) s2 fun t15 t16 t17 t18 s3 =>
 P.oV 19 (au t13 (some (.b true)) (some t18)) fun t19 =>
 P.oG [21, 22, 23, 24] t19 false (fun (k : C4) => P.oV 21 (ar 4 t2) fun t21 =>
  P.oV 22 (ac T0 s3.h 33 t21) fun t22 =>
  P.oV 23 (aj T0 s3.h .len [33] [t22]) fun t23 =>
  P.oV 24 (af T0 .gtr 3 true t23 (.i .i64 64)) fun t24 =>
  k t21 t22 t23 t24 s3) s3 fun t21 t22 t23 t24 s4 =>
 P.oV 25 (au t19 (some (.b true)) (some t24)) fun t25 =>
 P.oI t25 (Q (.b false) s4)
 (P.oV 26 (ar 0 t2) fun t26 =>
  P.oV 27 (ac T0 s4.h 3 t26) fun t27 =>
  P.oV 28 (af T0 .neq 3 true t27 (.i .i64 4)) fun t28 =>
  P.oG [30, 31, 32, 33] t28 true (fun (k : C4) => P.oV 30 (ar 3 t2) fun t30 =>
   P.oV 31 (ac T0 s4.h 32 t30) fun t31 =>
   P.oV 32 (aj T0 s4.h .len [32] [t31]) fun t32 =>
   P.oV 33 (af T0 .gtr 3 true t32 (.i .i64 0)) fun t33 =>
   k t30 t31 t32 t33 s4) s4 fun t30 t31 t32 t33 s5 =>
  P.oV 34 (au t28 (some t33) (some (.b false))) fun t34 =>
  P.oG [36, 37, 38, 39] t34 false (fun (k : C4) => P.oV 36 (ar 0 t2) fun t36 =>
   P.oV 37 (ac T0 s5.h 3 t36) fun t37 =>
   P.oV 38 (af T0 .neq 3 true t37 (.i .i64 5)) fun t38 =>
   k t36 t37 t38 t38 s5) s5 fun t36 t37 t38 t39 s6 =>
  P.oG [40, 41, 42, 43] t39 true (fun (k : C4) => P.oV 40 (ar 4 t2) fun t40 =>
   P.oV 41 (ac T0 s6.h 33 t40) fun t41 =>
   P.oV 42 (aj T0 s6.h .len [33] [t41]) fun t42 =>
   P.oV 43 (af T0 .gtr 3 true t42 (.i .i64 0)) fun t43 =>
   k t40 t41 t42 t43 s6) s6 fun t40 t41 t42 t43 s7 =>
  P.oG [44] t34 false (fun (k : C1) => P.oV 44 (au t39 (some t43) (some (.b false))) fun t44 =>
   k t44 s7) s7 fun t44 s8 =>
  P.oV 45 (au t34 (some (.b true)) (some t44)) fun t45 =>
  P.oI t45 (Q (.b false) s8)
  (P.oL [1, 2, 5] (fun (next : C3) t1 t2x1 t5 s9 =>
   P.oV 47 (ar 3 t2x1) fun t47 =>
   P.oV 48 (ac T0 s9.h 32 t47) fun t48 =>
   P.oV 49 (aj T0 s9.h .len [32] [t48]) fun t49 =>
   P.oV 50 (af T0 .lss 3 false t5 t49) fun t50 =>
   P.oI t50 (P.oV 53 (ar 3 t2x1) fun t53 =>
    P.oV 54 (ac T0 s9.h 32 t53) fun t54 =>
    P.oV 56 (ai T0 32 t54 t5) fun t56 =>
    P.oV 57 (ac T0 s9.h 35 t56) fun t57 =>
    P.oV 59 (af T0 .sub 3 true t1 (.i .i64 1)) fun t59 =>
    P.oC 60 57 [t57, t59] s9 fun t60 s10 =>
    P.oV 61 (cZ .not t60) fun t61 =>
    P.oI t61 (Q (.b false) s10)
    (P.oV 52 (af T0 .add 3 true t5 (.i .i64 1)) fun t52 =>
     next t1 t2x1 t52 s10))
   (P.oL [1, 2, 6] (fun (nextx1 : C3) t1x1 t2x2 t6 s10 =>
    P.oV 63 (ar 4 t2x2) fun t63 =>
    P.oV 64 (ac T0 s10.h 33 t63) fun t64 =>
    P.oV 65 (aj T0 s10.h .len [33] [t64]) fun t65 =>
    P.oV 66 (af T0 .lss 3 false t6 t65) fun t66 =>
    P.oI t66 (P.oV 69 (ar 4 t2x2) fun t69 =>
     P.oV 70 (ac T0 s10.h 33 t69) fun t70 =>
     P.oV 72 (ai T0 33 t70 t6) fun t72 =>
     P.oV 73 (ar 0 t72) fun t73 =>
     P.oV 74 (ac T0 s10.h 9 t73) fun t74 =>
     P.oC 75 92 [t74] s10 fun t75 s11 =>
     P.oV 76 (cZ .not t75) fun t76 =>
     P.oG [78, 79, 80] t76 false (fun (k : C3) => P.oV 79 (af T0 .gtr 3 true t6 (.i .i64 0)) fun t79 =>
      k t6 t79 t79 s10) s10 fun t78 t79 t80 s12 =>
     P.oG [81, 82, 83, 84, 85, 86, 87, 88, 89, 90, 91, 92, 93, 94] t80 true (fun (k : C14) => P.oV 81 (ar 4 t2x2) fun t81 =>
      P.oV 82 (ac T0 s10.h 33 t81) fun t82 =>
      P.oV 84 (ai T0 33 t82 t6) fun t84 =>
      P.oV 85 (ar 0 t84) fun t85 =>
      P.oV 86 (ac T0 s10.h 9 t85) fun t86 =>
      P.oV 87 (ar 4 t2x2) fun t87 =>
      P.oV 88 (ac T0 s10.h 33 t87) fun t88 =>
      P.oV 90 (af T0 .sub 3 true t6 (.i .i64 1)) fun t90 =>
      P.oV 91 (ai T0 33 t88 t90) fun t91 =>
      P.oV 92 (ar 0 t91) fun t92 =>
      P.oV 93 (ac T0 s10.h 9 t92) fun t93 =>
      P.oV 94 (af T0 .leq 9 false t86 t93) fun t94 =>
      k t81 t82 t6 t84 t85 t86 t87 t88 t6 t90 t91 t92 t93 t94 s10) s10 fun t81 t82 t83 t84 t85 t86 t87 t88 t89 t90 t91 t92 t93 t94 s13 =>
     P.oG [95] t76 false (fun (k : C1) => P.oV 95 (au t80 (some t94) (some (.b false))) fun t95 =>
      k t95 s10) s10 fun t95 s14 =>
     P.oV 96 (au t76 (some (.b true)) (some t95)) fun t96 =>
     P.oG [98, 99, 100, 101, 102, 103, 104, 105, 106, 107] t96 false (fun (k : C10) => P.oV 98 (ar 4 t2x2) fun t98 =>
      P.oV 99 (ac T0 s10.h 33 t98) fun t99 =>
      P.oV 101 (ai T0 33 t99 t6) fun t101 =>
      P.oV 102 (ar 1 t101) fun t102 =>
      P.oV 103 (ac T0 s10.h 35 t102) fun t103 =>
      P.oV 105 (af T0 .sub 3 true t1x1 (.i .i64 1)) fun t105 =>
      P.oC 106 57 [t103, t105] s10 fun t106 s15 =>
      P.oV 107 (cZ .not t106) fun t107 =>
      k t98 t99 t6 t101 t102 t103 t1x1 t105 t106 t107 s10) s10 fun t98 t99 t100 t101 t102 t103 t104 t105 t106 t107 s15 =>
     P.oV 108 (au t96 (some (.b true)) (some t107)) fun t108 =>
     P.oI t108 (Q (.b false) s10)
     (P.oV 68 (af T0 .add 3 true t6 (.i .i64 1)) fun t68 =>
      nextx1 t1x1 t2x2 t68 s10))
    (Q (.b true) s10)) t1 t2x1 (.i .i64 0) s9)) a1 t2 (.i .i64 0) s8))
theorem w57_eq (P : Prims) (a0 a1 : AV) (Q : AV -> AS -> Prop) : w57 P a0 a1 Q = VBd P Tryz.f57 an57 [a0, a1] Q := by kernel_rfl
theorem r57 (a0 a1 : AV) {r : AV} (hi : AV.idfree.idfrees [a0, a1] = true) (hn : AV.norm.norms [a0, a1] = [a0, a1]) (h : w57 (av T0) a0 a1 (fun r1 s1 => oZ T0 s1 r1 (fun r2 => r2 = r))) : R T0 57 [a0, a1] r :=
 RMk (w57_eq ..) hi hn h
def an58 : AN := (sqL (sqL (.seq none (sqL (.one (.loop [3, 1, 4] (.seq none (sqL (.two .leaf .leaf)) (.seq none (.one .leaf) .leaf))))) (.seq none (sqL (.one (.loop [3, 1, 5] (.seq none (sqL (.two .leaf .leaf)) (.seq none (.one .leaf) .leaf))))) (sqM)))))
def w58 (P : Prims) (a0 : AV) (Q : AV -> AS -> Prop) : Prop :=
 P.oN 1 (.cells (AV.cells a0) 35 false) (fun id => (.ptr id 0)) ⟨Tr.nil, 0⟩ fun t1 s1 =>
 P.oL [3, 1, 4] (fun (next : C3) t3 t1x1 t4 s2 =>
 P.oV 7 (ar 3 t1x1) fun t7 =>
 P.oV 8 (ac T0 s2.h 32 t7) fun t8 =>
 P.oV 9 (aj T0 s2.h .len [32] [t8]) fun t9 =>
 P.oV 10 (af T0 .lss 3 false t4 t9) fun t10 =>
 P.oI t10 (P.oV 14 (ar 3 t1x1) fun t14 =>
  P.oV 15 (ac T0 s2.h 32 t14) fun t15 =>
  P.oV 17 (ai T0 32 t15 t4) fun t17 =>
  P.oV 18 (ac T0 s2.h 35 t17) fun t18 =>
  P.oC 19 58 [t18] s2 fun t19 s3 =>
  P.oV 20 (af T0 .add 3 false t3 t19) fun t20 =>
  P.oV 12 (af T0 .add 3 true t4 (.i .i64 1)) fun t12 =>
  next t20 t1x1 t12 s3)
 (P.oL [3, 1, 5] (fun (nextx1 : C3) t3x1 t1x2 t5 s3 =>
  P.oV 22 (ar 4 t1x2) fun t22 =>
  P.oV 23 (ac T0 s3.h 33 t22) fun t23 =>
  P.oV 24 (aj T0 s3.h .len [33] [t23]) fun t24 =>
  P.oV 25 (af T0 .lss 3 false t5 t24) fun t25 =>
  P.oI t25 (P.oV 29 (ar 4 t1x2) fun t29 =>
   P.oV 30 (ac T0 s3.h 33 t29) fun t30 =>
   P.oV 32 (ai T0 33 t30 t5) fun t32 =>
   P.oV 33 (ar 1 t32) fun t33 =>
   P.oV 34 (ac T0 s3.h 35 t33) fun t34 =>
   P.oC 35 58 [t34] s3 fun t35 s4 =>
   P.oV 36 (af T0 .add 3 false t3x1 t35) fun t36 =>
   P.oV 27 (af T0 .add 3 true t5 (.i .i64 1)) fun t27 =>
   nextx1 t36 t1x2 t27 s4)
  (Q t3x1 s3)) t3 t1x1 (.i .i64 0) s2)) (.i .i64 1) t1 (.i .i64 0) s1
theorem w58_eq (P : Prims) (a0 : AV) (Q : AV -> AS -> Prop) : w58 P a0 Q = VBd P Tryz.f58 an58 [a0] Q := by kernel_rfl
theorem r58 (a0 : AV) {r : AV} (hi : AV.idfree.idfrees [a0] = true) (hn : AV.norm.norms [a0] = [a0]) (h : w58 (av T0) a0 (fun r1 s1 => oZ T0 s1 r1 (fun r2 => r2 = r))) : R T0 58 [a0] r :=
 RMk (w58_eq ..) hi hn h
def an59 : AN := (sqL (.seq none (sqL (.one (.loop [0, 1, 7, 8] (sqL (.seq none (.two .leaf .leaf) (.seq none (.one (sqL (sqL (.two (sqM) .leaf)))) .leaf)))))) (sqM)))
def w59 (P : Prims) (a0 a1 : AV) (Q : AV -> AS -> Prop) : Prop :=
 P.oV 7 (aj T0 Tr.nil .len [22] [a0]) fun t7 =>
 P.oL [0, 1, 7, 8] (fun (next : C4) t0 t1 t7x1 t8 s1 =>
 P.oV 9 (af T0 .lss 3 false t8 t7x1) fun t9 =>
 P.oI t9 (P.oV 14 (ai T0 22 t0 t8) fun t14 =>
  P.oV 15 (ac T0 s1.h 50 t14) fun t15 =>
  P.oF 16 t1 [t15] s1 fun t16 s2 =>
  P.oI t16 (Q t8 s2)
  (P.oV 18 (af T0 .add 3 true t8 (.i .i64 1)) fun t18 =>
   next t0 t1 t7x1 t18 s2))
 (Q (.i .i64 (-1)) s1)) a0 a1 t7 (.i .i64 0) ⟨Tr.nil, 0⟩
theorem w59_eq (P : Prims) (a0 a1 : AV) (Q : AV -> AS -> Prop) : w59 P a0 a1 Q = VBd P Tryz.f59 an59 [a0, a1] Q := by kernel_rfl
theorem r59 (a0 a1 : AV) {r : AV} (hi : AV.idfree.idfrees [a0, a1] = true) (hn : AV.norm.norms [a0, a1] = [a0, a1]) (h : w59 (av T0) a0 a1 (fun r1 s1 => oZ T0 s1 r1 (fun r2 => r2 = r))) : R T0 59 [a0, a1] r :=
 RMk (w59_eq ..) hi hn h
def an60 : AN := (sqL (.seq none (sqL (.one (.loop [0, 6] (sqL (.seq none (.two .leaf .leaf) (.one (sqL (sqL (.two (sqM) .leaf))))))))) (sqM)))
def w60 (P : Prims) (a0 : AV) (Q : AV -> AS -> Prop) : Prop :=
 P.oE (mU T0 9 a0) fun b f =>
 P.oN 6 b f ⟨Tr.nil, 0⟩ fun t6 s1 =>
 P.oL [0, 6] (fun (next : C2) t0 t6x1 s2 =>
 P.oM 7 (gW s2 t6x1) fun t7 s3 =>
 P.oV 8 (aI 0 t7) fun t8 =>
 P.oI t8 (P.oV 9 (aI 2 t7) fun t9 =>
  P.oC 11 66 [t9] s3 fun t11 s4 =>
  P.oV 12 (cZ .not t11) fun t12 =>
  P.oI t12 (Q (.b false) s4)
  (next t0 t6x1 s4))
 (P.oV 14 (af T0 .neq 9 true t0 (.s [])) fun t14 =>
  P.oG [16, 17, 18] t14 true (fun (k : C3) => P.oV 17 (aj T0 s3.h .len [9] [t0]) fun t17 =>
   P.oV 18 (af T0 .leq 3 true t17 (.i .i64 40)) fun t18 =>
   k t0 t17 t18 s3) s3 fun t16 t17 t18 s4 =>
  P.oV 19 (au t14 (some t18) (some (.b false))) fun t19 =>
  Q t19 s4)) a0 t6 s1
theorem w60_eq (P : Prims) (a0 : AV) (Q : AV -> AS -> Prop) : w60 P a0 Q = VBd P Tryz.f60 an60 [a0] Q := by kernel_rfl
theorem r60 (a0 : AV) {r : AV} (hi : AV.idfree.idfrees [a0] = true) (hn : AV.norm.norms [a0] = [a0]) (h : w60 (av T0) a0 (fun r1 s1 => oZ T0 s1 r1 (fun r2 => r2 = r))) : R T0 60 [a0] r :=
 RMk (w60_eq ..) hi hn h
def an61 : AN := (sqL (sqM))
def w61 (P : Prims) (a0 : AV) (Q : AV -> AS -> Prop) : Prop :=
 P.oN 2 (.cells [(.i .i64 0), (.i .i64 0), (.s []), (.nilz true), (.nilz true)] 35 false) (fun id => (.ptr id 0)) ⟨Tr.nil, 0⟩ fun t2 s1 =>
 P.oV 4 (bF T0 35 [(0, (.i .i64 3)), (2, a0)]) fun t4 =>
 P.oH (az T0 s1.h 35 t2 t4) s1 fun s2 =>
 P.oV 2 (ac T0 s2.h 35 t2) fun t2x1 =>
 Q t2x1 s2
theorem w61_eq (P : Prims) (a0 : AV) (Q : AV -> AS -> Prop) : w61 P a0 Q = VBd P Tryz.f61 an61 [a0] Q := by kernel_rfl
theorem r61 (a0 : AV) {r : AV} (hi : AV.idfree.idfrees [a0] = true) (hn : AV.norm.norms [a0] = [a0]) (h : w61 (av T0) a0 (fun r1 s1 => oZ T0 s1 r1 (fun r2 => r2 = r))) : R T0 61 [a0] r :=
 RMk (w61_eq ..) hi hn h
def an62 : AN := (sqL (.seq none (sqL (.one (.loop [0, 3] (.seq none (sqL (.two .leaf .leaf)) (.seq none (.one (sqL (.two (sqM) .leaf))) .leaf))))) (sqM)))
def w62 (P : Prims) (a0 : AV) (Q : AV -> AS -> Prop) : Prop :=
 P.oL [0, 3] (fun (next : C2) t0 t3 s1 =>
 P.oV 6 (aj T0 s1.h .len [9] [t0]) fun t6 =>
 P.oV 7 (af T0 .lss 3 false t3 t6) fun t7 =>
 P.oI t7 (P.oV 12 (cc T0 9 t0 t3) fun t12 =>
  P.oC 13 93 [t12] s1 fun t13 s2 =>
  P.oV 14 (cZ .not t13) fun t14 =>
  P.oI t14 (Q (.b false) s2)
  (P.oV 9 (af T0 .add 3 true t3 (.i .i64 1)) fun t9 =>
   next t0 t9 s2))
 (P.oV 16 (aj T0 s1.h .len [9] [t0]) fun t16 =>
  P.oV 17 (af T0 .gtr 3 true t16 (.i .i64 0)) fun t17 =>
  P.oG [19, 20, 21] t17 true (fun (k : C3) => P.oV 20 (aj T0 s1.h .len [9] [t0]) fun t20 =>
   P.oV 21 (af T0 .leq 3 true t20 (.i .i64 40)) fun t21 =>
   k t0 t20 t21 s1) s1 fun t19 t20 t21 s2 =>
  P.oV 22 (au t17 (some t21) (some (.b false))) fun t22 =>
  Q t22 s2)) a0 (.i .i64 0) ⟨Tr.nil, 0⟩
theorem w62_eq (P : Prims) (a0 : AV) (Q : AV -> AS -> Prop) : w62 P a0 Q = VBd P Tryz.f62 an62 [a0] Q := by kernel_rfl
theorem r62 (a0 : AV) {r : AV} (hi : AV.idfree.idfrees [a0] = true) (hn : AV.norm.norms [a0] = [a0]) (h : w62 (av T0) a0 (fun r1 s1 => oZ T0 s1 r1 (fun r2 => r2 = r))) : R T0 62 [a0] r :=
 RMk (w62_eq ..) hi hn h
def an63 : AN := (sqL (.seq none (sqL (.one (.loop [0, 3] (.seq none (sqL (.two .leaf .leaf)) (.seq none (.one (sqL (.two (sqM) .leaf))) .leaf))))) (sqM)))
def w63 (P : Prims) (a0 : AV) (Q : AV -> AS -> Prop) : Prop :=
 P.oL [0, 3] (fun (next : C2) t0 t3 s1 =>
 P.oV 6 (aj T0 s1.h .len [9] [t0]) fun t6 =>
 P.oV 7 (af T0 .lss 3 false t3 t6) fun t7 =>
 P.oI t7 (P.oV 12 (cc T0 9 t0 t3) fun t12 =>
  P.oV 13 (af T0 .neq 5 true t12 (.i .u8 10)) fun t13 =>
  P.oG [15, 16, 17, 18, 19] t13 true (fun (k : C5) => P.oV 17 (cc T0 9 t0 t3) fun t17 =>
   P.oV 18 (af T0 .lss 5 true t17 (.i .u8 32)) fun t18 =>
   k t0 t3 t17 t18 t18 s1) s1 fun t15 t16 t17 t18 t19 s2 =>
  P.oG [20, 21, 22, 23] t19 false (fun (k : C4) => P.oV 22 (cc T0 9 t0 t3) fun t22 =>
   P.oV 23 (af T0 .gtr 5 true t22 (.i .u8 126)) fun t23 =>
   k t0 t3 t22 t23 s2) s2 fun t20 t21 t22 t23 s3 =>
  P.oG [24] t13 true (fun (k : C1) => P.oV 24 (au t19 (some (.b true)) (some t23)) fun t24 =>
   k t24 s3) s3 fun t24 s4 =>
  P.oV 25 (au t13 (some t24) (some (.b false))) fun t25 =>
  P.oI t25 (Q (.b false) s4)
  (P.oV 9 (af T0 .add 3 true t3 (.i .i64 1)) fun t9 =>
   next t0 t9 s4))
 (P.oV 27 (aj T0 s1.h .len [9] [t0]) fun t27 =>
  P.oV 28 (af T0 .leq 3 true t27 (.i .i64 200)) fun t28 =>
  Q t28 s1)) a0 (.i .i64 0) ⟨Tr.nil, 0⟩
theorem w63_eq (P : Prims) (a0 : AV) (Q : AV -> AS -> Prop) : w63 P a0 Q = VBd P Tryz.f63 an63 [a0] Q := by kernel_rfl
theorem r63 (a0 : AV) {r : AV} (hi : AV.idfree.idfrees [a0] = true) (hn : AV.norm.norms [a0] = [a0]) (h : w63 (av T0) a0 (fun r1 s1 => oZ T0 s1 r1 (fun r2 => r2 = r))) : R T0 63 [a0] r :=
 RMk (w63_eq ..) hi hn h
def an66 : AN := (sqL (sqM))
def w66 (P : Prims) (a0 : AV) (Q : AV -> AS -> Prop) : Prop :=
 P.oV 4 (af T0 .geq 21 true a0 (.i .i32 97)) fun t4 =>
 P.oG [6, 7] t4 true (fun (k : C2) => P.oV 7 (af T0 .leq 21 true a0 (.i .i32 122)) fun t7 =>
  k a0 t7 ⟨Tr.nil, 0⟩) ⟨Tr.nil, 0⟩ fun t6 t7 s1 =>
 P.oV 8 (au t4 (some t7) (some (.b false))) fun t8 =>
 P.oG [10, 11, 12] t8 false (fun (k : C3) => P.oV 11 (af T0 .geq 21 true a0 (.i .i32 65)) fun t11 =>
  k a0 t11 t11 s1) s1 fun t10 t11 t12 s2 =>
 P.oG [13, 14] t12 true (fun (k : C2) => P.oV 14 (af T0 .leq 21 true a0 (.i .i32 90)) fun t14 =>
  k a0 t14 s2) s2 fun t13 t14 s3 =>
 P.oG [15] t8 false (fun (k : C1) => P.oV 15 (au t12 (some t14) (some (.b false))) fun t15 =>
  k t15 s3) s3 fun t15 s4 =>
 P.oV 16 (au t8 (some (.b true)) (some t15)) fun t16 =>
 P.oG [18, 19, 20] t16 false (fun (k : C3) => P.oV 19 (af T0 .geq 21 true a0 (.i .i32 48)) fun t19 =>
  k a0 t19 t19 s4) s4 fun t18 t19 t20 s5 =>
 P.oG [21, 22] t20 true (fun (k : C2) => P.oV 22 (af T0 .leq 21 true a0 (.i .i32 57)) fun t22 =>
  k a0 t22 s5) s5 fun t21 t22 s6 =>
 P.oG [23] t16 false (fun (k : C1) => P.oV 23 (au t20 (some t22) (some (.b false))) fun t23 =>
  k t23 s6) s6 fun t23 s7 =>
 P.oV 24 (au t16 (some (.b true)) (some t23)) fun t24 =>
 P.oG [26, 27] t24 false (fun (k : C2) => P.oV 27 (af T0 .eql 21 true a0 (.i .i32 45)) fun t27 =>
  k a0 t27 s7) s7 fun t26 t27 s8 =>
 P.oV 28 (au t24 (some (.b true)) (some t27)) fun t28 =>
 P.oG [30, 31] t28 false (fun (k : C2) => P.oV 31 (af T0 .eql 21 true a0 (.i .i32 95)) fun t31 =>
  k a0 t31 s8) s8 fun t30 t31 s9 =>
 P.oV 32 (au t28 (some (.b true)) (some t31)) fun t32 =>
 P.oG [34, 35] t32 false (fun (k : C2) => P.oV 35 (af T0 .eql 21 true a0 (.i .i32 47)) fun t35 =>
  k a0 t35 s9) s9 fun t34 t35 s10 =>
 P.oV 36 (au t32 (some (.b true)) (some t35)) fun t36 =>
 Q t36 s10
theorem w66_eq (P : Prims) (a0 : AV) (Q : AV -> AS -> Prop) : w66 P a0 Q = VBd P Tryz.f66 an66 [a0] Q := by kernel_rfl
theorem r66 (a0 : AV) {r : AV} (hi : AV.idfree.idfrees [a0] = true) (hn : AV.norm.norms [a0] = [a0]) (h : w66 (av T0) a0 (fun r1 s1 => oZ T0 s1 r1 (fun r2 => r2 = r))) : R T0 66 [a0] r :=
 RMk (w66_eq ..) hi hn h
def an83 : AN := (sqL (.seq none (sqL (.two (sqM) .leaf)) (.seq none (sqL (.one (.loop [1, 2, 51, 52, 53] (sqL (.seq none (.two .leaf .leaf) (.seq none (.one (sqL (sqL (.two (sqM) .leaf)))) .leaf)))))) (.seq none (sqL (.one (.loop [1, 2, 64, 65, 66] (sqL (.seq none (.two .leaf .leaf) (.seq none (.one (sqL (sqL (.two (sqM) .leaf)))) .leaf)))))) (sqM)))))
def w83 (P : Prims) (a0 a1 : AV) (Q : AV -> AS -> Prop) : Prop :=
 P.oN 2 (.cells (AV.cells a0) 35 false) (fun id => (.ptr id 0)) ⟨Tr.nil, 0⟩ fun t2 s1 =>
 P.oV 10 (af T0 .eql 3 true a1 (.i .i64 0)) fun t10 =>
 P.oG [12, 13, 14] t10 false (fun (k : C3) => P.oV 12 (ac T0 s1.h 35 t2) fun t12 =>
  P.oC 13 102 [t12] s1 fun t13 s2 =>
  P.oV 14 (cZ .not t13) fun t14 =>
  k t12 t13 t14 s2) s1 fun t12 t13 t14 s2 =>
 P.oV 15 (au t10 (some (.b true)) (some t14)) fun t15 =>
 P.oG [17, 18, 19, 20] t15 false (fun (k : C4) => P.oV 17 (ar 0 t2) fun t17 =>
  P.oV 18 (ac T0 s2.h 3 t17) fun t18 =>
  P.oV 19 (af T0 .neq 3 true t18 (.i .i64 4)) fun t19 =>
  k t17 t18 t19 t19 s2) s2 fun t17 t18 t19 t20 s3 =>
 P.oG [21, 22, 23, 24] t20 true (fun (k : C4) => P.oV 21 (ar 3 t2) fun t21 =>
  P.oV 22 (ac T0 s3.h 32 t21) fun t22 =>
  P.oV 23 (aj T0 s3.h .len [32] [t22]) fun t23 =>
  P.oV 24 (af T0 .gtr 3 true t23 (.i .i64 0)) fun t24 =>
  k t21 t22 t23 t24 s3) s3 fun t21 t22 t23 t24 s4 =>
 P.oG [25] t15 false (fun (k : C1) => P.oV 25 (au t20 (some t24) (some (.b false))) fun t25 =>
  k t25 s4) s4 fun t25 s5 =>
 P.oV 26 (au t15 (some (.b true)) (some t25)) fun t26 =>
 P.oG [28, 29, 30, 31] t26 false (fun (k : C4) => P.oV 28 (ar 0 t2) fun t28 =>
  P.oV 29 (ac T0 s5.h 3 t28) fun t29 =>
  P.oV 30 (af T0 .neq 3 true t29 (.i .i64 5)) fun t30 =>
  k t28 t29 t30 t30 s5) s5 fun t28 t29 t30 t31 s6 =>
 P.oG [32, 33, 34, 35] t31 true (fun (k : C4) => P.oV 32 (ar 4 t2) fun t32 =>
  P.oV 33 (ac T0 s6.h 33 t32) fun t33 =>
  P.oV 34 (aj T0 s6.h .len [33] [t33]) fun t34 =>
  P.oV 35 (af T0 .gtr 3 true t34 (.i .i64 0)) fun t35 =>
  k t32 t33 t34 t35 s6) s6 fun t32 t33 t34 t35 s7 =>
 P.oG [36] t26 false (fun (k : C1) => P.oV 36 (au t31 (some t35) (some (.b false))) fun t36 =>
  k t36 s7) s7 fun t36 s8 =>
 P.oV 37 (au t26 (some (.b true)) (some t36)) fun t37 =>
 P.oG [39, 40, 41, 42] t37 false (fun (k : C4) => P.oV 39 (ar 3 t2) fun t39 =>
  P.oV 40 (ac T0 s8.h 32 t39) fun t40 =>
  P.oV 41 (aj T0 s8.h .len [32] [t40]) fun t41 =>
  P.oV 42 (af T0 .gtr 3 true t41 (.i .i64 64)) fun t42 =>
  k t39 t40 t41 t42 s8) s8 fun t39 t40 t41 t42 s9 =>
 P.oV 43 (au t37 (some (.b true)) (some t42)) fun t43 =>
 P.oG [45, 46, 47, 48] t43 false (fun (k : C4) => P.oV 45 (ar 4 t2) fun t45 =>
  P.oV 46 (ac T0 s9.h 33 t45) fun t46 =>
  P.oV 47 (aj T0 s9.h .len [33] [t46]) fun t47 =>
  P.oV 48 (af T0 .gtr 3 true t47 (.i .i64 64)) fun t48 =>
  k t45 t46 t47 t48 s9) s9 fun t45 t46 t47 t48 s10 =>
 P.oV 49 (au t43 (some (.b true)) (some t48)) fun t49 =>
 P.oI t49 (Q (.b false) s10)
 (P.oV 50 (ar 3 t2) fun t50 =>
  P.oV 51 (ac T0 s10.h 32 t50) fun t51 =>
  P.oV 52 (aj T0 s10.h .len [32] [t51]) fun t52 =>
  P.oL [1, 2, 51, 52, 53] (fun (next : C5) t1 t2x1 t51x1 t52x1 t53 s11 =>
  P.oV 54 (af T0 .lss 3 false t53 t52x1) fun t54 =>
  P.oI t54 (P.oV 55 (ai T0 32 t51x1 t53) fun t55 =>
   P.oV 56 (ac T0 s11.h 35 t55) fun t56 =>
   P.oN 6 (.cells [(.i .i64 0), (.i .i64 0), (.s []), (.nilz true), (.nilz true)] 35 false) (fun id => (.ptr id 0)) s11 fun t6 s12 =>
   P.oH (az T0 s12.h 35 t6 t56) s12 fun s13 =>
   P.oV 57 (ac T0 s13.h 35 t6) fun t57 =>
   P.oV 59 (af T0 .sub 3 true t1 (.i .i64 1)) fun t59 =>
   P.oC 60 83 [t57, t59] s13 fun t60 s14 =>
   P.oV 61 (cZ .not t60) fun t61 =>
   P.oI t61 (Q (.b false) s14)
   (P.oV 62 (af T0 .add 3 true t53 (.i .i64 1)) fun t62 =>
    next t1 t2x1 t51x1 t52x1 t62 s14))
  (P.oV 63 (ar 4 t2x1) fun t63 =>
   P.oV 64 (ac T0 s11.h 33 t63) fun t64 =>
   P.oV 65 (aj T0 s11.h .len [33] [t64]) fun t65 =>
   P.oL [1, 2, 64, 65, 66] (fun (nextx1 : C5) t1x1 t2x2 t64x1 t65x1 t66 s12 =>
   P.oV 67 (af T0 .lss 3 false t66 t65x1) fun t67 =>
   P.oI t67 (P.oV 69 (ai T0 33 t64x1 t66) fun t69 =>
    P.oV 70 (ac T0 s12.h 52 t69) fun t70 =>
    P.oN 8 (.cells [(.s []), (.i .i64 0), (.i .i64 0), (.s []), (.nilz true), (.nilz true)] 52 false) (fun id => (.ptr id 0)) s12 fun t8 s13 =>
    P.oH (az T0 s13.h 52 t8 t70) s13 fun s14 =>
    P.oV 71 (ar 0 t8) fun t71 =>
    P.oV 72 (ac T0 s14.h 9 t71) fun t72 =>
    P.oC 73 103 [t72] s14 fun t73 s15 =>
    P.oV 74 (cZ .not t73) fun t74 =>
    P.oG [76, 77, 78] t74 false (fun (k : C3) => P.oV 77 (af T0 .gtr 3 true t66 (.i .i64 0)) fun t77 =>
     k t66 t77 t77 s14) s14 fun t76 t77 t78 s16 =>
    P.oG [79, 80, 81, 82, 83, 84, 85, 86, 87, 88] t78 true (fun (k : C10) => P.oV 79 (ar 4 t2x2) fun t79 =>
     P.oV 80 (ac T0 s14.h 33 t79) fun t80 =>
     P.oV 82 (af T0 .sub 3 true t66 (.i .i64 1)) fun t82 =>
     P.oV 83 (ai T0 33 t80 t82) fun t83 =>
     P.oV 84 (ar 0 t83) fun t84 =>
     P.oV 85 (ac T0 s14.h 9 t84) fun t85 =>
     P.oV 86 (ar 0 t8) fun t86 =>
     P.oV 87 (ac T0 s14.h 9 t86) fun t87 =>
     P.oV 88 (af T0 .geq 9 false t85 t87) fun t88 =>
     k t79 t80 t66 t82 t83 t84 t85 t86 t87 t88 s14) s14 fun t79 t80 t81 t82 t83 t84 t85 t86 t87 t88 s17 =>
    P.oG [89] t74 false (fun (k : C1) => P.oV 89 (au t78 (some t88) (some (.b false))) fun t89 =>
     k t89 s14) s14 fun t89 s18 =>
    P.oV 90 (au t74 (some (.b true)) (some t89)) fun t90 =>
    P.oG [92, 93, 94, 95, 96, 97] t90 false (fun (k : C6) => P.oV 92 (ar 1 t8) fun t92 =>
     P.oV 93 (ac T0 s14.h 35 t92) fun t93 =>
     P.oV 95 (af T0 .sub 3 true t1x1 (.i .i64 1)) fun t95 =>
     P.oC 96 83 [t93, t95] s14 fun t96 s19 =>
     P.oV 97 (cZ .not t96) fun t97 =>
     k t92 t93 t1x1 t95 t96 t97 s14) s14 fun t92 t93 t94 t95 t96 t97 s19 =>
    P.oV 98 (au t90 (some (.b true)) (some t97)) fun t98 =>
    P.oI t98 (Q (.b false) s14)
    (P.oV 99 (af T0 .add 3 true t66 (.i .i64 1)) fun t99 =>
     nextx1 t1x1 t2x2 t64x1 t65x1 t99 s14))
   (Q (.b true) s12)) t1 t2x1 t64 t65 (.i .i64 0) s11)) a1 t2 t51 t52 (.i .i64 0) s10)
theorem w83_eq (P : Prims) (a0 a1 : AV) (Q : AV -> AS -> Prop) : w83 P a0 a1 Q = VBd P Tryz.f83 an83 [a0, a1] Q := by kernel_rfl
theorem r83 (a0 a1 : AV) {r : AV} (hi : AV.idfree.idfrees [a0, a1] = true) (hn : AV.norm.norms [a0, a1] = [a0, a1]) (h : w83 (av T0) a0 a1 (fun r1 s1 => oZ T0 s1 r1 (fun r2 => r2 = r))) : R T0 83 [a0, a1] r :=
 RMk (w83_eq ..) hi hn h
def an84 : AN := (sqL (sqL (.seq none (sqL (.one (.loop [3, 1, 9, 10, 11] (sqL (.seq none (.two .leaf .leaf) (.seq none (.one (sqM)) .leaf)))))) (.seq none (sqL (.one (.loop [3, 21, 22, 23] (sqL (.seq none (.two .leaf .leaf) (.seq none (.one (sqM)) .leaf)))))) (sqM)))))
def w84 (P : Prims) (a0 : AV) (Q : AV -> AS -> Prop) : Prop :=
 P.oN 1 (.cells (AV.cells a0) 35 false) (fun id => (.ptr id 0)) ⟨Tr.nil, 0⟩ fun t1 s1 =>
 P.oV 8 (ar 3 t1) fun t8 =>
 P.oV 9 (ac T0 s1.h 32 t8) fun t9 =>
 P.oV 10 (aj T0 s1.h .len [32] [t9]) fun t10 =>
 P.oL [3, 1, 9, 10, 11] (fun (next : C5) t3 t1x1 t9x1 t10x1 t11 s2 =>
 P.oV 12 (af T0 .lss 3 false t11 t10x1) fun t12 =>
 P.oI t12 (P.oV 13 (ai T0 32 t9x1 t11) fun t13 =>
  P.oV 14 (ac T0 s2.h 35 t13) fun t14 =>
  P.oN 5 (.cells [(.i .i64 0), (.i .i64 0), (.s []), (.nilz true), (.nilz true)] 35 false) (fun id => (.ptr id 0)) s2 fun t5 s3 =>
  P.oH (az T0 s3.h 35 t5 t14) s3 fun s4 =>
  P.oV 16 (ac T0 s4.h 35 t5) fun t16 =>
  P.oC 17 84 [t16] s4 fun t17 s5 =>
  P.oV 18 (af T0 .add 3 false t3 t17) fun t18 =>
  P.oV 19 (af T0 .add 3 true t11 (.i .i64 1)) fun t19 =>
  next t18 t1x1 t9x1 t10x1 t19 s5)
 (P.oV 20 (ar 4 t1x1) fun t20 =>
  P.oV 21 (ac T0 s2.h 33 t20) fun t21 =>
  P.oV 22 (aj T0 s2.h .len [33] [t21]) fun t22 =>
  P.oL [3, 21, 22, 23] (fun (nextx1 : C4) t3x1 t21x1 t22x1 t23 s3 =>
  P.oV 24 (af T0 .lss 3 false t23 t22x1) fun t24 =>
  P.oI t24 (P.oV 25 (ai T0 33 t21x1 t23) fun t25 =>
   P.oV 26 (ac T0 s3.h 52 t25) fun t26 =>
   P.oN 7 (.cells [(.s []), (.i .i64 0), (.i .i64 0), (.s []), (.nilz true), (.nilz true)] 52 false) (fun id => (.ptr id 0)) s3 fun t7 s4 =>
   P.oH (az T0 s4.h 52 t7 t26) s4 fun s5 =>
   P.oV 28 (ar 1 t7) fun t28 =>
   P.oV 29 (ac T0 s5.h 35 t28) fun t29 =>
   P.oC 30 84 [t29] s5 fun t30 s6 =>
   P.oV 31 (af T0 .add 3 false t3x1 t30) fun t31 =>
   P.oV 32 (af T0 .add 3 true t23 (.i .i64 1)) fun t32 =>
   nextx1 t31 t21x1 t22x1 t32 s6)
  (Q t3x1 s3)) t3 t21 t22 (.i .i64 0) s2)) (.i .i64 1) t1 t9 t10 (.i .i64 0) s1
theorem w84_eq (P : Prims) (a0 : AV) (Q : AV -> AS -> Prop) : w84 P a0 Q = VBd P Tryz.f84 an84 [a0] Q := by kernel_rfl
theorem r84 (a0 : AV) {r : AV} (hi : AV.idfree.idfrees [a0] = true) (hn : AV.norm.norms [a0] = [a0]) (h : w84 (av T0) a0 (fun r1 s1 => oZ T0 s1 r1 (fun r2 => r2 = r))) : R T0 84 [a0] r :=
 RMk (w84_eq ..) hi hn h
def an91 : AN := (sqL (.seq none (sqL (.one (sqL (.two (sqM) (sqL (.two (sqM) (sqL (.two (sqM) (.seq (some [1, 45]) (sqL (.two .leaf (sqL (.two .leaf .leaf)))) (.two (sqM) .leaf)))))))))) (sqM)))
def w91 (P : Prims) (a0 : AV) (Q : AV -> AS -> Prop) : Prop :=
 P.oN 1 (.cells (AV.cells a0) 35 false) (fun id => (.ptr id 0)) ⟨Tr.nil, 0⟩ fun t1 s1 =>
 P.oV 3 (ar 0 t1) fun t3 =>
 P.oV 4 (ac T0 s1.h 3 t3) fun t4 =>
 P.oV 6 (af T0 .eql 3 true t4 (.i .i64 1)) fun t6 =>
 P.oI t6 (P.oV 7 (ar 1 t1) fun t7 =>
  P.oV 8 (ac T0 s1.h 3 t7) fun t8 =>
  P.oV 9 (af T0 .eql 3 true t8 (.i .i64 0)) fun t9 =>
  P.oG [11, 12, 13] t9 false (fun (k : C3) => P.oV 11 (ar 1 t1) fun t11 =>
   P.oV 12 (ac T0 s1.h 3 t11) fun t12 =>
   P.oV 13 (af T0 .eql 3 true t12 (.i .i64 1)) fun t13 =>
   k t11 t12 t13 s1) s1 fun t11 t12 t13 s2 =>
  P.oV 14 (au t9 (some (.b true)) (some t13)) fun t14 =>
  P.oG [16, 17, 18] t14 true (fun (k : C3) => P.oV 16 (ar 2 t1) fun t16 =>
   P.oV 17 (ac T0 s2.h 9 t16) fun t17 =>
   P.oV 18 (af T0 .eql 9 true t17 (.s [])) fun t18 =>
   k t16 t17 t18 s2) s2 fun t16 t17 t18 s3 =>
  P.oV 19 (au t14 (some t18) (some (.b false))) fun t19 =>
  Q t19 s3)
 (P.oV 21 (af T0 .eql 3 true t4 (.i .i64 2)) fun t21 =>
  P.oI t21 (P.oV 22 (ar 1 t1) fun t22 =>
   P.oV 23 (ac T0 s1.h 3 t22) fun t23 =>
   P.oV 24 (af T0 .geq 3 true t23 (.i .i64 (-1000000000000000))) fun t24 =>
   P.oG [26, 27, 28] t24 true (fun (k : C3) => P.oV 26 (ar 1 t1) fun t26 =>
    P.oV 27 (ac T0 s1.h 3 t26) fun t27 =>
    P.oV 28 (af T0 .leq 3 true t27 (.i .i64 1000000000000000)) fun t28 =>
    k t26 t27 t28 s1) s1 fun t26 t27 t28 s2 =>
   P.oV 29 (au t24 (some t28) (some (.b false))) fun t29 =>
   P.oG [31, 32, 33] t29 true (fun (k : C3) => P.oV 31 (ar 2 t1) fun t31 =>
    P.oV 32 (ac T0 s2.h 9 t31) fun t32 =>
    P.oV 33 (af T0 .eql 9 true t32 (.s [])) fun t33 =>
    k t31 t32 t33 s2) s2 fun t31 t32 t33 s3 =>
   P.oV 34 (au t29 (some t33) (some (.b false))) fun t34 =>
   Q t34 s3)
  (P.oV 36 (af T0 .eql 3 true t4 (.i .i64 3)) fun t36 =>
   P.oI t36 (P.oV 37 (ar 1 t1) fun t37 =>
    P.oV 38 (ac T0 s1.h 3 t37) fun t38 =>
    P.oV 39 (af T0 .eql 3 true t38 (.i .i64 0)) fun t39 =>
    P.oG [41, 42, 43] t39 true (fun (k : C3) => P.oV 41 (ar 2 t1) fun t41 =>
     P.oV 42 (ac T0 s1.h 9 t41) fun t42 =>
     P.oC 43 111 [t42] s1 fun t43 s2 =>
     k t41 t42 t43 s2) s1 fun t41 t42 t43 s2 =>
    P.oV 44 (au t39 (some t43) (some (.b false))) fun t44 =>
    Q t44 s2)
   (P.oJ [1, 45] (fun (k : C2) =>
    P.oV 46 (af T0 .eql 3 true t4 (.i .i64 0)) fun t46 =>
    P.oI t46 (k t1 t46 s1)
    (P.oV 47 (af T0 .eql 3 true t4 (.i .i64 4)) fun t47 =>
     P.oI t47 (k t1 t47 s1)
     (P.oV 48 (af T0 .eql 3 true t4 (.i .i64 5)) fun t48 =>
      k t1 t48 s1)))
    (fun t1x1 t45 s2 =>
    P.oI t45 (P.oV 49 (ar 1 t1x1) fun t49 =>
     P.oV 50 (ac T0 s2.h 3 t49) fun t50 =>
     P.oV 51 (af T0 .eql 3 true t50 (.i .i64 0)) fun t51 =>
     P.oG [53, 54, 55] t51 true (fun (k : C3) => P.oV 53 (ar 2 t1x1) fun t53 =>
      P.oV 54 (ac T0 s2.h 9 t53) fun t54 =>
      P.oV 55 (af T0 .eql 9 true t54 (.s [])) fun t55 =>
      k t53 t54 t55 s2) s2 fun t53 t54 t55 s3 =>
     P.oV 56 (au t51 (some t55) (some (.b false))) fun t56 =>
     Q t56 s3)
    (Q (.b false) s2)))))
theorem w91_eq (P : Prims) (a0 : AV) (Q : AV -> AS -> Prop) : w91 P a0 Q = VBd P Tryz.f91 an91 [a0] Q := by kernel_rfl
theorem r91 (a0 : AV) {r : AV} (hi : AV.idfree.idfrees [a0] = true) (hn : AV.norm.norms [a0] = [a0]) (h : w91 (av T0) a0 (fun r1 s1 => oZ T0 s1 r1 (fun r2 => r2 = r))) : R T0 91 [a0] r :=
 RMk (w91_eq ..) hi hn h
def an92 : AN := (sqL (.seq none (sqL (.one (.loop [0, 3] (.seq none (sqL (.two .leaf .leaf)) (.seq none (.one (sqL (sqL (sqL (.two (sqM) .leaf))))) .leaf))))) (sqM)))
def w92 (P : Prims) (a0 : AV) (Q : AV -> AS -> Prop) : Prop :=
 P.oL [0, 3] (fun (next : C2) t0 t3 s1 =>
 P.oV 8 (aj T0 s1.h .len [9] [t0]) fun t8 =>
 P.oV 9 (af T0 .lss 3 false t3 t8) fun t9 =>
 P.oI t9 (P.oV 14 (cc T0 9 t0 t3) fun t14 =>
  P.oV 16 (af T0 .geq 5 true t14 (.i .u8 97)) fun t16 =>
  P.oG [18, 19] t16 true (fun (k : C2) => P.oV 19 (af T0 .leq 5 true t14 (.i .u8 122)) fun t19 =>
   k t14 t19 s1) s1 fun t18 t19 s2 =>
  P.oV 20 (au t16 (some t19) (some (.b false))) fun t20 =>
  P.oG [22, 23, 24] t20 false (fun (k : C3) => P.oV 23 (af T0 .geq 5 true t14 (.i .u8 65)) fun t23 =>
   k t14 t23 t23 s2) s2 fun t22 t23 t24 s3 =>
  P.oG [25, 26] t24 true (fun (k : C2) => P.oV 26 (af T0 .leq 5 true t14 (.i .u8 90)) fun t26 =>
   k t14 t26 s3) s3 fun t25 t26 s4 =>
  P.oG [27] t20 false (fun (k : C1) => P.oV 27 (au t24 (some t26) (some (.b false))) fun t27 =>
   k t27 s4) s4 fun t27 s5 =>
  P.oV 28 (au t20 (some (.b true)) (some t27)) fun t28 =>
  P.oV 30 (cZ .not t28) fun t30 =>
  P.oG [32, 33, 34] t30 true (fun (k : C3) => P.oV 33 (af T0 .geq 5 true t14 (.i .u8 48)) fun t33 =>
   k t14 t33 t33 s5) s5 fun t32 t33 t34 s6 =>
  P.oG [35, 36] t34 true (fun (k : C2) => P.oV 36 (af T0 .leq 5 true t14 (.i .u8 57)) fun t36 =>
   k t14 t36 s6) s6 fun t35 t36 s7 =>
  P.oG [37, 38] t30 true (fun (k : C2) => P.oV 37 (au t34 (some t36) (some (.b false))) fun t37 =>
   P.oV 38 (cZ .not t37) fun t38 =>
   k t37 t38 s7) s7 fun t37 t38 s8 =>
  P.oV 39 (au t30 (some t38) (some (.b false))) fun t39 =>
  P.oG [41, 42] t39 true (fun (k : C2) => P.oV 42 (af T0 .neq 5 true t14 (.i .u8 45)) fun t42 =>
   k t14 t42 s8) s8 fun t41 t42 s9 =>
  P.oV 43 (au t39 (some t42) (some (.b false))) fun t43 =>
  P.oG [45, 46] t43 true (fun (k : C2) => P.oV 46 (af T0 .neq 5 true t14 (.i .u8 95)) fun t46 =>
   k t14 t46 s9) s9 fun t45 t46 s10 =>
  P.oV 47 (au t43 (some t46) (some (.b false))) fun t47 =>
  P.oG [49, 50] t47 true (fun (k : C2) => P.oV 50 (af T0 .neq 5 true t14 (.i .u8 47)) fun t50 =>
   k t14 t50 s10) s10 fun t49 t50 s11 =>
  P.oV 51 (au t47 (some t50) (some (.b false))) fun t51 =>
  P.oI t51 (Q (.b false) s11)
  (P.oV 11 (af T0 .add 3 true t3 (.i .i64 1)) fun t11 =>
   next t0 t11 s11))
 (P.oV 53 (aj T0 s1.h .len [9] [t0]) fun t53 =>
  P.oV 54 (af T0 .geq 3 true t53 (.i .i64 1)) fun t54 =>
  P.oG [56, 57, 58] t54 true (fun (k : C3) => P.oV 57 (aj T0 s1.h .len [9] [t0]) fun t57 =>
   P.oV 58 (af T0 .leq 3 true t57 (.i .i64 40)) fun t58 =>
   k t0 t57 t58 s1) s1 fun t56 t57 t58 s2 =>
  P.oV 59 (au t54 (some t58) (some (.b false))) fun t59 =>
  Q t59 s2)) a0 (.i .i64 0) ⟨Tr.nil, 0⟩
theorem w92_eq (P : Prims) (a0 : AV) (Q : AV -> AS -> Prop) : w92 P a0 Q = VBd P Tryz.f92 an92 [a0] Q := by kernel_rfl
theorem r92 (a0 : AV) {r : AV} (hi : AV.idfree.idfrees [a0] = true) (hn : AV.norm.norms [a0] = [a0]) (h : w92 (av T0) a0 (fun r1 s1 => oZ T0 s1 r1 (fun r2 => r2 = r))) : R T0 92 [a0] r :=
 RMk (w92_eq ..) hi hn h
def an93 : AN := (sqL (sqM))
def w93 (P : Prims) (a0 : AV) (Q : AV -> AS -> Prop) : Prop :=
 P.oV 4 (af T0 .geq 5 true a0 (.i .u8 97)) fun t4 =>
 P.oG [6, 7] t4 true (fun (k : C2) => P.oV 7 (af T0 .leq 5 true a0 (.i .u8 122)) fun t7 =>
  k a0 t7 ⟨Tr.nil, 0⟩) ⟨Tr.nil, 0⟩ fun t6 t7 s1 =>
 P.oV 8 (au t4 (some t7) (some (.b false))) fun t8 =>
 P.oG [10, 11, 12] t8 false (fun (k : C3) => P.oV 11 (af T0 .geq 5 true a0 (.i .u8 65)) fun t11 =>
  k a0 t11 t11 s1) s1 fun t10 t11 t12 s2 =>
 P.oG [13, 14] t12 true (fun (k : C2) => P.oV 14 (af T0 .leq 5 true a0 (.i .u8 90)) fun t14 =>
  k a0 t14 s2) s2 fun t13 t14 s3 =>
 P.oG [15] t8 false (fun (k : C1) => P.oV 15 (au t12 (some t14) (some (.b false))) fun t15 =>
  k t15 s3) s3 fun t15 s4 =>
 P.oV 16 (au t8 (some (.b true)) (some t15)) fun t16 =>
 P.oG [18, 19, 20] t16 false (fun (k : C3) => P.oV 19 (af T0 .geq 5 true a0 (.i .u8 48)) fun t19 =>
  k a0 t19 t19 s4) s4 fun t18 t19 t20 s5 =>
 P.oG [21, 22] t20 true (fun (k : C2) => P.oV 22 (af T0 .leq 5 true a0 (.i .u8 57)) fun t22 =>
  k a0 t22 s5) s5 fun t21 t22 s6 =>
 P.oG [23] t16 false (fun (k : C1) => P.oV 23 (au t20 (some t22) (some (.b false))) fun t23 =>
  k t23 s6) s6 fun t23 s7 =>
 P.oV 24 (au t16 (some (.b true)) (some t23)) fun t24 =>
 P.oG [26, 27] t24 false (fun (k : C2) => P.oV 27 (af T0 .eql 5 true a0 (.i .u8 45)) fun t27 =>
  k a0 t27 s7) s7 fun t26 t27 s8 =>
 P.oV 28 (au t24 (some (.b true)) (some t27)) fun t28 =>
 P.oG [30, 31] t28 false (fun (k : C2) => P.oV 31 (af T0 .eql 5 true a0 (.i .u8 95)) fun t31 =>
  k a0 t31 s8) s8 fun t30 t31 s9 =>
 P.oV 32 (au t28 (some (.b true)) (some t31)) fun t32 =>
 P.oG [34, 35] t32 false (fun (k : C2) => P.oV 35 (af T0 .eql 5 true a0 (.i .u8 47)) fun t35 =>
  k a0 t35 s9) s9 fun t34 t35 s10 =>
 P.oV 36 (au t32 (some (.b true)) (some t35)) fun t36 =>
 Q t36 s10
theorem w93_eq (P : Prims) (a0 : AV) (Q : AV -> AS -> Prop) : w93 P a0 Q = VBd P Tryz.f93 an93 [a0] Q := by kernel_rfl
theorem r93 (a0 : AV) {r : AV} (hi : AV.idfree.idfrees [a0] = true) (hn : AV.norm.norms [a0] = [a0]) (h : w93 (av T0) a0 (fun r1 s1 => oZ T0 s1 r1 (fun r2 => r2 = r))) : R T0 93 [a0] r :=
 RMk (w93_eq ..) hi hn h
def an102 : AN := (sqL (.seq none (sqL (.one (sqL (.two (sqM) (sqL (.two (sqM) (sqL (.two (sqM) (.seq (some [1, 45]) (sqL (.two .leaf (sqL (.two .leaf .leaf)))) (.two (sqM) .leaf)))))))))) (sqM)))
def w102 (P : Prims) (a0 : AV) (Q : AV -> AS -> Prop) : Prop :=
 P.oN 1 (.cells (AV.cells a0) 35 false) (fun id => (.ptr id 0)) ⟨Tr.nil, 0⟩ fun t1 s1 =>
 P.oV 3 (ar 0 t1) fun t3 =>
 P.oV 4 (ac T0 s1.h 3 t3) fun t4 =>
 P.oV 6 (af T0 .eql 3 true t4 (.i .i64 1)) fun t6 =>
 P.oI t6 (P.oV 7 (ar 2 t1) fun t7 =>
  P.oV 8 (ac T0 s1.h 9 t7) fun t8 =>
  P.oV 9 (af T0 .eql 9 true t8 (.s [])) fun t9 =>
  P.oG [11, 12, 13, 14] t9 true (fun (k : C4) => P.oV 11 (ar 1 t1) fun t11 =>
   P.oV 12 (ac T0 s1.h 3 t11) fun t12 =>
   P.oV 13 (af T0 .eql 3 true t12 (.i .i64 0)) fun t13 =>
   k t11 t12 t13 t13 s1) s1 fun t11 t12 t13 t14 s2 =>
  P.oG [15, 16, 17] t14 false (fun (k : C3) => P.oV 15 (ar 1 t1) fun t15 =>
   P.oV 16 (ac T0 s2.h 3 t15) fun t16 =>
   P.oV 17 (af T0 .eql 3 true t16 (.i .i64 1)) fun t17 =>
   k t15 t16 t17 s2) s2 fun t15 t16 t17 s3 =>
  P.oG [18] t9 true (fun (k : C1) => P.oV 18 (au t14 (some (.b true)) (some t17)) fun t18 =>
   k t18 s3) s3 fun t18 s4 =>
  P.oV 19 (au t9 (some t18) (some (.b false))) fun t19 =>
  Q t19 s4)
 (P.oV 21 (af T0 .eql 3 true t4 (.i .i64 2)) fun t21 =>
  P.oI t21 (P.oV 22 (ar 2 t1) fun t22 =>
   P.oV 23 (ac T0 s1.h 9 t22) fun t23 =>
   P.oV 24 (af T0 .eql 9 true t23 (.s [])) fun t24 =>
   P.oG [26, 27, 28] t24 true (fun (k : C3) => P.oV 26 (ar 1 t1) fun t26 =>
    P.oV 27 (ac T0 s1.h 3 t26) fun t27 =>
    P.oV 28 (af T0 .geq 3 true t27 (.i .i64 (-1000000000000000))) fun t28 =>
    k t26 t27 t28 s1) s1 fun t26 t27 t28 s2 =>
   P.oV 29 (au t24 (some t28) (some (.b false))) fun t29 =>
   P.oG [31, 32, 33] t29 true (fun (k : C3) => P.oV 31 (ar 1 t1) fun t31 =>
    P.oV 32 (ac T0 s2.h 3 t31) fun t32 =>
    P.oV 33 (af T0 .leq 3 true t32 (.i .i64 1000000000000000)) fun t33 =>
    k t31 t32 t33 s2) s2 fun t31 t32 t33 s3 =>
   P.oV 34 (au t29 (some t33) (some (.b false))) fun t34 =>
   Q t34 s3)
  (P.oV 36 (af T0 .eql 3 true t4 (.i .i64 3)) fun t36 =>
   P.oI t36 (P.oV 37 (ar 1 t1) fun t37 =>
    P.oV 38 (ac T0 s1.h 3 t37) fun t38 =>
    P.oV 39 (af T0 .eql 3 true t38 (.i .i64 0)) fun t39 =>
    P.oG [41, 42, 43] t39 true (fun (k : C3) => P.oV 41 (ar 2 t1) fun t41 =>
     P.oV 42 (ac T0 s1.h 9 t41) fun t42 =>
     P.oC 43 119 [t42] s1 fun t43 s2 =>
     k t41 t42 t43 s2) s1 fun t41 t42 t43 s2 =>
    P.oV 44 (au t39 (some t43) (some (.b false))) fun t44 =>
    Q t44 s2)
   (P.oJ [1, 45] (fun (k : C2) =>
    P.oV 46 (af T0 .eql 3 true t4 (.i .i64 0)) fun t46 =>
    P.oI t46 (k t1 t46 s1)
    (P.oV 47 (af T0 .eql 3 true t4 (.i .i64 4)) fun t47 =>
     P.oI t47 (k t1 t47 s1)
     (P.oV 48 (af T0 .eql 3 true t4 (.i .i64 5)) fun t48 =>
      k t1 t48 s1)))
    (fun t1x1 t45 s2 =>
    P.oI t45 (P.oV 49 (ar 1 t1x1) fun t49 =>
     P.oV 50 (ac T0 s2.h 3 t49) fun t50 =>
     P.oV 51 (af T0 .eql 3 true t50 (.i .i64 0)) fun t51 =>
     P.oG [53, 54, 55] t51 true (fun (k : C3) => P.oV 53 (ar 2 t1x1) fun t53 =>
      P.oV 54 (ac T0 s2.h 9 t53) fun t54 =>
      P.oV 55 (af T0 .eql 9 true t54 (.s [])) fun t55 =>
      k t53 t54 t55 s2) s2 fun t53 t54 t55 s3 =>
     P.oV 56 (au t51 (some t55) (some (.b false))) fun t56 =>
     Q t56 s3)
    (Q (.b false) s2)))))
theorem w102_eq (P : Prims) (a0 : AV) (Q : AV -> AS -> Prop) : w102 P a0 Q = VBd P Tryz.f102 an102 [a0] Q := by kernel_rfl
theorem r102 (a0 : AV) {r : AV} (hi : AV.idfree.idfrees [a0] = true) (hn : AV.norm.norms [a0] = [a0]) (h : w102 (av T0) a0 (fun r1 s1 => oZ T0 s1 r1 (fun r2 => r2 = r))) : R T0 102 [a0] r :=
 RMk (w102_eq ..) hi hn h
def an103 : AN := (sqL (.seq none (sqL (.one (.loop [0, 6, 7] (sqL (.seq none (.two .leaf .leaf) (.seq none (.one (sqL (sqL (sqL (.two (sqM) .leaf))))) .leaf)))))) (sqM)))
def w103 (P : Prims) (a0 : AV) (Q : AV -> AS -> Prop) : Prop :=
 P.oV 6 (aj T0 Tr.nil .len [9] [a0]) fun t6 =>
 P.oL [0, 6, 7] (fun (next : C3) t0 t6x1 t7 s1 =>
 P.oV 8 (af T0 .lss 3 false t7 t6x1) fun t8 =>
 P.oI t8 (P.oV 12 (cc T0 9 t0 t7) fun t12 =>
  P.oV 14 (af T0 .geq 5 true t12 (.i .u8 97)) fun t14 =>
  P.oG [16, 17] t14 true (fun (k : C2) => P.oV 17 (af T0 .leq 5 true t12 (.i .u8 122)) fun t17 =>
   k t12 t17 s1) s1 fun t16 t17 s2 =>
  P.oV 18 (au t14 (some t17) (some (.b false))) fun t18 =>
  P.oG [20, 21, 22] t18 false (fun (k : C3) => P.oV 21 (af T0 .geq 5 true t12 (.i .u8 65)) fun t21 =>
   k t12 t21 t21 s2) s2 fun t20 t21 t22 s3 =>
  P.oG [23, 24] t22 true (fun (k : C2) => P.oV 24 (af T0 .leq 5 true t12 (.i .u8 90)) fun t24 =>
   k t12 t24 s3) s3 fun t23 t24 s4 =>
  P.oG [25] t18 false (fun (k : C1) => P.oV 25 (au t22 (some t24) (some (.b false))) fun t25 =>
   k t25 s4) s4 fun t25 s5 =>
  P.oV 26 (au t18 (some (.b true)) (some t25)) fun t26 =>
  P.oG [28, 29, 30] t26 false (fun (k : C3) => P.oV 29 (af T0 .geq 5 true t12 (.i .u8 48)) fun t29 =>
   k t12 t29 t29 s5) s5 fun t28 t29 t30 s6 =>
  P.oG [31, 32] t30 true (fun (k : C2) => P.oV 32 (af T0 .leq 5 true t12 (.i .u8 57)) fun t32 =>
   k t12 t32 s6) s6 fun t31 t32 s7 =>
  P.oG [33] t26 false (fun (k : C1) => P.oV 33 (au t30 (some t32) (some (.b false))) fun t33 =>
   k t33 s7) s7 fun t33 s8 =>
  P.oV 34 (au t26 (some (.b true)) (some t33)) fun t34 =>
  P.oG [36, 37] t34 false (fun (k : C2) => P.oV 37 (af T0 .eql 5 true t12 (.i .u8 45)) fun t37 =>
   k t12 t37 s8) s8 fun t36 t37 s9 =>
  P.oV 38 (au t34 (some (.b true)) (some t37)) fun t38 =>
  P.oG [40, 41] t38 false (fun (k : C2) => P.oV 41 (af T0 .eql 5 true t12 (.i .u8 95)) fun t41 =>
   k t12 t41 s9) s9 fun t40 t41 s10 =>
  P.oV 42 (au t38 (some (.b true)) (some t41)) fun t42 =>
  P.oG [44, 45] t42 false (fun (k : C2) => P.oV 45 (af T0 .eql 5 true t12 (.i .u8 47)) fun t45 =>
   k t12 t45 s10) s10 fun t44 t45 s11 =>
  P.oV 46 (au t42 (some (.b true)) (some t45)) fun t46 =>
  P.oV 47 (cZ .not t46) fun t47 =>
  P.oI t47 (Q (.b false) s11)
  (P.oV 48 (af T0 .add 3 true t7 (.i .i64 1)) fun t48 =>
   next t0 t6x1 t48 s11))
 (P.oV 50 (aj T0 s1.h .len [9] [t0]) fun t50 =>
  P.oV 51 (af T0 .geq 3 true t50 (.i .i64 1)) fun t51 =>
  P.oG [53, 54, 55] t51 true (fun (k : C3) => P.oV 54 (aj T0 s1.h .len [9] [t0]) fun t54 =>
   P.oV 55 (af T0 .leq 3 true t54 (.i .i64 40)) fun t55 =>
   k t0 t54 t55 s1) s1 fun t53 t54 t55 s2 =>
  P.oV 56 (au t51 (some t55) (some (.b false))) fun t56 =>
  Q t56 s2)) a0 t6 (.i .i64 0) ⟨Tr.nil, 0⟩
theorem w103_eq (P : Prims) (a0 : AV) (Q : AV -> AS -> Prop) : w103 P a0 Q = VBd P Tryz.f103 an103 [a0] Q := by kernel_rfl
theorem r103 (a0 : AV) {r : AV} (hi : AV.idfree.idfrees [a0] = true) (hn : AV.norm.norms [a0] = [a0]) (h : w103 (av T0) a0 (fun r1 s1 => oZ T0 s1 r1 (fun r2 => r2 = r))) : R T0 103 [a0] r :=
 RMk (w103_eq ..) hi hn h
def an111 : AN := (sqL (.seq none (sqL (.one (.loop [0, 3] (.seq none (sqL (.two .leaf .leaf)) (.seq none (.one (sqL (.two (sqM) .leaf))) .leaf))))) (sqM)))
def w111 (P : Prims) (a0 : AV) (Q : AV -> AS -> Prop) : Prop :=
 P.oL [0, 3] (fun (next : C2) t0 t3 s1 =>
 P.oV 6 (aj T0 s1.h .len [9] [t0]) fun t6 =>
 P.oV 7 (af T0 .lss 3 false t3 t6) fun t7 =>
 P.oI t7 (P.oV 12 (cc T0 9 t0 t3) fun t12 =>
  P.oV 13 (af T0 .neq 5 true t12 (.i .u8 10)) fun t13 =>
  P.oG [15, 16, 17, 18, 19] t13 true (fun (k : C5) => P.oV 17 (cc T0 9 t0 t3) fun t17 =>
   P.oV 18 (af T0 .lss 5 true t17 (.i .u8 32)) fun t18 =>
   k t0 t3 t17 t18 t18 s1) s1 fun t15 t16 t17 t18 t19 s2 =>
  P.oG [20, 21, 22, 23] t19 false (fun (k : C4) => P.oV 22 (cc T0 9 t0 t3) fun t22 =>
   P.oV 23 (af T0 .gtr 5 true t22 (.i .u8 126)) fun t23 =>
   k t0 t3 t22 t23 s2) s2 fun t20 t21 t22 t23 s3 =>
  P.oG [24] t13 true (fun (k : C1) => P.oV 24 (au t19 (some (.b true)) (some t23)) fun t24 =>
   k t24 s3) s3 fun t24 s4 =>
  P.oV 25 (au t13 (some t24) (some (.b false))) fun t25 =>
  P.oI t25 (Q (.b false) s4)
  (P.oV 9 (af T0 .add 3 true t3 (.i .i64 1)) fun t9 =>
   next t0 t9 s4))
 (P.oV 27 (aj T0 s1.h .len [9] [t0]) fun t27 =>
  P.oV 28 (af T0 .leq 3 true t27 (.i .i64 200)) fun t28 =>
  Q t28 s1)) a0 (.i .i64 0) ⟨Tr.nil, 0⟩
theorem w111_eq (P : Prims) (a0 : AV) (Q : AV -> AS -> Prop) : w111 P a0 Q = VBd P Tryz.f111 an111 [a0] Q := by kernel_rfl
theorem r111 (a0 : AV) {r : AV} (hi : AV.idfree.idfrees [a0] = true) (hn : AV.norm.norms [a0] = [a0]) (h : w111 (av T0) a0 (fun r1 s1 => oZ T0 s1 r1 (fun r2 => r2 = r))) : R T0 111 [a0] r :=
 RMk (w111_eq ..) hi hn h
def an119 : AN := (sqL (.seq none (sqL (.one (.loop [0, 5, 6] (sqL (.seq none (.two .leaf .leaf) (.seq none (.one (sqL (sqL (.two (sqM) .leaf)))) .leaf)))))) (sqM)))
def w119 (P : Prims) (a0 : AV) (Q : AV -> AS -> Prop) : Prop :=
 P.oV 5 (aj T0 Tr.nil .len [9] [a0]) fun t5 =>
 P.oL [0, 5, 6] (fun (next : C3) t0 t5x1 t6 s1 =>
 P.oV 7 (af T0 .lss 3 false t6 t5x1) fun t7 =>
 P.oI t7 (P.oV 11 (cc T0 9 t0 t6) fun t11 =>
  P.oV 12 (af T0 .neq 5 true t11 (.i .u8 10)) fun t12 =>
  P.oG [14, 15, 16, 17, 18] t12 true (fun (k : C5) => P.oV 16 (cc T0 9 t0 t6) fun t16 =>
   P.oV 17 (af T0 .lss 5 true t16 (.i .u8 32)) fun t17 =>
   k t0 t6 t16 t17 t17 s1) s1 fun t14 t15 t16 t17 t18 s2 =>
  P.oG [19, 20, 21, 22] t18 false (fun (k : C4) => P.oV 21 (cc T0 9 t0 t6) fun t21 =>
   P.oV 22 (af T0 .gtr 5 true t21 (.i .u8 126)) fun t22 =>
   k t0 t6 t21 t22 s2) s2 fun t19 t20 t21 t22 s3 =>
  P.oG [23] t12 true (fun (k : C1) => P.oV 23 (au t18 (some (.b true)) (some t22)) fun t23 =>
   k t23 s3) s3 fun t23 s4 =>
  P.oV 24 (au t12 (some t23) (some (.b false))) fun t24 =>
  P.oI t24 (Q (.b false) s4)
  (P.oV 25 (af T0 .add 3 true t6 (.i .i64 1)) fun t25 =>
   next t0 t5x1 t25 s4))
 (P.oV 27 (aj T0 s1.h .len [9] [t0]) fun t27 =>
  P.oV 28 (af T0 .leq 3 true t27 (.i .i64 200)) fun t28 =>
  Q t28 s1)) a0 t5 (.i .i64 0) ⟨Tr.nil, 0⟩
theorem w119_eq (P : Prims) (a0 : AV) (Q : AV -> AS -> Prop) : w119 P a0 Q = VBd P Tryz.f119 an119 [a0] Q := by kernel_rfl
theorem r119 (a0 : AV) {r : AV} (hi : AV.idfree.idfrees [a0] = true) (hn : AV.norm.norms [a0] = [a0]) (h : w119 (av T0) a0 (fun r1 s1 => oZ T0 s1 r1 (fun r2 => r2 = r))) : R T0 119 [a0] r :=
 RMk (w119_eq ..) hi hn h
end Go.Proofs.YtmfhmlhaofpeiaaGreatDoor.Ev
