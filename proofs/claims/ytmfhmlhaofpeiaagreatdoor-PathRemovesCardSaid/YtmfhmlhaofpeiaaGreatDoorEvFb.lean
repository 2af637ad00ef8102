/- The functions' code, laid out. Printed by WP.lean.txt, a program of this session's. -/
import Derived.Test.YtmfhmlhaofpeiaaGreatDoorEvF
namespace Go.Proofs.YtmfhmlhaofpeiaaGreatDoor.Ev
open Go Go.RowKit
set_option linter.unusedVariables false
set_option maxRecDepth 100000
def an4 : AN := (sqL (.seq none (sqL (.two (sqM) .leaf)) (sqL (sqL (sqM)))))
def w4 (P : Prims) (a0 : AV) (Q : AV -> AS -> Prop) : Prop :=
 P.oV 8 (aj T0 Tr.nil .len [9] [a0]) fun t8 =>
 P.oV 9 (af T0 .gtr 3 true t8 (.i .i64 3000)) fun t9 =>
 P.oG [11, 12, 13] t9 true (fun (k : C3) => P.oV 12 (aj T0 Tr.nil .len [9] [a0]) fun t12 =>
  P.oV 13 (af T0 .leq 3 true t12 (.i .i64 20000)) fun t13 =>
  k a0 t12 t13 ⟨Tr.nil, 0⟩) ⟨Tr.nil, 0⟩ fun t11 t12 t13 s1 =>
 P.oV 14 (au t9 (some t13) (some (.b false))) fun t14 =>
 P.oG [16, 17, 18] t14 false (fun (k : C3) => P.oV 17 (aj T0 s1.h .len [9] [a0]) fun t17 =>
  P.oV 18 (af T0 .gtr 3 true t17 (.i .i64 20100)) fun t18 =>
  k a0 t17 t18 s1) s1 fun t16 t17 t18 s2 =>
 P.oV 19 (au t14 (some (.b true)) (some t18)) fun t19 =>
 P.oI t19 (P.oC 20 12 [] s2 fun t20 s3 =>
  Q t20 s3)
 (P.oC 23 17 [a0] s2 fun t23 s3 =>
  P.oV 24 (aI 0 t23) fun t24 =>
  P.oV 25 (aI 1 t23) fun t25 =>
  P.oC 28 18 [a0] s3 fun t28 s4 =>
  P.oV 29 (aI 0 t28) fun t29 =>
  P.oV 30 (aI 1 t28) fun t30 =>
  P.oV 33 (af T0 .eql 26 false t25 t30) fun t33 =>
  P.oG [35, 36, 37] t33 true (fun (k : C3) => P.oC 37 19 [t24, t29] s4 fun t37 s5 =>
   k t24 t29 t37 s5) s4 fun t35 t36 t37 s5 =>
  P.oV 38 (au t33 (some t37) (some (.b false))) fun t38 =>
  P.oG [40] t38 true (fun (k : C1) => P.oC 40 12 [] s5 fun t40 s6 =>
   k t40 s6) s5 fun t40 s6 =>
  P.oV 41 (au t38 (some t40) (some (.b false))) fun t41 =>
  Q t41 s6)
theorem w4_eq (P : Prims) (a0 : AV) (Q : AV -> AS -> Prop) : w4 P a0 Q = VBd P Tryz.f4 an4 [a0] Q := by kernel_rfl
theorem r4 (a0 : AV) {r : AV} (hi : AV.idfree.idfrees [a0] = true) (hn : AV.norm.norms [a0] = [a0]) (h : w4 (av T0) a0 (fun r1 s1 => oZ T0 s1 r1 (fun r2 => r2 = r))) : R T0 4 [a0] r :=
 RMk (w4_eq ..) hi hn h
def an21 : AN := (sqL (.seq none (sqL (.two (sqM) .leaf)) (sqL (.seq none (sqL (.one (.loop [4, 0, 5] (.seq none (sqL (.two .leaf .leaf)) (.seq (some [4, 0, 5]) (.one (sqL (.two .leaf (sqL (.two .leaf (sqL (.two .leaf .leaf))))))) .leaf))))) (sqM)))))
def w21 (P : Prims) (a0 : AV) (Q : AV -> AS -> Prop) : Prop :=
 P.oC 7 14 [a0] ⟨Tr.nil, 0⟩ fun t7 s1 =>
 P.oV 8 (cZ .not t7) fun t8 =>
 P.oI t8 (Q (.tup [(.s []), (.i .i64 1)]) s1)
 (P.oL [4, 0, 5] (fun (next : C3) t4 t0 t5 s2 =>
  P.oV 11 (aj T0 s2.h .len [22] [t0]) fun t11 =>
  P.oV 12 (af T0 .lss 3 false t5 t11) fun t12 =>
  P.oI t12 (P.oJ [4, 0, 5] (fun (k : C3) =>
   P.oV 17 (ai T0 22 t0 t5) fun t17 =>
   P.oV 18 (ar 0 t17) fun t18 =>
   P.oV 19 (ac T0 s2.h 3 t18) fun t19 =>
   P.oV 20 (af T0 .eql 3 true t19 (.i .i64 2)) fun t20 =>
   P.oI t20 (P.oV 22 (af T0 .add 9 true t4 (.s [91])) fun t22 =>
    P.oV 25 (ai T0 22 t0 t5) fun t25 =>
    P.oV 26 (ar 2 t25) fun t26 =>
    P.oV 27 (ac T0 s2.h 3 t26) fun t27 =>
    P.oC 28 46 [t27] s2 fun t28 s3 =>
    P.oV 29 (af T0 .add 9 false t22 t28) fun t29 =>
    P.oV 30 (af T0 .add 9 true t29 (.s [93])) fun t30 =>
    k t30 t0 t5 s3)
   (P.oV 33 (ai T0 22 t0 t5) fun t33 =>
    P.oV 34 (ar 0 t33) fun t34 =>
    P.oV 35 (ac T0 s2.h 3 t34) fun t35 =>
    P.oV 36 (af T0 .eql 3 true t35 (.i .i64 3)) fun t36 =>
    P.oI t36 (P.oV 38 (af T0 .add 9 true t4 (.s [91])) fun t38 =>
     P.oV 41 (ai T0 22 t0 t5) fun t41 =>
     P.oV 42 (ar 1 t41) fun t42 =>
     P.oV 43 (ac T0 s2.h 9 t42) fun t43 =>
     P.oV 44 (af T0 .add 9 false t38 t43) fun t44 =>
     P.oV 45 (af T0 .add 9 true t44 (.s [61])) fun t45 =>
     P.oV 48 (ai T0 22 t0 t5) fun t48 =>
     P.oV 49 (ar 3 t48) fun t49 =>
     P.oV 50 (ac T0 s2.h 9 t49) fun t50 =>
     P.oC 51 47 [t50] s2 fun t51 s3 =>
     P.oV 52 (af T0 .add 9 false t45 t51) fun t52 =>
     P.oV 53 (af T0 .add 9 true t52 (.s [93])) fun t53 =>
     k t53 t0 t5 s2)
    (P.oV 55 (af T0 .gtr 3 true t5 (.i .i64 0)) fun t55 =>
     P.oI t55 (P.oV 57 (af T0 .add 9 true t4 (.s [46])) fun t57 =>
      P.oV 60 (ai T0 22 t0 t5) fun t60 =>
      P.oV 61 (ar 1 t60) fun t61 =>
      P.oV 62 (ac T0 s2.h 9 t61) fun t62 =>
      P.oV 63 (af T0 .add 9 false t57 t62) fun t63 =>
      k t63 t0 t5 s2)
     (P.oV 66 (ai T0 22 t0 t5) fun t66 =>
      P.oV 67 (ar 1 t66) fun t67 =>
      P.oV 68 (ac T0 s2.h 9 t67) fun t68 =>
      k t68 t0 t5 s2))))
   (fun t4x1 t0x1 t5x1 s3 =>
   P.oV 14 (af T0 .add 3 true t5x1 (.i .i64 1)) fun t14 =>
   next t4x1 t0x1 t14 s3))
  (Q (.tup [t4, (.i .i64 0)]) s2)) (.s []) a0 (.i .i64 0) s1)
theorem w21_eq (P : Prims) (a0 : AV) (Q : AV -> AS -> Prop) : w21 P a0 Q = VBd P Tryz.f21 an21 [a0] Q := by kernel_rfl
theorem r21 (a0 : AV) {r : AV} (hi : AV.idfree.idfrees [a0] = true) (hn : AV.norm.norms [a0] = [a0]) (h : w21 (av T0) a0 (fun r1 s1 => oZ T0 s1 r1 (fun r2 => r2 = r))) : R T0 21 [a0] r :=
 RMk (w21_eq ..) hi hn h
def an41 : AN := (sqL (sqL (sqL (sqM))))
def w41 (P : Prims) (a0 a1 : AV) (s : AS) (Q : AV -> AS -> Prop) : Prop :=
 P.oC 6 69 [a0] s fun t6 s1 =>
 P.oV 9 (cU a0) fun t9 =>
 P.oV 10 (ar 1 t9) fun t10 =>
 P.oV 11 (ac T0 s1.h 63 t10) fun t11 =>
 P.oV 13 (eE T0 63 1 [(0, a1)]) fun t13 =>
 P.oM 14 (aG T0 s1 63 63 t11 t13) fun t14 s2 =>
 P.oV 15 (cU a0) fun t15 =>
 P.oV 16 (ar 1 t15) fun t16 =>
 P.oH (az T0 s2.h 63 t16 t14) s2 fun s3 =>
 Q .nili s3
theorem w41_eq (P : Prims) (a0 a1 : AV) (s : AS) (Q : AV -> AS -> Prop) : w41 P a0 a1 s Q = bQ P T0 Tryz.f41 (bO Tryz.f41) an41 [a0, a1] s Q := by kernel_rfl
theorem r41 (a0 a1 : AV) {s s' : AS} {r : AV} (h : w41 (av T0) a0 a1 s (fun r1 s1 => r1 = r /\ s1 = s')) : Runs T0 41 [a0, a1] s r s' :=
 Runs.mk (by kernel_rfl) (by kernel_rfl) (show T0.fn 41 = some Tryz.f41 by kernel_rfl) (by kernel_rfl) (by kernel_rfl) (by kernel_rfl) (by rw [w41_eq] at h; exact h)
def an42 : AN := (sqL (sqL (sqL (sqM))))
def w42 (P : Prims) (a0 a1 : AV) (s : AS) (Q : AV -> AS -> Prop) : Prop :=
 P.oC 7 69 [a0] s fun t7 s1 =>
 P.oV 10 (cU a0) fun t10 =>
 P.oV 11 (ar 1 t10) fun t11 =>
 P.oV 12 (ac T0 s1.h 63 t11) fun t12 =>
 P.oM 14 (aG T0 s1 63 9 t12 a1) fun t14 s2 =>
 P.oV 15 (cU a0) fun t15 =>
 P.oV 16 (ar 1 t15) fun t16 =>
 P.oH (az T0 s2.h 63 t16 t14) s2 fun s3 =>
 P.oV 18 (aj T0 s3.h .len [9] [a1]) fun t18 =>
 Q (.tup [t18, .nili]) s3
theorem w42_eq (P : Prims) (a0 a1 : AV) (s : AS) (Q : AV -> AS -> Prop) : w42 P a0 a1 s Q = bQ P T0 Tryz.f42 (bO Tryz.f42) an42 [a0, a1] s Q := by kernel_rfl
theorem r42 (a0 a1 : AV) {s s' : AS} {r : AV} (h : w42 (av T0) a0 a1 s (fun r1 s1 => r1 = r /\ s1 = s')) : Runs T0 42 [a0, a1] s r s' :=
 Runs.mk (by kernel_rfl) (by kernel_rfl) (show T0.fn 42 = some Tryz.f42 by kernel_rfl) (by kernel_rfl) (by kernel_rfl) (by kernel_rfl) (by rw [w42_eq] at h; exact h)
def an45 : AN := (sqL (sqM))
def w45 (P : Prims) (a0 : AV) (s : AS) (Q : AV -> AS -> Prop) : Prop :=
 P.oV 4 (cU a0) fun t4 =>
 P.oV 5 (ar 1 t4) fun t5 =>
 P.oV 6 (ac T0 s.h 63 t5) fun t6 =>
 P.oV 7 (aj T0 s.h .unsafeSliceData [63] [t6]) fun t7 =>
 P.oV 9 (cU a0) fun t9 =>
 P.oV 10 (ar 1 t9) fun t10 =>
 P.oV 11 (ac T0 s.h 63 t10) fun t11 =>
 P.oV 12 (aj T0 s.h .len [63] [t11]) fun t12 =>
 P.oM 13 (gp T0 s 87 t7 t12) fun t13 s1 =>
 Q t13 s1
theorem w45_eq (P : Prims) (a0 : AV) (s : AS) (Q : AV -> AS -> Prop) : w45 P a0 s Q = bQ P T0 Tryz.f45 (bO Tryz.f45) an45 [a0] s Q := by kernel_rfl
theorem r45 (a0 : AV) {s s' : AS} {r : AV} (h : w45 (av T0) a0 s (fun r1 s1 => r1 = r /\ s1 = s')) : Runs T0 45 [a0] s r s' :=
 Runs.mk (by kernel_rfl) (by kernel_rfl) (show T0.fn 45 = some Tryz.f45 by kernel_rfl) (by kernel_rfl) (by kernel_rfl) (by kernel_rfl) (by rw [w45_eq] at h; exact h)
def an46 : AN := (sqL (sqL (.seq none (sqL (.two (sqM) .leaf)) (sqM))))
def w46 (P : Prims) (a0 : AV) (Q : AV -> AS -> Prop) : Prop :=
 P.oV 5 (af T0 .lss 3 true a0 (.i .i64 10)) fun t5 =>
 P.oI t5 (P.oV 9 (af T0 .add 3 true a0 (.i .i64 1)) fun t9 =>
  P.oV 10 (aL T0 Tr.nil 9 (.s [48, 49, 50, 51, 52, 53, 54, 55, 56, 57]) (some a0) (some t9) none) fun t10 =>
  Q t10 ⟨Tr.nil, 0⟩)
 (P.oV 13 (af T0 .quo 3 true a0 (.i .i64 10)) fun t13 =>
  P.oV 15 (af T0 .quo 3 true a0 (.i .i64 10)) fun t15 =>
  P.oV 16 (af T0 .add 3 true t15 (.i .i64 1)) fun t16 =>
  P.oV 17 (aL T0 Tr.nil 9 (.s [48, 49, 50, 51, 52, 53, 54, 55, 56, 57]) (some t13) (some t16) none) fun t17 =>
  P.oV 20 (af T0 .rem 3 true a0 (.i .i64 10)) fun t20 =>
  P.oV 22 (af T0 .rem 3 true a0 (.i .i64 10)) fun t22 =>
  P.oV 23 (af T0 .add 3 true t22 (.i .i64 1)) fun t23 =>
  P.oV 24 (aL T0 Tr.nil 9 (.s [48, 49, 50, 51, 52, 53, 54, 55, 56, 57]) (some t20) (some t23) none) fun t24 =>
  P.oV 25 (af T0 .add 9 false t17 t24) fun t25 =>
  Q t25 ⟨Tr.nil, 0⟩)
theorem w46_eq (P : Prims) (a0 : AV) (Q : AV -> AS -> Prop) : w46 P a0 Q = VBd P Tryz.f46 an46 [a0] Q := by kernel_rfl
theorem r46 (a0 : AV) {r : AV} (hi : AV.idfree.idfrees [a0] = true) (hn : AV.norm.norms [a0] = [a0]) (h : w46 (av T0) a0 (fun r1 s1 => oZ T0 s1 r1 (fun r2 => r2 = r))) : R T0 46 [a0] r :=
 RMk (w46_eq ..) hi hn h
def an47 : AN := (sqL (sqL (.seq none (sqL (.one (.loop [3, 0, 4] (.seq none (sqL (.two .leaf .leaf)) (.seq (some [3, 0, 4]) (.one (sqL (.two .leaf (sqL (.two .leaf .leaf))))) .leaf))))) (sqM))))
def w47 (P : Prims) (a0 : AV) (Q : AV -> AS -> Prop) : Prop :=
 P.oL [3, 0, 4] (fun (next : C3) t3 t0 t4 s1 =>
 P.oV 7 (aj T0 s1.h .len [9] [t0]) fun t7 =>
 P.oV 8 (af T0 .lss 3 false t4 t7) fun t8 =>
 P.oI t8 (P.oJ [3, 0, 4] (fun (k : C3) =>
  P.oV 13 (cc T0 9 t0 t4) fun t13 =>
  P.oV 14 (af T0 .eql 5 true t13 (.i .u8 10)) fun t14 =>
  P.oI t14 (P.oV 16 (af T0 .add 9 true t3 (.s [92, 110])) fun t16 =>
   k t16 t0 t4 s1)
  (P.oV 19 (cc T0 9 t0 t4) fun t19 =>
   P.oV 20 (af T0 .eql 5 true t19 (.i .u8 34)) fun t20 =>
   P.oG [22, 23, 24, 25] t20 false (fun (kx1 : C4) => P.oV 24 (cc T0 9 t0 t4) fun t24 =>
    P.oV 25 (af T0 .eql 5 true t24 (.i .u8 92)) fun t25 =>
    kx1 t0 t4 t24 t25 s1) s1 fun t22 t23 t24 t25 s2 =>
   P.oV 26 (au t20 (some (.b true)) (some t25)) fun t26 =>
   P.oI t26 (P.oV 28 (af T0 .add 9 true t3 (.s [92])) fun t28 =>
    P.oV 32 (af T0 .add 3 true t4 (.i .i64 1)) fun t32 =>
    P.oV 33 (aL T0 s2.h 9 t0 (some t4) (some t32) none) fun t33 =>
    P.oV 34 (af T0 .add 9 false t28 t33) fun t34 =>
    k t34 t0 t4 s2)
   (P.oV 39 (af T0 .add 3 true t4 (.i .i64 1)) fun t39 =>
    P.oV 40 (aL T0 s2.h 9 t0 (some t4) (some t39) none) fun t40 =>
    P.oV 41 (af T0 .add 9 false t3 t40) fun t41 =>
    k t41 t0 t4 s2)))
  (fun t3x1 t0x1 t4x1 s2 =>
  P.oV 10 (af T0 .add 3 true t4x1 (.i .i64 1)) fun t10 =>
  next t3x1 t0x1 t10 s2))
 (P.oV 43 (af T0 .add 9 true t3 (.s [34])) fun t43 =>
  Q t43 s1)) (.s [34]) a0 (.i .i64 0) ⟨Tr.nil, 0⟩
theorem w47_eq (P : Prims) (a0 : AV) (Q : AV -> AS -> Prop) : w47 P a0 Q = VBd P Tryz.f47 an47 [a0] Q := by kernel_rfl
theorem r47 (a0 : AV) {r : AV} (hi : AV.idfree.idfrees [a0] = true) (hn : AV.norm.norms [a0] = [a0]) (h : w47 (av T0) a0 (fun r1 s1 => oZ T0 s1 r1 (fun r2 => r2 = r))) : R T0 47 [a0] r :=
 RMk (w47_eq ..) hi hn h
def an69 : AN := (sqL (.two .leaf (sqL (.two .leaf .leaf))))
def w69 (P : Prims) (a0 : AV) (s : AS) (Q : AV -> AS -> Prop) : Prop :=
 P.oV 3 (cU a0) fun t3 =>
 P.oV 4 (ar 0 t3) fun t4 =>
 P.oV 5 (ac T0 s.h 62 t4) fun t5 =>
 P.oV 6 (af T0 .eql 62 true t5 .nilp) fun t6 =>
 P.oI t6 (P.oV 9 (cV T0 s.h 62 106 a0) fun t9 =>
  P.oC 10 98 [t9] s fun t10 s1 =>
  P.oV 11 (cV T0 s1.h 106 62 t10) fun t11 =>
  P.oV 12 (cU a0) fun t12 =>
  P.oV 13 (ar 0 t12) fun t13 =>
  P.oH (az T0 s1.h 62 t13 t11) s1 fun s2 =>
  Q (.tup []) s2)
 (P.oV 15 (cU a0) fun t15 =>
  P.oV 16 (ar 0 t15) fun t16 =>
  P.oV 17 (ac T0 s.h 62 t16) fun t17 =>
  P.oV 19 (af T0 .neq 62 false t17 a0) fun t19 =>
  P.oI t19 (False)
  (Q (.tup []) s))
theorem w69_eq (P : Prims) (a0 : AV) (s : AS) (Q : AV -> AS -> Prop) : w69 P a0 s Q = bQ P T0 Tryz.f69 (bO Tryz.f69) an69 [a0] s Q := by kernel_rfl
theorem r69 (a0 : AV) {s s' : AS} {r : AV} (h : w69 (av T0) a0 s (fun r1 s1 => r1 = r /\ s1 = s')) : Runs T0 69 [a0] s r s' :=
 Runs.mk (by kernel_rfl) (by kernel_rfl) (show T0.fn 69 = some Tryz.f69 by kernel_rfl) (by kernel_rfl) (by kernel_rfl) (by kernel_rfl) (by rw [w69_eq] at h; exact h)
def an94 : AN := (sqL (sqL (.seq none (sqL (.two (sqM) .leaf)) (sqM))))
def w94 (P : Prims) (a0 : AV) (Q : AV -> AS -> Prop) : Prop :=
 P.oC 8 112 [a0] ⟨Tr.nil, 0⟩ fun t8 s1 =>
 P.oV 9 (aI 0 t8) fun t9 =>
 P.oV 10 (aI 1 t8) fun t10 =>
 P.oV 12 (af T0 .neq 67 true t10 .nili) fun t12 =>
 P.oI t12 (P.oC 16 113 [(.s [65, 116, 111, 105]), a0, (.i .i64 0), (.i .i64 0), t10] s1 fun t16 s2 =>
  Q (.tup [t9, t16]) s2)
 (Q (.tup [t9, .nili]) s1)
theorem w94_eq (P : Prims) (a0 : AV) (Q : AV -> AS -> Prop) : w94 P a0 Q = VBd P Tryz.f94 an94 [a0] Q := by kernel_rfl
theorem r94 (a0 : AV) {r : AV} (hi : AV.idfree.idfrees [a0] = true) (hn : AV.norm.norms [a0] = [a0]) (h : w94 (av T0) a0 (fun r1 s1 => oZ T0 s1 r1 (fun r2 => r2 = r))) : R T0 94 [a0] r :=
 RMk (w94_eq ..) hi hn h
end Go.Proofs.YtmfhmlhaofpeiaaGreatDoor.Ev
