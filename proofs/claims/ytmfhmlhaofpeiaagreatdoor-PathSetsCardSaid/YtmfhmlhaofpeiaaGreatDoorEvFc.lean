/- The functions' code, laid out. Printed by WP.lean.txt, a program of this session's. -/
import Derived.Test.YtmfhmlhaofpeiaaGreatDoorEvF
namespace Go.Proofs.YtmfhmlhaofpeiaaGreatDoor.Ev
open Go Go.RowKit
set_option linter.unusedVariables false
set_option maxRecDepth 100000
def an113 : AN := (sqL (.seq none (sqL (.one (sqL (.two (sqM) (sqL (.two (sqM) (sqL (.two (sqM) (sqL (.two (sqM) .leaf)))))))))) (sqM)))
def w113 (P : Prims) (a0 a1 a2 a3 a4 : AV) (Q : AV -> AS -> Prop) : Prop :=
 P.oV 14 (ah T0 .eql 67 false a4 (.ifc 126 (.i .i64 2))) fun t14 =>
 P.oI t14 (P.oC 17 127 [a0, a1] ⟨Tr.nil, 0⟩ fun t17 s1 =>
  Q (.ifc 129 t17) s1)
 (P.oV 21 (ah T0 .eql 67 false a4 (.ifc 126 (.i .i64 1))) fun t21 =>
  P.oI t21 (P.oC 24 128 [a0, a1] ⟨Tr.nil, 0⟩ fun t24 s1 =>
   Q (.ifc 129 t24) s1)
  (P.oV 28 (ah T0 .eql 67 false a4 (.ifc 126 (.i .i64 3))) fun t28 =>
   P.oI t28 (P.oC 32 129 [a0, a1, a2] ⟨Tr.nil, 0⟩ fun t32 s1 =>
    Q (.ifc 129 t32) s1)
   (P.oV 36 (ah T0 .eql 67 false a4 (.ifc 126 (.i .i64 4))) fun t36 =>
    P.oI t36 (P.oC 40 130 [a0, a1, a3] ⟨Tr.nil, 0⟩ fun t40 s1 =>
     Q (.ifc 129 t40) s1)
    (Q a4 ⟨Tr.nil, 0⟩))))
theorem w113_eq (P : Prims) (a0 a1 a2 a3 a4 : AV) (Q : AV -> AS -> Prop) : w113 P a0 a1 a2 a3 a4 Q = VBd P Tryz.f113 an113 [a0, a1, a2, a3, a4] Q := by kernel_rfl
theorem r113 (a0 a1 a2 a3 a4 : AV) {r : AV} (hi : AV.idfree.idfrees [a0, a1, a2, a3, a4] = true) (hn : AV.norm.norms [a0, a1, a2, a3, a4] = [a0, a1, a2, a3, a4]) (h : w113 (av T0) a0 a1 a2 a3 a4 (fun r1 s1 => oZ T0 s1 r1 (fun r2 => r2 = r))) : R T0 113 [a0, a1, a2, a3, a4] r :=
 RMk (w113_eq ..) hi hn h
def an128 : AN := (sqL (sqM))
def w128 (P : Prims) (a0 a1 : AV) (Q : AV -> AS -> Prop) : Prop :=
 P.oC 7 140 [a1] ⟨Tr.nil, 0⟩ fun t7 s1 =>
 P.oV 8 (ac T0 Tr.nil 67 (.iptr [(.ifc 148 (.iptr [(.s [118, 97, 108, 117, 101, 32, 111, 117, 116, 32, 111, 102, 32, 114, 97, 110, 103, 101])]))])) fun t8 =>
 P.oV 9 (aO T0 144 [(0, a0), (1, t7), (2, t8)]) fun t9 =>
 P.oS ⟨(Tr.nil.put 0 (some (.cells (AV.cells t9) 144 false))), 1⟩ fun s2 =>
 Q (.ptr 0 0) s2
theorem w128_eq (P : Prims) (a0 a1 : AV) (Q : AV -> AS -> Prop) : w128 P a0 a1 Q = VBd P Tryz.f128 an128 [a0, a1] Q := by kernel_rfl
theorem r128 (a0 a1 : AV) {r : AV} (hi : AV.idfree.idfrees [a0, a1] = true) (hn : AV.norm.norms [a0, a1] = [a0, a1]) (h : w128 (av T0) a0 a1 (fun r1 s1 => oZ T0 s1 r1 (fun r2 => r2 = r))) : R T0 128 [a0, a1] r :=
 RMk (w128_eq ..) hi hn h
def an140 : AN := (sqL (.seq none (sqL (.two (sqM) .leaf)) (sqL (sqL (sqM)))))
def w140 (P : Prims) (a0 : AV) (Q : AV -> AS -> Prop) : Prop :=
 P.oV 5 (ak T0 Tr.nil .len [9] [a0]) fun t5 =>
 P.oV 6 (ah T0 .eql 3 true t5 (.i .i64 0)) fun t6 =>
 P.oI t6 (Q (.s []) ⟨Tr.nil, 0⟩)
 (P.oV 8 (ak T0 Tr.nil .len [9] [a0]) fun t8 =>
  P.oE (qI T0 63 t8 t8) fun b f =>
  P.oN 9 b f ⟨Tr.nil, 0⟩ fun t9 s1 =>
  P.oM 12 (lp T0 s1 63 t9 a0) fun t12 s2 =>
  P.oV 14 (ai T0 63 t9 (.i .i64 0)) fun t14 =>
  P.oV 16 (ak T0 s2.h .len [63] [t9]) fun t16 =>
  P.oM 17 (gc T0 s2 87 t14 t16) fun t17 s3 =>
  Q t17 s3)
theorem w140_eq (P : Prims) (a0 : AV) (Q : AV -> AS -> Prop) : w140 P a0 Q = VBd P Tryz.f140 an140 [a0] Q := by kernel_rfl
theorem r140 (a0 : AV) {r : AV} (hi : AV.idfree.idfrees [a0] = true) (hn : AV.norm.norms [a0] = [a0]) (h : w140 (av T0) a0 (fun r1 s1 => oZ T0 s1 r1 (fun r2 => r2 = r))) : R T0 140 [a0] r :=
 RMk (w140_eq ..) hi hn h
end Go.Proofs.YtmfhmlhaofpeiaaGreatDoor.Ev
