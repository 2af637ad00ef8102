/- The functions' code, laid out. Printed by WP.lean.txt, a program of this session's. -/
import Derived.Test.YtmfhmlhaofpeiaaGreatDoorEvTy
namespace Go.Proofs.YtmfhmlhaofpeiaaGreatDoor.Ev
open Go Go.RowKit
set_option linter.unusedVariables false
set_option maxRecDepth 100000
/- strconv.toError -/
def an113 : AN := (.seq none .leaf (.seq none (.seq none .leaf (.one (.seq none .leaf (.two (.seq none .leaf .leaf) (.seq none .leaf (.two (.seq none .leaf .leaf) (.seq none .leaf (.two (.seq none .leaf .leaf) (.seq none .leaf (.two (.seq none .leaf .leaf) .leaf)))))))))) (.seq none .leaf .leaf)))
def w113 (P : Prims) (a0 a1 a2 a3 a4 : AV) (Q : AV → AS → Prop) : Prop :=
  P.oV 14 (evBin T0 .eql 67 false a4 (.ifc 126 (.i .i64 2))) fun t14 =>
  P.oI t14 (P.oC 17 127 [a0, a1] ⟨Tr.nil, 0⟩ fun t17 sx1 =>
   Q (.ifc 129 t17) sx1)
  (P.oV 21 (evBin T0 .eql 67 false a4 (.ifc 126 (.i .i64 1))) fun t21 =>
   P.oI t21 (P.oC 24 128 [a0, a1] ⟨Tr.nil, 0⟩ fun t24 sx1 =>
    Q (.ifc 129 t24) sx1)
   (P.oV 28 (evBin T0 .eql 67 false a4 (.ifc 126 (.i .i64 3))) fun t28 =>
    P.oI t28 (P.oC 32 129 [a0, a1, a2] ⟨Tr.nil, 0⟩ fun t32 sx1 =>
     Q (.ifc 129 t32) sx1)
    (P.oV 36 (evBin T0 .eql 67 false a4 (.ifc 126 (.i .i64 4))) fun t36 =>
     P.oI t36 (P.oC 40 130 [a0, a1, a3] ⟨Tr.nil, 0⟩ fun t40 sx1 =>
      Q (.ifc 129 t40) sx1)
     (Q a4 ⟨Tr.nil, 0⟩))))
theorem w113_eq (P : Prims) (a0 a1 a2 a3 a4 : AV) (Q : AV → AS → Prop) : w113 P a0 a1 a2 a3 a4 Q = vcBody P T0 Go.Proofs.Tryz.f113 (codeOf Go.Proofs.Tryz.f113) an113 [a0, a1, a2, a3, a4] ⟨.nil, 0⟩ Q := by kernel_rfl
theorem r113 (a0 a1 a2 a3 a4 : AV) {r : AV} (hi : AV.idfree.idfrees [a0, a1, a2, a3, a4] = true) (hn : AV.norm.norms [a0, a1, a2, a3, a4] = [a0, a1, a2, a3, a4]) (h : w113 (prims T0) a0 a1 a2 a3 a4 (fun r1 s1 => oZ T0 s1 r1 (fun r2 => r2 = r))) : R T0 113 [a0, a1, a2, a3, a4] r :=
  R.mk (by kernel_rfl) (by kernel_rfl) (show T0.fn 113 = some Go.Proofs.Tryz.f113 by kernel_rfl) (by kernel_rfl) (by kernel_rfl) hi hn (by rw [w113_eq] at h; exact h)
/- strconv.rangeError -/
def an128 : AN := (.seq none .leaf (.seq none .leaf .leaf))
def w128 (P : Prims) (a0 a1 : AV) (Q : AV → AS → Prop) : Prop :=
  P.oC 7 140 [a1] ⟨Tr.nil, 0⟩ fun t7 sx1 =>
  P.oV 8 (evLoad T0 Tr.nil 67 (.iptr [(.ifc 148 (.iptr [(.s [118, 97, 108, 117, 101, 32, 111, 117, 116, 32, 111, 102, 32, 114, 97, 110, 103, 101])]))])) fun t8 =>
  P.oV 9 (evBuild T0 144 [(0, a0), (1, t7), (2, t8)]) fun t9 =>
  P.oS ⟨(Tr.nil.put 0 (some (.cells (AV.cells t9) 144 false))), 1⟩ fun sx2 =>
  Q (.ptr 0 0) sx2
theorem w128_eq (P : Prims) (a0 a1 : AV) (Q : AV → AS → Prop) : w128 P a0 a1 Q = vcBody P T0 Go.Proofs.Tryz.f128 (codeOf Go.Proofs.Tryz.f128) an128 [a0, a1] ⟨.nil, 0⟩ Q := by kernel_rfl
theorem r128 (a0 a1 : AV) {r : AV} (hi : AV.idfree.idfrees [a0, a1] = true) (hn : AV.norm.norms [a0, a1] = [a0, a1]) (h : w128 (prims T0) a0 a1 (fun r1 s1 => oZ T0 s1 r1 (fun r2 => r2 = r))) : R T0 128 [a0, a1] r :=
  R.mk (by kernel_rfl) (by kernel_rfl) (show T0.fn 128 = some Go.Proofs.Tryz.f128 by kernel_rfl) (by kernel_rfl) (by kernel_rfl) hi hn (by rw [w128_eq] at h; exact h)
/- internal/stringslite.Clone -/
def an140 : AN := (.seq none .leaf (.seq none (.seq none .leaf (.two (.seq none .leaf .leaf) .leaf)) (.seq none .leaf (.seq none .leaf (.seq none .leaf .leaf)))))
def w140 (P : Prims) (a0 : AV) (Q : AV → AS → Prop) : Prop :=
  P.oV 5 (evBuiltin T0 Tr.nil .len [9] [a0]) fun t5 =>
  P.oV 6 (evBin T0 .eql 3 true t5 (.i .i64 0)) fun t6 =>
  P.oI t6 (Q (.s []) ⟨Tr.nil, 0⟩)
  (P.oV 8 (evBuiltin T0 Tr.nil .len [9] [a0]) fun t8 =>
   P.oE (evMake T0 63 t8 t8) fun b f =>
   P.oN 9 b f ⟨Tr.nil, 0⟩ fun t9 sx1 =>
   P.oM 12 (evCopy T0 sx1 63 t9 a0) fun t12 sx2 =>
   P.oV 14 (evIndexAddr T0 63 t9 (.i .i64 0)) fun t14 =>
   P.oV 16 (evBuiltin T0 sx2.h .len [63] [t9]) fun t16 =>
   P.oM 17 (evUStr T0 sx2 87 t14 t16) fun t17 sx3 =>
   Q t17 sx3)
theorem w140_eq (P : Prims) (a0 : AV) (Q : AV → AS → Prop) : w140 P a0 Q = vcBody P T0 Go.Proofs.Tryz.f140 (codeOf Go.Proofs.Tryz.f140) an140 [a0] ⟨.nil, 0⟩ Q := by kernel_rfl
theorem r140 (a0 : AV) {r : AV} (hi : AV.idfree.idfrees [a0] = true) (hn : AV.norm.norms [a0] = [a0]) (h : w140 (prims T0) a0 (fun r1 s1 => oZ T0 s1 r1 (fun r2 => r2 = r))) : R T0 140 [a0] r :=
  R.mk (by kernel_rfl) (by kernel_rfl) (show T0.fn 140 = some Go.Proofs.Tryz.f140 by kernel_rfl) (by kernel_rfl) (by kernel_rfl) hi hn (by rw [w140_eq] at h; exact h)

end Go.Proofs.YtmfhmlhaofpeiaaGreatDoor.Ev
