/- The functions' code, laid out. Printed by WP.lean.txt, a program of this session's. -/
import Derived.Test.YtmfhmlhaofpeiaaGreatDoorEvF
namespace Go.Proofs.YtmfhmlhaofpeiaaGreatDoor.Ev
open Go Go.RowKit
set_option linter.unusedVariables false
set_option maxRecDepth 100000
def an121 : AN := (sqL (sqM))
def w121 (P : Prims) (a0 a1 : AV) (Q : AV -> AS -> Prop) : Prop :=
 P.oC 7 138 [a0, a1] ⟨Tr.nil, 0⟩ fun t7 s1 =>
 Q t7 s1
theorem w121_eq (P : Prims) (a0 a1 : AV) (Q : AV -> AS -> Prop) : w121 P a0 a1 Q = VBd P Tryz.f121 an121 [a0, a1] Q := by kernel_rfl
theorem r121 (a0 a1 : AV) {r : AV} (hi : AV.idfree.idfrees [a0, a1] = true) (hn : AV.norm.norms [a0, a1] = [a0, a1]) (h : w121 (av T0) a0 a1 (fun r1 s1 => oZ T0 s1 r1 (fun r2 => r2 = r))) : R T0 121 [a0, a1] r :=
 RMk (w121_eq ..) hi hn h
end Go.Proofs.YtmfhmlhaofpeiaaGreatDoor.Ev
