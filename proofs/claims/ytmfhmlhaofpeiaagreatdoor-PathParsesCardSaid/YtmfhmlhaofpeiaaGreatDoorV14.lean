/- WriteRune of a plain character; the program's quote. -/
import Derived.Test.YtmfhmlhaofpeiaaGreatDoorV13
namespace Go.Proofs.YtmfhmlhaofpeiaaGreatDoor.Ev
open Go Go.RowKit
set_option linter.unusedSimpArgs false
set_option linter.unusedVariables false
set_option maxRecDepth 100000

/-- Another block of the call's own stays. -/
theorem BldTo.keep {h : Tr AB} {n id it : Nat} {o : Option Nat} {l' : List UInt8} {σ' : AS} {b : Option AB} (t : BldTo h n id o l' σ') (h1 : it < n) (h2 : it ≠ id) (h3 : o ≠ some it) (hg : h.get it = b) : ∃ o', Bld σ'.h σ'.n id l' o' ∧ it < σ'.n ∧ o' ≠ some it ∧ σ'.h.get it = b := by
  obtain ⟨o', b1, b2, b3, b4⟩ := t
  refine ⟨o', b1, by omega, fun e => ?_, by rw [b3 it h1 h2 h3]; exact hg⟩
  rcases b4 it e with q | q
  · exact h3 q
  · omega
end Go.Proofs.YtmfhmlhaofpeiaaGreatDoor.Ev
