/- The chapter's examples hold: by the evaluator. -/
import Derived.Test.YtbcikhbepldjhaaDoorEvT
namespace Go.Proofs.YtbcikhbepldjhaaDoor.X
open Go.RowKit Go.Proofs.YtbcikhbepldjhaaDoor.Ev
theorem awake_runs : evCall T0 60 9 [] ⟨.nil, 0⟩ = some (.b true, ⟨.nil, 0⟩) := by kernel_rfl
def orchestratorlaw56_awake.f : Option Bool := some true
theorem orchestratorlaw56_awake.calls (r : Bool) (w : World) (h : orchestratorlaw56_awake.f = some r) :
    Calls Tryd.prog 9 #[] w fun e w' => e = .returned (.bool r) ∧ Below w.heap.size w w' := by
  obtain rfl := Option.some.inj h
  refine (evCall_calls (φ := fun _ => (0, 0)) (A := fun _ => False) (S := fun _ => False) T0_ok (by kernel_rfl) (by kernel_rfl) ⟨_, awake_runs⟩ (fun _ h => h.elim) (fun g cs h => by cases h) VRs.nil).mono ?_
  rintro e w' ⟨u, rfl, h1, h2⟩
  cases h2
  exact ⟨rfl, h1⟩
end Go.Proofs.YtbcikhbepldjhaaDoor.X
