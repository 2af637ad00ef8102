/- From the reading of an argument to the chapter's structs. Printed by encg.py, a program of this session's. -/
import Derived.Test.YtmfhmlhaofpeiaaGreatDoorV0
import Derived.Test.YtmfhmlhaofpeiaaGreatDoorOp
namespace Go.Proofs.YtmfhmlhaofpeiaaGreatDoor.Ev
open Go Go.RowKit
theorem tP (m : Nat) : OpV Tryz.prog 3 (AV.i .i64) (fun n => (Lit.int .i64 n).wf = true) m := OpV.int m Tryz.underlying3 (by kernel_rfl)
theorem tO (m : Nat) : OpV Tryz.prog 9 AV.s (fun s => s.length <= 140737488351232) m := OpV.string m Tryz.underlying9 (by kernel_rfl)
theorem opnV_50 (m : Nat) : OpV Tryz.prog 50 am bz m := OpV.up (fun m => (OpV.struct Tryz.underlying50 (by kernel_rfl) (OpF.cons (z := 1) (z' := 3) rfl (by kernel_rfl) (tP m) (OpF.cons (z := 1) (z' := 2) rfl (by kernel_rfl) (tO m) (OpF.cons (z := 1) (z' := 1) rfl (by kernel_rfl) (tP m) (OpF.one (z := 1) rfl (by kernel_rfl) (tO m)))))).iso (fun p => ⟨p.1, p.2.1, p.2.2.1, p.2.2.2⟩) (fun b => (b.kind_, b.name_, b.index_, b.value_)) (fun _ => rfl) (fun _ => rfl) (fun _ h => h)) m
theorem opnV_22 (m : Nat) : OpV Tryz.prog 22 (fun xs : List (XStep) => .lst (xs.map am)) (fun xs => xs.length * 48 <= 140737488351232 /\ ∀ z ∈ xs, bz z) m := OpV.up (fun m => OpV.slice (B := 48) Tryz.underlying22 (by kernel_rfl) (by kernel_rfl) (of_decide_eq_true (by kernel_rfl)) (opnV_50 m)) m
end Go.Proofs.YtmfhmlhaofpeiaaGreatDoor.Ev
