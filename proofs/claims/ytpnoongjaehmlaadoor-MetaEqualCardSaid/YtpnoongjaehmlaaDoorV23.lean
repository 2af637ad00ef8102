/- The reading of objects, and the law MetaEqual. -/
import Derived.Test.YtpnoongjaehmlaaDoorV22
namespace Go.Proofs.YtpnoongjaehmlaaDoor.Ev
open Go Go.RowKit
set_option linter.unusedSimpArgs false
set_option linter.unusedVariables false
set_option maxRecDepth 100000

theorem opnV_34 (m : Nat) : OpV Tryd.prog 34 encOb okOb m := OpV.up (fun m => (OpV.struct Tryd.underlying34 (by kernel_rfl) (OpF.cons (z := 13) (z' := 10) rfl (by kernel_rfl) (opnV_27 m) (OpF.cons (z := 5) (z' := 5) rfl (by kernel_rfl) (opnV_32 m) (OpF.one (z := 5) rfl (by kernel_rfl) (opnV_32 m))))).iso (fun p => ⟨p.1, p.2.1, p.2.2⟩) (fun b => (b.m, b.s, b.t)) (fun _ => rfl) (fun _ => rfl) (fun a h => ⟨h.1, h.2.1, h.2.2⟩)) m
theorem law_MetaEqual (a b : Ob) (oa : okOb a) (ob : okOb b) : R T0 5 [encOb a, encOb b] (.b true) := c5 a b oa ob
end Go.Proofs.YtpnoongjaehmlaaDoor.Ev
