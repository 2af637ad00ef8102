/- The readings of the arguments' types, and the pure statement of BackoffFails: the row's condition on its arguments is that each number is of its kind and each string and row within the reach. -/
import Derived.Test.YtppinoefogcckaaPBackoffFailsx3
import Derived.Test.YtppinoefogcckaaOpen
import Derived.KernelRfl
namespace Go.Proofs.Ytppinoefogcckaa.PBackoffFails
open Go.RowKit Go.Proofs.Ytppinoefogcckaa.PBackoffFails Go.Proofs.YtppinoefogcckaaW.PrintWords Go.Proofs.YtppinoefogcckaaW.PrintLast Go.Proofs.YtppinoefogcckaaW.PrintMore Go.Proofs.YtppinoefogcckaaW.Open
def ok3 (x : Int) : Prop := (Lit.int .i64 x).wf = true
theorem opn3 : Opn Try.prog 3 (Kd.int .i64) ok3 := Opn.int Try.underlying3 (by kernel_rfl)
def ok26T (x : (Int × Int)) : Prop := ok3 x.1 ∧ ok3 x.2
theorem opn26T : Opn Try.prog 26 (Kd.pair (Kd.int .i64) (Kd.int .i64)) ok26T := fun m => ((Opn.struct Try.underlying26 (by kernel_rfl) (fun m => (OpnF.cons rfl (opn3 m) (OpnF.one rfl (opn3 m))))) m).imp (fun _ h => h)
def orchestratorlaw30_BackoffFails.PureAll : Prop := ∀ (a0_0 : Int) (a0_1 : Int) (a1 : Int) (a2 : Int) (a3 : Int), ok3 a0_0 → ok3 a0_1 → ok3 a1 → ok3 a2 → ok3 a3 → ∃ k, orchestratorlaw30_BackoffFails.f k a0_0 a0_1 a1 a2 a3 = some true
end Go.Proofs.Ytppinoefogcckaa.PBackoffFails
