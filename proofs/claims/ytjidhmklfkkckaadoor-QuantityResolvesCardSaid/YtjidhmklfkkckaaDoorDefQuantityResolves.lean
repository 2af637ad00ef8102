/- The readings of the arguments' types, and the pure statement of QuantityResolves: the row's condition on its arguments is that each number is of its kind and each string and row within the reach. -/
import Derived.Test.YtjidhmklfkkckaaDoorXx7
import Derived.Test.YtjidhmklfkkckaaDoorOpen
import Derived.KernelRfl
namespace Go.Proofs.YtjidhmklfkkckaaDoor.X.RQuantityResolves
open Go.RowKit Go.Proofs.YtjidhmklfkkckaaDoor.X Go.Proofs.YtjidhmklfkkckaaDoorW.PrintWords Go.Proofs.YtjidhmklfkkckaaDoorW.PrintLast Go.Proofs.YtjidhmklfkkckaaDoorW.PrintMore Go.Proofs.YtjidhmklfkkckaaDoorW.Open
set_option linter.unusedVariables false
def ok4 (x : Bool) : Prop := True
theorem opn4 : Opn Tryd.prog 4 Kd.bool ok4 := Opn.bool Tryd.underlying4 (by kernel_rfl)
def ok3 (x : Int) : Prop := (Lit.int .i64 x).wf = true
theorem opn3 : Opn Tryd.prog 3 (Kd.int .i64) ok3 := Opn.int Tryd.underlying3 (by kernel_rfl)
def ok32T (x : (Bool × Int)) : Prop := ok4 x.1 ∧ ok3 x.2
theorem opn32T : Opn Tryd.prog 32 (Kd.pair Kd.bool (Kd.int .i64)) ok32T := fun m => ((Opn.struct Tryd.underlying32 (by kernel_rfl) (fun m => (OpnF.cons rfl (opn4 m) (OpnF.one rfl (opn3 m))))) m).imp (fun _ h => h)
def PureAll : Prop := ∀ (a0_0 : Bool) (a0_1 : Int) (a1 : Int) (a2 : Bool), ok4 a0_0 → ok3 a0_1 → ok3 a1 → ok4 a2 → ∃ k, orchestratorlaw01_QuantityResolves.f k a0_0 a0_1 a1 a2 = some true
end Go.Proofs.YtjidhmklfkkckaaDoor.X.RQuantityResolves
