/- The readings of the arguments' types, and the pure statement of QuantityRoundTrip: the row's condition on its arguments is that each number is of its kind and each string and row within the reach. -/
import Derived.Test.YtjidhmklfkkckaaDoorXx5
import Derived.Test.YtjidhmklfkkckaaDoorOpen
import Derived.KernelRfl
namespace Go.Proofs.YtjidhmklfkkckaaDoor.X.RQuantityRoundTrip
open Go.RowKit Go.Proofs.YtjidhmklfkkckaaDoor.X Go.Proofs.YtjidhmklfkkckaaDoorW.PrintWords Go.Proofs.YtjidhmklfkkckaaDoorW.PrintLast Go.Proofs.YtjidhmklfkkckaaDoorW.PrintMore Go.Proofs.YtjidhmklfkkckaaDoorW.Open
set_option linter.unusedVariables false
def ok3 (x : Int) : Prop := (Lit.int .i64 x).wf = true
theorem opn3 : Opn Tryd.prog 3 (Kd.int .i64) ok3 := Opn.int Tryd.underlying3 (by kernel_rfl)
def PureAll : Prop := ∀ (a0 : Int), ok3 a0 → ∃ k, orchestratorlaw01_QuantityRoundTrip.f k a0 = some true
end Go.Proofs.YtjidhmklfkkckaaDoor.X.RQuantityRoundTrip
