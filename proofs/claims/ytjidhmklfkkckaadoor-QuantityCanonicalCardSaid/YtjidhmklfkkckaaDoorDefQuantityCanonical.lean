/- The readings of the arguments' types, and the pure statement of QuantityCanonical: the row's condition on its arguments is that each number is of its kind and each string and row within the reach. -/
import Derived.Test.YtjidhmklfkkckaaDoorXx6
import Derived.Test.YtjidhmklfkkckaaDoorOpen
import Derived.KernelRfl
namespace Go.Proofs.YtjidhmklfkkckaaDoor.X.RQuantityCanonical
open Go.RowKit Go.Proofs.YtjidhmklfkkckaaDoor.X Go.Proofs.YtjidhmklfkkckaaDoorW.PrintWords Go.Proofs.YtjidhmklfkkckaaDoorW.PrintLast Go.Proofs.YtjidhmklfkkckaaDoorW.PrintMore Go.Proofs.YtjidhmklfkkckaaDoorW.Open
set_option linter.unusedVariables false
def ok9 (x : ByteArray) : Prop := x.size ≤ 140737488351232
theorem opn9 : Opn Tryd.prog 9 Kd.string ok9 := Opn.string Tryd.underlying9 (by kernel_rfl)
def PureAll : Prop := ∀ (a0 : ByteArray) (a1 : ByteArray), ok9 a0 → ok9 a1 → ∃ k, orchestratorlaw01_QuantityCanonical.f k a0 a1 = some true
end Go.Proofs.YtjidhmklfkkckaaDoor.X.RQuantityCanonical
