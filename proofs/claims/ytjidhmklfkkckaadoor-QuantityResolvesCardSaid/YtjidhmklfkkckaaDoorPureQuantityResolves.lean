/- The pure statement of QuantityResolves. -/
import Derived.Test.YtjidhmklfkkckaaDoorDefQuantityResolves
import Derived.Test.YtjidhmklfkkckaaDoorComR
namespace Go.Proofs.YtjidhmklfkkckaaDoor.Pure
open Go.RowKit Go.Proofs.YtjidhmklfkkckaaDoor.X Go.Proofs.YtjidhmklfkkckaaDoor.X.RQuantityResolves Go.Proofs.YtjidhmklfkkckaaDoorW.PrintWords Go.Proofs.YtjidhmklfkkckaaDoorW.PrintLast Go.Proofs.YtjidhmklfkkckaaDoorW.PrintMore Go.Proofs.YtjidhmklfkkckaaDoorW.Str
theorem QuantityResolves : PureAll := by
  intro p n t up _ _ _ _
  refine ⟨60, ?_⟩
  unfold orchestratorlaw01_QuantityResolves.f
  rw [awake_ok _ (by omega), rresolve_eq, qresolve]
  simp only [Option.bind_some, if_true]
end Go.Proofs.YtjidhmklfkkckaaDoor.Pure
