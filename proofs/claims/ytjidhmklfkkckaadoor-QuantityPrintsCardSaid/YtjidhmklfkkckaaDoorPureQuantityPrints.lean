/- The pure statement of QuantityPrints. -/
import Derived.Test.YtjidhmklfkkckaaDoorDefQuantityPrints
import Derived.Test.YtjidhmklfkkckaaDoorComR
namespace Go.Proofs.YtjidhmklfkkckaaDoor.Pure
open Go.RowKit Go.Proofs.YtjidhmklfkkckaaDoor.X Go.Proofs.YtjidhmklfkkckaaDoor.X.RQuantityPrints Go.Proofs.YtjidhmklfkkckaaDoorW.PrintWords Go.Proofs.YtjidhmklfkkckaaDoorW.PrintLast Go.Proofs.YtjidhmklfkkckaaDoorW.PrintMore Go.Proofs.YtjidhmklfkkckaaDoorW.Str
theorem QuantityPrints : PureAll := by
  intro n hn
  refine ⟨60, ?_⟩
  unfold orchestratorlaw01_QuantityPrints.f
  rw [awake_ok _ (by omega), qprint, rprint _ _ (by omega)]
  simp only [Option.bind_some, if_true]
end Go.Proofs.YtjidhmklfkkckaaDoor.Pure
