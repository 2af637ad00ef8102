/- The pure statement of QuantityParses. -/
import Derived.Test.YtjidhmklfkkckaaDoorDefQuantityParses
import Derived.Test.YtjidhmklfkkckaaDoorComR
namespace Go.Proofs.YtjidhmklfkkckaaDoor.Pure
open Go.RowKit Go.Proofs.YtjidhmklfkkckaaDoor.X Go.Proofs.YtjidhmklfkkckaaDoor.X.RQuantityParses Go.Proofs.YtjidhmklfkkckaaDoorW.PrintWords Go.Proofs.YtjidhmklfkkckaaDoorW.PrintLast Go.Proofs.YtjidhmklfkkckaaDoorW.PrintMore Go.Proofs.YtjidhmklfkkckaaDoorW.Str
theorem QuantityParses : PureAll := by
  intro s hs
  have hs' : s.size ≤ 140737488351232 := hs
  refine ⟨s.size + 60, ?_⟩
  unfold orchestratorlaw01_QuantityParses.f
  rw [awake_ok _ (by omega), qparse s hs' _ (by omega), rparse s hs' _ (by omega)]
  simp only [Option.bind_some, if_true, ite_self]
end Go.Proofs.YtjidhmklfkkckaaDoor.Pure
