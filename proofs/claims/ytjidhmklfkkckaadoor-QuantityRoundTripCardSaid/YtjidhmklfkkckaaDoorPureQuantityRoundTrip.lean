/- The pure statement of QuantityRoundTrip. -/
import Derived.Test.YtjidhmklfkkckaaDoorDefQuantityRoundTrip
import Derived.Test.YtjidhmklfkkckaaDoorComR
namespace Go.Proofs.YtjidhmklfkkckaaDoor.Pure
open Go.RowKit Go.Proofs.YtjidhmklfkkckaaDoor.X Go.Proofs.YtjidhmklfkkckaaDoor.X.RQuantityRoundTrip Go.Proofs.YtjidhmklfkkckaaDoorW.PrintWords Go.Proofs.YtjidhmklfkkckaaDoorW.PrintLast Go.Proofs.YtjidhmklfkkckaaDoorW.PrintMore Go.Proofs.YtjidhmklfkkckaaDoorW.Str
theorem QuantityRoundTrip : PureAll := by
  intro n hn
  refine ⟨60, ?_⟩
  unfold orchestratorlaw01_QuantityRoundTrip.f orchestratorref01_Clamp.f
  have hb := cl_bd n
  have hl := pl_len (cl n) hb.1 hb.2
  have hs : (bs (pl (cl n))).size ≤ 140737488351232 := Nat.le_trans hl (by decide)
  rw [awake_ok _ (by omega), qprint]
  simp only [Option.bind_some]
  rw [qparse _ hs _ (by omega), ls_bs, spec_pl _ hb.1 hb.2]
  simp only [Option.bind_some]
  rw [if_pos (show cl n = mn (mx n (-1000000000000000)) 1000000000000000 from rfl), if_pos trivial]
end Go.Proofs.YtjidhmklfkkckaaDoor.Pure
