/- The pure statement of QuantityCanonical. -/
import Derived.Test.YtjidhmklfkkckaaDoorDefQuantityCanonical
import Derived.Test.YtjidhmklfkkckaaDoorComR
namespace Go.Proofs.YtjidhmklfkkckaaDoor.Pure
open Go.RowKit Go.Proofs.YtjidhmklfkkckaaDoor.X Go.Proofs.YtjidhmklfkkckaaDoor.X.RQuantityCanonical Go.Proofs.YtjidhmklfkkckaaDoorW.PrintWords Go.Proofs.YtjidhmklfkkckaaDoorW.PrintLast Go.Proofs.YtjidhmklfkkckaaDoorW.PrintMore Go.Proofs.YtjidhmklfkkckaaDoorW.Str
theorem QuantityCanonical : PureAll := by
  intro s t hs ht
  have hs' : s.size ≤ 140737488351232 := hs
  have ht' : t.size ≤ 140737488351232 := ht
  refine ⟨s.size + t.size + 60, ?_⟩
  unfold orchestratorlaw01_QuantityCanonical.f
  have key : ∀ b, orchestratorlaw01_QuantityCanonical.j0 (s.size + t.size + 60) s t b = some true := by
    intro b
    rw [show s.size + t.size + 60 = (s.size + t.size + 58) + 1 + 1 from rfl]
    simp only [orchestratorlaw01_QuantityCanonical.j0]
    rw [awake_ok _ (by omega), qparse s hs' _ (by omega), qparse t ht' _ (by omega)]
    simp only [Option.bind_some]
    cases b with
    | true => rfl
    | false =>
      rw [if_neg (by decide)]
      have bs1 := spec_bd (ls s)
      have bt1 := spec_bd (ls t)
      have zs := spec_err (ls s)
      have zt := spec_err (ls t)
      generalize spec (ls s) = a at *
      generalize spec (ls t) = b at *
      simp only [orchestratorlaw01_QuantityCanonical.j1]
      rw [awake_ok _ (by omega)]
      simp only [Option.bind_some]
      by_cases ha : a.2 = 0
      · rw [if_pos ha]
        by_cases hb : b.2 = 0
        · rw [if_neg (by simp [hb]), qprint, qprint]
          simp only [Option.bind_some]
          rw [toList_ls, toList_ls, ls_bs, ls_bs, cl_id bs1.1 bs1.2, cl_id bt1.1 bt1.2]
          by_cases e : a.1 = b.1
          · rw [e]; simp
          · have : ¬ pl a.1 = pl b.1 := fun h => e (pl_inj bs1 bt1 h)
            rw [if_pos]
            have h1 : (pl a.1 == pl b.1) = false := beq_eq_false_iff_ne.2 this
            have h2 : (a.1 == b.1) = false := beq_eq_false_iff_ne.2 e
            rw [h1, h2]
            rfl
        · rw [if_pos (by simp [hb]), if_pos ha, if_neg hb, if_pos (zt hb)]
      · rw [if_neg ha, if_pos trivial, if_neg ha, if_pos (zs ha)]
        by_cases hb : b.2 = 0
        · rw [if_pos hb]
        · rw [if_neg hb, if_pos (zt hb)]
  rw [key, key]
  simp
end Go.Proofs.YtjidhmklfkkckaaDoor.Pure
