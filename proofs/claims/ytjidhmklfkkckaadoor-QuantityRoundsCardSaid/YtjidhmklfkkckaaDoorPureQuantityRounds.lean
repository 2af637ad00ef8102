/- The pure statement of QuantityRounds. -/
import Derived.Test.YtjidhmklfkkckaaDoorDefQuantityRounds
import Derived.Test.YtjidhmklfkkckaaDoorComR
namespace Go.Proofs.YtjidhmklfkkckaaDoor.Pure
open Go.RowKit Go.Proofs.YtjidhmklfkkckaaDoor.X Go.Proofs.YtjidhmklfkkckaaDoor.X.RQuantityRounds Go.Proofs.YtjidhmklfkkckaaDoorW.PrintWords Go.Proofs.YtjidhmklfkkckaaDoorW.PrintLast Go.Proofs.YtjidhmklfkkckaaDoorW.PrintMore Go.Proofs.YtjidhmklfkkckaaDoorW.Str
theorem QuantityRounds : PureAll := by
  intro p n t more up _ _ _ _ _
  refine ⟨60, ?_⟩
  unfold orchestratorlaw01_QuantityRounds.f
  rw [qresolve, qresolve]
  simp only [Option.bind_some]
  have hn := clz_bd n
  have ht := clz_bd t
  have hx := Int.mul_nonneg ht.1 hn.1
  have h : 0 ≤ res p n t false ∧ res p n t false ≤ res p n t true ∧ res p n t true ≤ 1000000000000000 ∧ res p n t true - res p n t false ≤ 1 := by
    unfold res
    cases p with
    | false =>
      rw [if_neg (by decide), if_neg (by decide)]
      omega
    | true =>
      rw [if_pos rfl, if_pos rfl]
      have u0 : up99 false = 0 := rfl
      have u1 : up99 true = 99 := rfl
      rw [u0, u1]
      generalize clz t * clz n = x at *
      unfold mn
      refine ⟨?_, ?_, ?_, ?_⟩ <;> (repeat' split) <;> omega
  have hm : t ≤ more → res p n t up ≤ res p n more up := by
    intro hle
    unfold res
    cases p with
    | false => rw [if_neg (by decide), if_neg (by decide)]; exact Int.le_refl _
    | true =>
      rw [if_pos rfl, if_pos rfl]
      have h2 : clz t * clz n ≤ clz more * clz n := Int.mul_le_mul_of_nonneg_right (clz_mono hle) hn.1
      generalize clz t * clz n = x at *
      generalize clz more * clz n = y at *
      unfold mn
      (repeat' split) <;> omega
  obtain ⟨h1, h2, h3, h4⟩ := h
  rw [if_neg (by omega), if_neg (by omega), if_neg (by omega), w64 (by omega) (by omega), decide_eq_false (by omega)]
  rw [show (60 : Nat) = 59 + 1 from rfl]
  simp only [orchestratorlaw01_QuantityRounds.j0]
  rw [awake_ok _ (by omega), if_neg (by decide)]
  simp only [Option.bind_some]
  by_cases hle : t > more
  · rw [if_pos hle]
  · rw [if_neg hle, qresolve, qresolve]
    simp only [Option.bind_some]
    rw [if_pos (hm (by omega))]
end Go.Proofs.YtjidhmklfkkckaaDoor.Pure
