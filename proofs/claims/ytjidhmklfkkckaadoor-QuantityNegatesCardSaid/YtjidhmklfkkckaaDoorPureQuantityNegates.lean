/- The pure statement of QuantityNegates. -/
import Derived.Test.YtjidhmklfkkckaaDoorDefQuantityNegates
import Derived.Test.YtjidhmklfkkckaaDoorComR
namespace Go.Proofs.YtjidhmklfkkckaaDoor.Pure
open Go.RowKit Go.Proofs.YtjidhmklfkkckaaDoor.X Go.Proofs.YtjidhmklfkkckaaDoor.X.RQuantityNegates Go.Proofs.YtjidhmklfkkckaaDoorW.PrintWords Go.Proofs.YtjidhmklfkkckaaDoorW.PrintLast Go.Proofs.YtjidhmklfkkckaaDoorW.PrintMore Go.Proofs.YtjidhmklfkkckaaDoorW.Str
theorem QuantityNegates : PureAll := by
  intro s hs
  have hs' : s.size ≤ 140737488351232 := hs
  refine ⟨s.size + 60, ?_⟩
  unfold orchestratorlaw01_QuantityNegates.f
  have keyT : orchestratorlaw01_QuantityNegates.j0 (s.size + 60) s true = some true := by
    rw [show s.size + 60 = (s.size + 59) + 1 from rfl]
    simp only [orchestratorlaw01_QuantityNegates.j0]
    rw [awake_ok _ (by omega)]
    rfl
  have keyF : (s.size : Int) ≤ 100 → (ls s).head? ≠ some 45 → orchestratorlaw01_QuantityNegates.j0 (s.size + 60) s false = some true := by
    intro hl hh
    have hl' : s.size ≤ 100 := by omega
    rw [show s.size + 60 = (s.size + 59) + 1 from rfl]
    simp only [orchestratorlaw01_QuantityNegates.j0]
    have hap : ls ((⟨#[45]⟩ : ByteArray) ++ s) = 45 :: ls s := by rw [ls_append]; rfl
    have hz : ((⟨#[45]⟩ : ByteArray) ++ s).size = s.size + 1 := by rw [size_ls, hap]; rfl
    generalize ((⟨#[45]⟩ : ByteArray) ++ s) = T at *
    rw [awake_ok _ (by omega), qparse s hs' _ (by omega), qparse T (by omega) _ (by omega)]
    simp only [Option.bind_some]
    have e : spec (ls T) = (-(spec (ls s)).1, (spec (ls s)).2) := by
      rw [hap]
      unfold spec
      rw [if_pos (show (45 :: ls s).head? = some 45 from rfl), if_neg hh]
      rfl
    rw [e]
    have hb := spec_bd (ls s)
    have hsz : 1 + s.size ≤ 9223372036854775807 := by omega
    rw [if_neg (by decide), if_pos hsz, if_pos rfl, w64 (by omega) (by omega), if_pos rfl]
  by_cases h1 : (s.size : Int) > 100
  · rw [if_pos h1]; exact keyT
  · rw [if_neg h1]
    by_cases h2 : (s.size : Int) > 0
    · rw [if_pos h2, if_pos h2]
      have hb := head_of_bt s 45 (by omega)
      have e45 : (((45 : UInt8).toNat : Nat) : Int) = 45 := rfl
      rw [e45] at hb
      rw [hb]
      by_cases h3 : (ls s).head? = some 45
      · rw [decide_eq_true h3]; exact keyT
      · rw [decide_eq_false h3]; exact keyF (by omega) h3
    · rw [if_neg h2]
      refine keyF (by omega) ?_
      have hnil : ls s = [] := List.length_eq_zero_iff.1 (by rw [← size_ls]; omega)
      rw [hnil]
      simp
end Go.Proofs.YtjidhmklfkkckaaDoor.Pure
