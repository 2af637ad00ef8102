/- Every further failure doubles the waiting time until the limit is reached. Conditions: none. -/
import Derived.Test.YtppinoefogcckaaPBackoffDoublesx2
namespace Go.Proofs.Ytppinoefogcckaa.Pure
open Go.RowKit Go.Proofs.Ytppinoefogcckaa.PBackoffDoubles Go.Proofs.YtppinoefogcckaaW.PrintWords Go.Proofs.YtppinoefogcckaaW.PrintLast Go.Proofs.YtppinoefogcckaaW.PrintMore

theorem w64 {x : Int} (h0 : -9223372036854775808 ≤ x) (h1 : x ≤ 9223372036854775807) : wrap64 x = x := by unfold wrap64; omega

theorem wf_i64 {x : Int} (h : (Lit.int .i64 x).wf = true) : -9223372036854775808 ≤ x ∧ x ≤ 9223372036854775807 := by
  simp [Lit.wf] at h
  rw [show IntKind.i64.min = -9223372036854775808 from by decide] at h
  exact h

theorem two_pos (n : Nat) : (1 : Int) ≤ 2 ^ n := by
  induction n with
  | zero => decide
  | succ n ih => rw [Int.pow_succ]; omega

theorem le_mul_two (x : Int) (n : Nat) (h : 0 ≤ x) : x ≤ x * 2 ^ n := by
  have := Int.mul_le_mul_of_nonneg_left (two_pos n) h
  omega

theorem two_mono {n m : Nat} (h : n ≤ m) : (2 : Int) ^ n ≤ 2 ^ m := by
  obtain ⟨d, rfl⟩ := Nat.exists_eq_add_of_le h
  rw [Int.pow_add]
  exact le_mul_two _ _ (by have := two_pos n; omega)

theorem mul_two_mono {x : Int} {n m : Nat} (hx : 0 ≤ x) (h : n ≤ m) : x * 2 ^ n ≤ x * 2 ^ m :=
  Int.mul_le_mul_of_nonneg_left (two_mono h) hx

/-- the nearest number from 0 to m -/
def cl (n m : Int) : Int := mn (mx n 0) m
theorem cl_bd (n m : Int) (hm : 0 ≤ m) : 0 ≤ cl n m ∧ cl n m ≤ m := by unfold cl mn mx; split <;> split <;> omega

/-- the waiting time -/
def R (b l f : Int) : Int := if f < 1 then 0 else mn (cl b 1000000000000 * 2 ^ (f - 1).toNat) (cl l 1000000000000)

theorem R_bd (b l f : Int) : 0 ≤ R b l f ∧ R b l f ≤ cl l 1000000000000 := by
  have h1 := cl_bd b 1000000000000 (by omega)
  have h2 := cl_bd l 1000000000000 (by omega)
  have h3 := le_mul_two (cl b 1000000000000) (f - 1).toNat h1.1
  unfold R mn
  split
  · omega
  · split <;> omega

theorem clampf (a : Int) : backoff_clamp.f a = some (cl a 1000000000000) := rfl

theorem delay_l (n : Nat) : ∀ (k : Nat) (x7 x8 x17 x18 : Int), n < k → (x17 - x18).toNat = n → 0 ≤ x7 → 0 ≤ x8 → x8 ≤ 1000000000000 → 0 ≤ x18 → x17 ≤ 64 →
    backoff_Delay.l0 k x7 x8 x17 x18 = some (mn (x7 * 2 ^ n) x8) := by
  induction n with
  | zero =>
    intro k x7 x8 x17 x18 hk hn h7 h8 h8' h18 h17
    obtain ⟨k, rfl⟩ : ∃ m, k = m + 1 := ⟨k - 1, by omega⟩
    simp only [backoff_Delay.l0]
    rw [if_neg (by omega)]
    simp
  | succ n ih =>
    intro k x7 x8 x17 x18 hk hn h7 h8 h8' h18 h17
    obtain ⟨k, rfl⟩ : ∃ m, k = m + 1 := ⟨k - 1, by omega⟩
    simp only [backoff_Delay.l0]
    rw [if_pos (by omega)]
    by_cases hc : x7 ≥ x8
    · rw [if_pos hc]
      have := le_mul_two x7 (n + 1) h7
      unfold mn
      congr 1
      split <;> split <;> omega
    · rw [if_neg hc, w64 (by omega) (by omega), w64 (by omega) (by omega), ih k (x7 * 2) x8 x17 (x18 + 1) (by omega) (by omega) (by omega) h8 h8' (by omega) h17]
      rw [Int.pow_succ, Int.mul_assoc, Int.mul_comm 2 (2 ^ n)]

theorem big_two {n : Nat} (h : 64 ≤ n) : (18446744073709551616 : Int) ≤ 2 ^ n := by
  have := two_mono h
  simpa using this

theorem mn_sat {x m : Int} {a b : Nat} (hx : 0 ≤ x) (hm : 0 ≤ m) (hm' : m ≤ 1000000000000) (ha : 64 ≤ a) (hb : 64 ≤ b) : mn (x * 2 ^ a) m = mn (x * 2 ^ b) m := by
  by_cases h0 : x = 0
  · subst h0; simp
  · have h1 : 1 * 18446744073709551616 ≤ x * 2 ^ a := Int.mul_le_mul (by omega) (big_two ha) (by omega) (by omega)
    have h2 : 1 * 18446744073709551616 ≤ x * 2 ^ b := Int.mul_le_mul (by omega) (big_two hb) (by omega) (by omega)
    unfold mn
    rw [if_pos (by omega), if_pos (by omega)]

theorem delay_f (b l f : Int) (h0 : -9223372036854775808 ≤ f) (h1 : f ≤ 9223372036854775807) (k : Nat) (hk : 65 ≤ k) : backoff_Delay.f k b l f = some (R b l f) := by
  unfold backoff_Delay.f
  rw [clampf, clampf]
  simp only [Option.bind_some]
  have hb := cl_bd b 1000000000000 (by omega)
  have hl := cl_bd l 1000000000000 (by omega)
  unfold R
  by_cases hf : f < 1
  · rw [if_pos hf, if_pos hf]
  · rw [if_neg hf, if_neg hf, w64 (by omega) (by omega)]
    have hmn : mn (f - 1) 64 ≤ 64 ∧ 0 ≤ mn (f - 1) 64 := by unfold mn; split <;> omega
    rw [delay_l (mn (f - 1) 64).toNat k _ _ _ 0 (by omega) (by omega) hb.1 hl.1 hl.2 (by omega) hmn.1]
    congr 1
    by_cases h64 : f - 1 ≤ 64
    · have : mn (f - 1) 64 = f - 1 := by unfold mn; rw [if_neg (by omega)]
      rw [this]
    · have : mn (f - 1) 64 = 64 := by unfold mn; rw [if_pos (by omega)]
      rw [this]
      exact mn_sat hb.1 hl.1 hl.2 (by omega) (by omega)

theorem fail_f (x y n b l : Int) (k : Nat) (hk : 65 ≤ k) : backoff_Fail.f k x y n b l = some (cl (cl x 1000000000000000 + 1) 1000000000000000, cl (cl n 1000000000000 + R b l (cl (cl x 1000000000000000 + 1) 1000000000000000)) 1000000000000) := by
  unfold backoff_Fail.f
  have hx := cl_bd x 1000000000000000 (by omega)
  have hn := cl_bd n 1000000000000 (by omega)
  have hc : mn (mn (mx x 0) 1000000000000000 + 1) 1000000000000000 = cl (cl x 1000000000000000 + 1) 1000000000000000 := by
    show mn (cl x 1000000000000000 + 1) 1000000000000000 = mn (mx (cl x 1000000000000000 + 1) 0) 1000000000000000
    unfold mn mx; rw [if_neg (by omega : ¬ cl x 1000000000000000 + 1 < 0)]
  have hc' := cl_bd (cl x 1000000000000000 + 1) 1000000000000000 (by omega)
  rw [hc]
  generalize cl (cl x 1000000000000000 + 1) 1000000000000000 = c at *
  have hr := R_bd b l c
  have hl := cl_bd l 1000000000000 (by omega)
  rw [clampf, delay_f _ _ _ (by omega) (by omega) k hk]
  simp only [Option.bind_some]
  rw [w64 (by omega) (by omega), clampf]
  rfl

theorem lives_f (k : Nat) (hk : 65 ≤ k) : orchestratorlaw30_lives.f k = some true := by
  unfold orchestratorlaw30_lives.f
  rw [fail_f _ _ _ _ _ k hk, delay_f _ _ _ (by omega) (by omega) k hk, delay_f _ _ _ (by omega) (by omega) k hk, delay_f _ _ _ (by omega) (by omega) k hk]
  have e1 : R 10 300 1 = 10 := by decide +kernel
  have e2 : R 10 300 3 = 40 := by decide +kernel
  have e3 : R 10 300 1000000 = 300 := by
    unfold R
    rw [if_neg (by omega)]
    have h1 : cl 300 1000000000000 = 300 := by decide
    have h2 : cl 10 1000000000000 = 10 := by decide
    rw [h1, h2]
    have h3 : (1 : Int) * 18446744073709551616 ≤ 10 * 2 ^ ((1000000 : Int) - 1).toNat := Int.mul_le_mul (by omega) (big_two (by decide)) (by omega) (by omega)
    generalize (2 : Int) ^ ((1000000 : Int) - 1).toNat = z at *
    unfold mn
    rw [if_pos (by omega)]
  have e4 : cl (cl 2 1000000000000000 + 1) 1000000000000000 = 3 := by decide
  have e5 : cl (cl 100 1000000000000 + R 10 300 3) 1000000000000 = 140 := by decide +kernel
  rw [e1, e2, e3, e4, e5]
  rfl

theorem R_double (b l f : Int) (h : 1 ≤ f) : R b l (f + 1) = mn (2 * R b l f) (cl l 1000000000000) := by
  have hb := cl_bd b 1000000000000 (by omega)
  have hl := cl_bd l 1000000000000 (by omega)
  unfold R
  rw [if_neg (by omega), if_neg (by omega)]
  have e : (f + 1 - 1).toNat = (f - 1).toNat + 1 := by omega
  rw [e, Int.pow_succ, ← Int.mul_assoc]
  have := le_mul_two (cl b 1000000000000) (f - 1).toNat hb.1
  generalize cl b 1000000000000 * 2 ^ (f - 1).toNat = z at *
  unfold mn
  split <;> split <;> split <;> omega

theorem dbl_go (b l f : Int) (h0 : 1 ≤ f) (h1 : f < 1000000000000000) : orchestratorlaw30_BackoffDoubles.j0 66 b l f false = some true := by
  simp only [orchestratorlaw30_BackoffDoubles.j0]
  rw [if_neg (by simp), delay_f b l f (by omega) (by omega) _ (by omega), w64 (by omega) (by omega), delay_f b l (f + 1) (by omega) (by omega) _ (by omega), lives_f _ (by omega)]
  simp only [Option.bind_some]
  have h1 := R_bd b l f
  have hl := cl_bd l 1000000000000 (by omega)
  have e : mn (mn (wrap64 (2 * R b l f)) (mx l 0)) 1000000000000 = mn (2 * R b l f) (cl l 1000000000000) := by
    rw [w64 (by omega) (by omega)]
    unfold cl mn
    repeat' split
    all_goals omega
  rw [if_pos (by rw [e, R_double b l f h0])]

theorem dbl_stop (b l f : Int) : orchestratorlaw30_BackoffDoubles.j0 66 b l f true = some true := by
  simp only [orchestratorlaw30_BackoffDoubles.j0]
  rw [if_pos trivial, lives_f _ (by omega)]
  rfl

theorem BackoffDoubles : orchestratorlaw30_BackoffDoubles.Pure := by
  intro b l f _ _ _
  refine ⟨66, ?_⟩
  unfold orchestratorlaw30_BackoffDoubles.f
  by_cases h : f < 1
  · rw [if_pos h, dbl_stop]
  · rw [if_neg h]
    by_cases h' : f ≥ 1000000000000000
    · rw [decide_eq_true h', dbl_stop]
    · rw [decide_eq_false h', dbl_go _ _ _ (by omega) (by omega)]

end Go.Proofs.Ytppinoefogcckaa.Pure
