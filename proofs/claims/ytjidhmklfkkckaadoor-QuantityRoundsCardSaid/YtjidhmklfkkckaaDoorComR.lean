/- Chapter 01 in plain Lean: Print, its round trip, Resolve, and the chapter's examples. -/
import Derived.Test.YtjidhmklfkkckaaDoorComP
namespace Go.Proofs.YtjidhmklfkkckaaDoor.X
open Go.RowKit Go.Proofs.YtjidhmklfkkckaaDoorW.PrintWords Go.Proofs.YtjidhmklfkkckaaDoorW.PrintLast Go.Proofs.YtjidhmklfkkckaaDoorW.PrintMore Go.Proofs.YtjidhmklfkkckaaDoorW.Str

def cl (n : Int) : Int := mn (mx n (-1000000000000000)) 1000000000000000
theorem cl_bd (n : Int) : -1000000000000000 ≤ cl n ∧ cl n ≤ 1000000000000000 := by
  unfold cl mn mx
  constructor <;> (repeat' split) <;> omega
theorem cl_id {n : Int} (h0 : -1000000000000000 ≤ n) (h1 : n ≤ 1000000000000000) : cl n = n := by
  unfold cl mn mx
  repeat' split
  all_goals omega
/-- The canonical text of a quantity within the limits. -/
def pl (n : Int) : List UInt8 :=
  if Int.tmod n 1000 = 0 then
    if Int.tdiv n 1000 = 0 then Lib.itoa (Int.tdiv n 1000)
    else if Int.tmod (Int.tdiv n 1000) 1000000000 = 0 then Lib.itoa (Int.tdiv (Int.tdiv n 1000) 1000000000) ++ [71]
    else if Int.tmod (Int.tdiv n 1000) 1000000 = 0 then Lib.itoa (Int.tdiv (Int.tdiv n 1000) 1000000) ++ [77]
    else if Int.tmod (Int.tdiv n 1000) 1000 = 0 then Lib.itoa (Int.tdiv (Int.tdiv n 1000) 1000) ++ [107]
    else Lib.itoa (Int.tdiv n 1000)
  else Lib.itoa n ++ [109]
def bs (l : List UInt8) : ByteArray := ⟨l.toArray⟩
theorem ls_bs (l : List UInt8) : ls (bs l) = l := rfl
theorem bs_app (a b : List UInt8) : bs (a ++ b) = bs a ++ bs b := ls_inj (by rw [ls_append]; rfl)
theorem qprint (n : Int) : quantity_Print.f n = some (bs (pl (cl n))) := by
  unfold quantity_Print.f
  have hc : mn (mx n (-1000000000000000)) 1000000000000000 = cl n := rfl
  simp only [hc]
  unfold pl
  generalize cl n = m
  repeat' (first | rfl | split)
  all_goals (rw [bs_app]; rfl)
theorem itoa_neg {q : Int} (h : q < 0) : Lib.itoa q = 45 :: Lib.itoa (-q) := by
  unfold Lib.itoa
  rw [if_pos h, if_neg (by omega)]
  congr 2
  omega
theorem itoa_nn {q : Int} (h : 0 ≤ q) : Lib.itoa q = Lib.decDigits q.toNat := by
  unfold Lib.itoa
  rw [if_neg (by omega)]
theorem pl_neg {n : Int} (h : n < 0) : pl n = 45 :: pl (-n) := by
  unfold pl
  simp only [Int.neg_tmod, Int.neg_tdiv, Int.neg_eq_zero]
  by_cases h1 : Int.tmod n 1000 = 0
  · rw [if_pos h1, if_pos h1]
    have hn : n = Int.tdiv n 1000 * 1000 := by have := Int.mul_tdiv_add_tmod n 1000; omega
    have hq : Int.tdiv n 1000 < 0 := by omega
    generalize Int.tdiv n 1000 = q at *
    have hq' : ¬ q = 0 := by omega
    rw [if_neg hq', if_neg hq']
    have key : ∀ f : Int, 0 < f → Int.tmod q f = 0 → Int.tdiv q f < 0 := by
      intro f hf h2
      have h3 := Int.mul_tdiv_add_tmod q f
      rw [h2] at h3
      rcases Int.lt_or_le (Int.tdiv q f) 0 with h4 | h4
      · exact h4
      · exfalso
        have := Int.mul_nonneg (Int.le_of_lt hf) h4
        omega
    by_cases g : Int.tmod q 1000000000 = 0
    · rw [if_pos g, if_pos g, itoa_neg (key _ (by omega) g)]; rfl
    · rw [if_neg g, if_neg g]
      by_cases m : Int.tmod q 1000000 = 0
      · rw [if_pos m, if_pos m, itoa_neg (key _ (by omega) m)]; rfl
      · rw [if_neg m, if_neg m]
        by_cases k : Int.tmod q 1000 = 0
        · rw [if_pos k, if_pos k, itoa_neg (key _ (by omega) k)]; rfl
        · rw [if_neg k, if_neg k, itoa_neg hq]
  · rw [if_neg h1, if_neg h1, itoa_neg h]; rfl

/-! ### the reference's Print -/
theorem strOf1 (n : Int) (h0 : 0 ≤ n) (h1 : n < 10) : ls (strOfNums [(wrap64 (48 + n)) % 256]) = [UInt8.ofNat (48 + n.toNat)] := by
  rw [w64 (by omega) (by omega)]
  unfold ls
  rw [strOfNums_data]
  simp only [List.map_cons, List.map_nil]
  congr 2
  omega
theorem tmod10 (n : Nat) : Int.tmod (n : Int) 10 = ((n % 10 : Nat) : Int) := by rw [Int.tmod_eq_emod_of_nonneg (by omega)]; omega
theorem tdiv10 (n : Nat) : Int.tdiv (n : Int) 10 = ((n / 10 : Nat) : Int) := by rw [Int.tdiv_eq_ediv_of_nonneg (by omega)]; omega
theorem rtext_l : ∀ (m k n : Nat) (X : ByteArray) (T : List UInt8), n < 10 ^ (m + 1) → n ≤ 1000000000000000 → m < k → ls X = [UInt8.ofNat (48 + n % 10)] ++ T → T.length + m ≤ 1000 → orchestratorref01_text.l0 k (n : Int) X = some (bs (Lib.decDigits n ++ T)) := by
  intro m
  induction m with
  | zero =>
    intro k n X T hn hb hk hX hT
    obtain ⟨k, rfl⟩ : ∃ m, k = m + 1 := ⟨k - 1, by omega⟩
    simp only [orchestratorref01_text.l0]
    have h10 : n < 10 := by simpa using hn
    rw [if_neg (by omega), Lib.decDigits, dif_pos h10]
    congr 1
    refine ls_inj ?_
    rw [hX, ls_bs, Nat.mod_eq_of_lt h10]
  | succ m ih =>
    intro k n X T hn hb hk hX hT
    obtain ⟨k, rfl⟩ : ∃ m, k = m + 1 := ⟨k - 1, by omega⟩
    simp only [orchestratorref01_text.l0]
    by_cases h10 : n < 10
    · rw [if_neg (by omega), Lib.decDigits, dif_pos h10]
      congr 1
      refine ls_inj ?_
      rw [hX, ls_bs, Nat.mod_eq_of_lt h10]
    · rw [if_pos (by omega), tdiv10, w64 (x := ((n / 10 : Nat) : Int)) (by omega) (by omega)]
      simp only [Option.bind_some]
      rw [tmod10]
      have hs := strOf1 ((n / 10 % 10 : Nat) : Int) (by omega) (by omega)
      rw [Int.toNat_natCast] at hs
      generalize strOfNums [(wrap64 (48 + ((n / 10 % 10 : Nat) : Int))) % 256] = S at hs ⊢
      have hS : S.size = 1 := by rw [size_ls, hs]; rfl
      have hXs : X.size = T.length + 1 := by rw [size_ls, hX]; simp
      have hle : S.size + X.size ≤ 9223372036854775807 := by rw [hS, hXs]; omega
      rw [if_pos hle, ih k (n / 10) (S ++ X) (UInt8.ofNat (48 + n % 10) :: T) (by rw [Nat.pow_succ] at hn; omega) (by omega) (by omega) (by rw [ls_append, hs, hX]; rfl) (by simp; omega)]
      congr 2
      rw [dec_ten h10, List.append_assoc]
      rfl
theorem rtext (n : Int) (h0 : 0 ≤ n) (h1 : n ≤ 1000000000000000) (k : Nat) (hk : 16 < k) : orchestratorref01_text.f k n = some (bs (Lib.itoa n)) := by
  obtain ⟨m, rfl⟩ : ∃ m : Nat, n = m := ⟨n.toNat, by omega⟩
  unfold orchestratorref01_text.f
  rw [tmod10]
  have hs := strOf1 ((m % 10 : Nat) : Int) (by omega) (by omega)
  rw [Int.toNat_natCast] at hs
  have hp : m < 10 ^ (15 + 1) := by omega
  rw [rtext_l 15 k m _ [] hp (by omega) (by omega) (by rw [hs]; rfl) (by simp), List.append_nil, itoa_nn (by omega), Int.toNat_natCast]
theorem rtail {t : ByteArray} {l : List UInt8} (c : UInt8) (h : t = bs l) (hl : t.size ≤ 100) : (if t.size + 1 ≤ 9223372036854775807 then some (t ++ (⟨#[c]⟩ : ByteArray)) else none) = some (bs (l ++ [c])) := by
  rw [if_pos (by omega), bs_app, h]
  rfl
theorem bs_itoa_size (n : Int) (h0 : 0 ≤ n) (h1 : n ≤ 1000000000000000) : (bs (Lib.itoa n)).size ≤ 21 := Lib.itoa_length_le n (by omega) (by omega)
theorem rprint_nn (n : Int) (h0 : 0 ≤ n) (h1 : n ≤ 1000000000000000) (k : Nat) (hk : 20 < k) : orchestratorref01_Print.f k n = some (bs (pl n)) := by
  obtain ⟨k, rfl⟩ : ∃ m, k = m + 1 := ⟨k - 1, by omega⟩
  simp only [orchestratorref01_Print.f]
  have hc : mn (mx n (-1000000000000000)) 1000000000000000 = n := cl_id (by omega) h1
  rw [hc, if_neg (by omega)]
  unfold pl
  have tm : ∀ f : Int, 0 < f → Int.tmod n f = n % f := fun f _ => Int.tmod_eq_emod_of_nonneg h0
  by_cases h : Int.tmod n 1000 = 0
  · rw [if_pos h, if_pos h]
    have hq : Int.tdiv n 1000 = n / 1000 := Int.tdiv_eq_ediv_of_nonneg h0
    have hq0 : 0 ≤ Int.tdiv n 1000 := by omega
    have hq1 : Int.tdiv n 1000 ≤ 1000000000000 := by omega
    generalize Int.tdiv n 1000 = q at *
    by_cases hz : q = 0
    · rw [if_pos hz, if_pos hz, hz]
      have : Lib.itoa 0 = [48] := by rw [itoa_nn (by omega), Lib.decDigits]; simp
      rw [this]; rfl
    · rw [if_neg hz, if_neg hz]
      have hd : ∀ f : Int, 0 < f → 0 ≤ Int.tdiv q f ∧ Int.tdiv q f ≤ 1000000000000 := fun f hf => by
        rw [Int.tdiv_eq_ediv_of_nonneg hq0]
        exact ⟨Int.ediv_nonneg hq0 (by omega), Int.le_trans (Int.ediv_le_self _ hq0) hq1⟩
      have step : ∀ (f : Int) (c : UInt8), 0 < f → ((orchestratorref01_text.f k (wrap64 (Int.tdiv q f))).bind fun t => if t.size + 1 ≤ 9223372036854775807 then some (t ++ (⟨#[c]⟩ : ByteArray)) else none) = some (bs (Lib.itoa (Int.tdiv q f) ++ [c])) := by
        intro f c hf
        have := hd f hf
        rw [w64 (by omega) (by omega), rtext _ (by omega) (by omega) k (by omega)]
        exact rtail c rfl (Nat.le_trans (bs_itoa_size _ (by omega) (by omega)) (by decide))
      by_cases g : Int.tmod q 1000000000 = 0
      · rw [if_pos g, if_pos g]; exact step _ _ (by omega)
      · rw [if_neg g, if_neg g]
        by_cases g : Int.tmod q 1000000 = 0
        · rw [if_pos g, if_pos g]; exact step _ _ (by omega)
        · rw [if_neg g, if_neg g]
          by_cases g : Int.tmod q 1000 = 0
          · rw [if_pos g, if_pos g]; exact step _ _ (by omega)
          · rw [if_neg g, if_neg g, rtext _ (by omega) (by omega) k (by omega)]
            rfl
  · rw [if_neg h, if_neg h, rtext _ (by omega) (by omega) k (by omega)]
    exact rtail 109 rfl (Nat.le_trans (bs_itoa_size _ (by omega) (by omega)) (by decide))
theorem pl_size (n : Int) (h0 : 0 ≤ n) (h1 : n ≤ 1000000000000000) : (bs (pl n)).size ≤ 22 := by
  have hq : Int.tdiv n 1000 = n / 1000 := Int.tdiv_eq_ediv_of_nonneg h0
  have hq0 : 0 ≤ Int.tdiv n 1000 := by omega
  have hq1 : Int.tdiv n 1000 ≤ 1000000000000 := by omega
  have hd : ∀ f : Int, 0 < f → 0 ≤ Int.tdiv (Int.tdiv n 1000) f ∧ Int.tdiv (Int.tdiv n 1000) f ≤ 1000000000000 := fun f hf => by
    rw [Int.tdiv_eq_ediv_of_nonneg hq0]
    exact ⟨Int.ediv_nonneg hq0 (by omega), Int.le_trans (Int.ediv_le_self _ hq0) hq1⟩
  have e : ∀ q : Int, 0 ≤ q → q ≤ 1000000000000000 → (Lib.itoa q).length ≤ 21 := fun q a b => Lib.itoa_length_le q (by omega) (by omega)
  rw [size_ls, ls_bs]
  unfold pl
  have d1 := hd 1000000000 (by omega)
  have d2 := hd 1000000 (by omega)
  have d3 := hd 1000 (by omega)
  have e0 := e _ hq0 (by omega)
  have e1 := e _ d1.1 (by omega)
  have e2 := e _ d2.1 (by omega)
  have e3 := e _ d3.1 (by omega)
  have e4 := e n h0 h1
  repeat' split
  all_goals (first | (rw [List.length_append]; simp only [List.length_cons, List.length_nil]; omega) | omega)
theorem rprint (n : Int) (k : Nat) (hk : 21 < k) : orchestratorref01_Print.f k n = some (bs (pl (cl n))) := by
  have hb := cl_bd n
  by_cases h : cl n < 0
  · obtain ⟨k, rfl⟩ : ∃ m, k = m + 1 := ⟨k - 1, by omega⟩
    simp only [orchestratorref01_Print.f]
    change (if cl n < 0 then (orchestratorref01_Print.f k (-cl n)).bind _ else _) = _
    rw [if_pos h, rprint_nn (-cl n) (by omega) (by omega) k (by omega)]
    simp only [Option.bind_some]
    have hs := pl_size (-cl n) (by omega) (by omega)
    have hl : 1 + (bs (pl (-cl n))).size ≤ 9223372036854775807 := by
      generalize (bs (pl (-cl n))).size = z at *
      omega
    rw [if_pos hl, pl_neg h]
    congr 1
  · have h2 : orchestratorref01_Print.f k n = orchestratorref01_Print.f k (cl n) := by
      obtain ⟨k, rfl⟩ : ∃ m, k = m + 1 := ⟨k - 1, by omega⟩
      simp only [orchestratorref01_Print.f]
      have : mn (mx (cl n) (-1000000000000000)) 1000000000000000 = mn (mx n (-1000000000000000)) 1000000000000000 := cl_id hb.1 hb.2
      rw [this]
    rw [h2]
    exact rprint_nn _ (by omega) hb.2 k (by omega)

/-! ### the round trip -/
theorem spec0_dec (u : Nat) (sfx : List UInt8) (hu : u < 1000000000000000) (hs : ∀ c, sfx.head? = some c → dg c = false) (hd : sfx.head? ≠ some 46) :
    spec0 (Lib.decDigits u ++ sfx) = if sfx = [109] then ((u : Int), 0) else fin u 0 sfx := by
  have e := dl_all (dec_dg u) sfx hs
  have hl : (Lib.decDigits u).length ≤ 15 := dec_len 14 u (by simpa using hu)
  have hne := dec_ne u
  have hb : ¬ bad (Lib.decDigits u ++ sfx) := by
    unfold bad
    rw [e]
    have h1 : 1 ≤ (Lib.decDigits u).length := by cases hh : Lib.decDigits u with
      | nil => exact absurd hh hne
      | cons a b => simp
    rintro (h | h | ⟨h, h2⟩)
    · omega
    · omega
    · by_cases hz : u = 0
      · subst hz
        rw [Lib.decDigits] at h
        simp at h
      · have := dec_head u (by omega)
        cases hh : Lib.decDigits u with
        | nil => exact hne hh
        | cons a b =>
          rw [hh] at this h2
          exact this a rfl h2
  unfold spec0
  rw [if_neg hb, e, List.drop_append_of_le_length (Nat.le_refl _), List.drop_length, List.nil_append, List.take_append_of_le_length (Nat.le_refl _), List.take_length, dec_vl, if_neg hd]
theorem fin_ok (u : Int) (sfx : List UInt8) (f : Int) (hf : fac sfx = f) (h1 : 1 ≤ f) (h2 : u * 1000 * f ≤ 1000000000000000) : fin u 0 sfx = (u * 1000 * f, 0) := by
  unfold fin
  rw [hf, if_neg (by omega), Int.add_zero, if_neg]
  have := (Int.le_ediv_iff_mul_le (show 0 < f by omega)).2 h2
  omega
theorem spec0_pl (n : Int) (h0 : 0 ≤ n) (h1 : n ≤ 1000000000000000) : spec0 (pl n) = (n, 0) := by
  unfold pl
  by_cases h : Int.tmod n 1000 = 0
  · rw [if_pos h]
    have hn : n = 1000 * Int.tdiv n 1000 := by have := Int.mul_tdiv_add_tmod n 1000; omega
    generalize Int.tdiv n 1000 = q at *
    have key : ∀ (f : Int) (sfx : List UInt8), fac sfx = f → 1 ≤ f → f ≤ 1073741824 → sfx ≠ [109] → (∀ c, sfx.head? = some c → dg c = false) → sfx.head? ≠ some 46 → Int.tmod q f = 0 → spec0 (Lib.itoa (Int.tdiv q f) ++ sfx) = (n, 0) := by
      intro f sfx hf f1 f2 hm hs hd hz
      have h3 := Int.mul_tdiv_add_tmod q f
      rw [hz, Int.add_zero] at h3
      have h4 : 0 ≤ Int.tdiv q f := by rw [Int.tdiv_eq_ediv_of_nonneg (by omega)]; exact Int.ediv_nonneg (by omega) (by omega)
      have h5 : Int.tdiv q f ≤ q := by rw [Int.tdiv_eq_ediv_of_nonneg (by omega)]; exact Int.ediv_le_self _ (by omega)
      generalize Int.tdiv q f = v at *
      obtain ⟨v, rfl⟩ : ∃ m : Nat, v = m := ⟨v.toNat, by omega⟩
      have e : (v : Int) * 1000 * f = n := by rw [Int.mul_right_comm, Int.mul_comm (v : Int) f, h3]; omega
      rw [itoa_nn h4, Int.toNat_natCast, spec0_dec v sfx (by omega) hs hd, if_neg hm, fin_ok v sfx f hf f1 (by omega), e]
    have k1 := key 1 [] rfl (by omega) (by omega) (by decide) (by intro c hc; simp at hc) (by simp) (by rw [Int.tmod_one])
    rw [List.append_nil, Int.tdiv_one] at k1
    have hh : ∀ a : UInt8, dg a = false → ∀ c, ([a] : List UInt8).head? = some c → dg c = false := by
      intro a ha c hc
      rw [← Option.some.inj hc]
      exact ha
    by_cases hz : q = 0
    · rw [if_pos hz]; exact k1
    · rw [if_neg hz]
      by_cases g : Int.tmod q 1000000000 = 0
      · rw [if_pos g]; exact key _ [71] rfl (by omega) (by omega) (by decide) (hh _ (by decide)) (by decide) g
      · rw [if_neg g]
        by_cases g : Int.tmod q 1000000 = 0
        · rw [if_pos g]; exact key _ [77] rfl (by omega) (by omega) (by decide) (hh _ (by decide)) (by decide) g
        · rw [if_neg g]
          by_cases g : Int.tmod q 1000 = 0
          · rw [if_pos g]; exact key _ [107] rfl (by omega) (by omega) (by decide) (hh _ (by decide)) (by decide) g
          · rw [if_neg g]; exact k1
  · rw [if_neg h]
    obtain ⟨v, rfl⟩ : ∃ m : Nat, n = m := ⟨n.toNat, by omega⟩
    have : (v : Int) ≠ 1000000000000000 := by intro e; rw [e] at h; exact h (by decide)
    rw [itoa_nn h0, Int.toNat_natCast, spec0_dec v [109] (by omega) (by intro c hc; rw [← Option.some.inj hc]; decide) (by decide), if_pos rfl]
theorem itoa_head (q : Int) (h : 0 ≤ q) (r : List UInt8) : (Lib.itoa q ++ r).head? ≠ some 45 := by
  rw [itoa_nn h]
  cases hh : Lib.decDigits q.toNat with
  | nil => exact absurd hh (dec_ne _)
  | cons a b =>
    intro e
    have ha : dg a = true := dec_dg q.toNat a (by rw [hh]; simp)
    have : a = 45 := Option.some.inj e
    rw [this] at ha
    exact absurd ha (by decide)
theorem pl_head (n : Int) (h0 : 0 ≤ n) : (pl n).head? ≠ some 45 := by
  have hq0 : 0 ≤ Int.tdiv n 1000 := by rw [Int.tdiv_eq_ediv_of_nonneg h0]; omega
  have hd : ∀ f : Int, 0 < f → 0 ≤ Int.tdiv (Int.tdiv n 1000) f := fun f hf => by
    rw [Int.tdiv_eq_ediv_of_nonneg hq0]
    exact Int.ediv_nonneg hq0 (by omega)
  have k0 := itoa_head _ hq0 []
  rw [List.append_nil] at k0
  unfold pl
  repeat' split
  all_goals (first | exact k0 | exact itoa_head _ (hd _ (by omega)) _ | exact itoa_head _ h0 _)
theorem spec_pl (n : Int) (h0 : -1000000000000000 ≤ n) (h1 : n ≤ 1000000000000000) : spec (pl n) = (n, 0) := by
  unfold spec
  by_cases h : n < 0
  · rw [pl_neg h, if_pos (show (45 :: pl (-n)).head? = some 45 from rfl), List.drop_one, List.tail_cons, spec0_pl (-n) (by omega) (by omega)]
    simp
  · rw [if_neg (pl_head n (by omega)), spec0_pl n (by omega) h1]
theorem pl_len (n : Int) (h0 : -1000000000000000 ≤ n) (h1 : n ≤ 1000000000000000) : (bs (pl n)).size ≤ 23 := by
  by_cases h : n < 0
  · have := pl_size (-n) (by omega) (by omega)
    rw [pl_neg h]
    rw [size_ls, ls_bs] at this ⊢
    simp
    omega
  · have := pl_size n (by omega) h1
    omega
theorem pl_inj {a b : Int} (ha : -1000000000000000 ≤ a ∧ a ≤ 1000000000000000) (hb : -1000000000000000 ≤ b ∧ b ≤ 1000000000000000) (h : pl a = pl b) : a = b := by
  have h1 := spec_pl a ha.1 ha.2
  have h2 := spec_pl b hb.1 hb.2
  rw [h, h2] at h1
  exact (Prod.mk.inj h1).1.symm

/-! ### Resolve -/
def clz (n : Int) : Int := mn (mx n 0) 1000000000000000
theorem clz_bd (n : Int) : 0 ≤ clz n ∧ clz n ≤ 1000000000000000 := by
  unfold clz mn mx
  constructor <;> (repeat' split) <;> omega
theorem clz_mono {a b : Int} (h : a ≤ b) : clz a ≤ clz b := by
  unfold clz mn mx
  repeat' split
  all_goals omega
def up99 (up : Bool) : Int := if up = true then 99 else 0
def res (p : Bool) (n t : Int) (up : Bool) : Int := if p = true then mn ((clz t * clz n + up99 up) / 100) 1000000000000000 else clz n
theorem rj0_eq (k : Nat) (a : Bool) (b c d : Int) (e : Bool) : orchestratorref01_Resolve.j0 k a b c d e = quantity_Resolve.j0 k a b c d e := by
  cases k <;> rfl
theorem rresolve_eq (k : Nat) (p : Bool) (n t : Int) (up : Bool) : orchestratorref01_Resolve.f k p n t up = quantity_Resolve.f k p n t up := by
  unfold orchestratorref01_Resolve.f quantity_Resolve.f orchestratorref01_Clamp.f quantity_clamp.f
  simp only [Option.bind_some, rj0_eq]
theorem qres_j0 (k : Nat) (up : Bool) (n w r : Int) (hn : 0 ≤ n ∧ n ≤ 1000000000000000) (hw : 0 ≤ w ∧ w ≤ 10000000000000) (hr : 0 ≤ r ∧ r < 100) (b : Bool) (hb : b = true ↔ (0 < w ∧ n > 1000000000000000 / w)) :
    quantity_Resolve.j0 (k + 1) up n w r b = some (mn (((w * 100 + r) * n + up99 up) / 100) 1000000000000000) := by
  simp only [quantity_Resolve.j0]
  have e1 : (w * 100 + r) * n = 100 * (w * n) + r * n := by rw [Int.add_mul, Int.mul_comm w 100, Int.mul_assoc]
  have hrn : 0 ≤ r * n := Int.mul_nonneg hr.1 hn.1
  have hrn1 : r * n ≤ 99 * n := Int.mul_le_mul_of_nonneg_right (by omega) hn.1
  have hwn : 0 ≤ w * n := Int.mul_nonneg hw.1 hn.1
  by_cases h : 0 < w ∧ n > 1000000000000000 / w
  · rw [if_pos (hb.2 h)]
    have h2 : w * n > 1000000000000000 := by
      rcases Int.lt_or_le 1000000000000000 (w * n) with h3 | h3
      · exact h3
      · exfalso
        have := (Int.le_ediv_iff_mul_le h.1).2 (by rw [Int.mul_comm]; exact h3)
        omega
    rw [e1]
    generalize w * n = x at *
    generalize r * n = y at *
    have : up99 up = 99 ∨ up99 up = 0 := by unfold up99; split <;> simp
    congr 1
    unfold mn
    split <;> omega
  · rw [if_neg (fun e => h (hb.1 e))]
    have h2 : w * n ≤ 1000000000000000 := by
      rcases Int.lt_or_le 0 w with h3 | h3
      · have h4 : n ≤ 1000000000000000 / w := by omega
        have := (Int.le_ediv_iff_mul_le h3).1 h4
        rw [Int.mul_comm] at this
        exact this
      · have : w = 0 := by omega
        rw [this]; omega
    rw [e1]
    generalize w * n = x at *
    generalize r * n = y at *
    rw [w64 (x := x) (by omega) (by omega), w64 (x := y) (by omega) (by omega), w64 (x := y + 99) (by omega) (by omega)]
    have t1 : Int.tdiv (y + 99) 100 = (y + 99) / 100 := Int.tdiv_eq_ediv_of_nonneg (by omega)
    have t2 : Int.tdiv y 100 = y / 100 := Int.tdiv_eq_ediv_of_nonneg (by omega)
    rw [t1, t2, w64 (x := (y + 99) / 100) (by omega) (by omega), w64 (x := y / 100) (by omega) (by omega), w64 (x := x + (y + 99) / 100) (by omega) (by omega), w64 (x := x + y / 100) (by omega) (by omega)]
    cases up
    · have : x + y / 100 = (100 * x + y + up99 false) / 100 := by unfold up99; simp; omega
      rw [this]; rfl
    · have : x + (y + 99) / 100 = (100 * x + y + up99 true) / 100 := by unfold up99; simp; omega
      rw [this]; rfl
theorem qresolve (k : Nat) (p : Bool) (n t : Int) (up : Bool) : quantity_Resolve.f (k + 1) p n t up = some (res p n t up) := by
  unfold quantity_Resolve.f quantity_clamp.f
  simp only [Option.bind_some]
  change (if p = true then if wrap64 (Int.tdiv (clz t) 100) > 0 then if wrap64 (Int.tdiv (clz t) 100) = 0 then none else quantity_Resolve.j0 (k + 1) up (clz n) (wrap64 (Int.tdiv (clz t) 100)) (Int.tmod (clz t) 100) (decide (clz n > wrap64 (Int.tdiv (1000000000000000 : Int) (wrap64 (Int.tdiv (clz t) 100))))) else quantity_Resolve.j0 (k + 1) up (clz n) (wrap64 (Int.tdiv (clz t) 100)) (Int.tmod (clz t) 100) false else some (clz n)) = _
  unfold res
  cases p with
  | false => rfl
  | true =>
    have ht := clz_bd t
    have hn := clz_bd n
    generalize clz t = T at *
    generalize clz n = N at *
    have t1 : Int.tdiv T 100 = T / 100 := Int.tdiv_eq_ediv_of_nonneg ht.1
    have t2 : Int.tmod T 100 = T % 100 := Int.tmod_eq_emod_of_nonneg ht.1
    rw [if_pos rfl, if_pos rfl, t1, t2, w64 (x := T / 100) (by omega) (by omega)]
    have hT : T = T / 100 * 100 + T % 100 := by omega
    have hw : 0 ≤ T / 100 ∧ T / 100 ≤ 10000000000000 := by omega
    have hr : 0 ≤ T % 100 ∧ T % 100 < 100 := by omega
    conv => rhs; rw [hT]
    generalize T / 100 = w at *
    generalize T % 100 = r at *
    by_cases h : w > 0
    · rw [if_pos h, if_neg (by omega)]
      have t3 : Int.tdiv (1000000000000000 : Int) w = 1000000000000000 / w := Int.tdiv_eq_ediv_of_nonneg (by omega)
      have h3 : 1000000000000000 / w ≤ 1000000000000000 := Int.ediv_le_self _ (by omega)
      have h4 : 0 ≤ 1000000000000000 / w := Int.ediv_nonneg (by omega) (by omega)
      rw [t3, w64 (x := 1000000000000000 / w) (by omega) (by omega)]
      refine qres_j0 k up N w r hn hw hr _ ?_
      rw [decide_eq_true_iff]
      exact ⟨fun e => ⟨h, e⟩, fun e => e.2⟩
    · rw [if_neg h]
      exact qres_j0 k up N w r hn hw hr _ ⟨fun e => (by cases e), fun e => absurd e.1 h⟩

/-! ### the chapter's examples -/
theorem awake_ok (k : Nat) (hk : 40 < k) : orchestratorlaw01_awake.f k = some true := by
  unfold orchestratorlaw01_awake.f
  have s1 : spec (ls (⟨#[49, 46, 53, 75, 105]⟩ : ByteArray)) = (1536000, 0) := by decide
  have s2 : spec (ls (⟨#[49, 48, 48, 49, 71]⟩ : ByteArray)) = (0, 5) := by decide
  have s3 : spec (ls (⟨#[48, 49]⟩ : ByteArray)) = (0, 2) := by decide
  have z1 : (⟨#[49, 46, 53, 75, 105]⟩ : ByteArray).size = 5 := rfl
  have z2 : (⟨#[49, 48, 48, 49, 71]⟩ : ByteArray).size = 5 := rfl
  have z3 : (⟨#[48, 49]⟩ : ByteArray).size = 2 := rfl
  rw [qparse _ (by rw [z1]; decide) k (by rw [z1]; omega), qparse _ (by rw [z2]; decide) k (by rw [z2]; omega), qparse _ (by rw [z3]; decide) k (by rw [z3]; omega), s1, s2, s3]
  simp only [Option.bind_some, if_true]
  rw [qprint, qprint]
  have p1 : pl (cl 250) = [50, 53, 48, 109] := by
    rw [cl_id (by omega) (by omega)]
    unfold pl
    rw [if_neg (by decide), itoa_nn (by omega)]
    simp [Lib.decDigits]
  have p2 : pl (cl 3000000) = [51, 107] := by
    rw [cl_id (by omega) (by omega)]
    unfold pl
    rw [if_pos (by decide), if_neg (by decide), if_neg (by decide), if_neg (by decide), if_pos (by decide), itoa_nn (by decide)]
    have : (Int.tdiv (Int.tdiv 3000000 1000) 1000).toNat = 3 := by decide
    rw [this]
    simp [Lib.decDigits]
  obtain ⟨k, rfl⟩ : ∃ m, k = m + 1 := ⟨k - 1, by omega⟩
  rw [p1, p2, qresolve, qresolve]
  simp only [Option.bind_some]
  rw [toList_ls, ls_bs, toList_ls, ls_bs, if_pos rfl, if_pos rfl, if_pos (by decide)]
  rfl
end Go.Proofs.YtjidhmklfkkckaaDoor.X
