/- Chapter 01 in plain Lean: what Parse, Print and Resolve compute, of the program and of the reference. -/
import Derived.Test.YtjidhmklfkkckaaDoorXx
import Derived.Test.YtjidhmklfkkckaaDoorStr
namespace Go.Proofs.YtjidhmklfkkckaaDoor.X
open Go.RowKit Go.Proofs.YtjidhmklfkkckaaDoorW.PrintWords Go.Proofs.YtjidhmklfkkckaaDoorW.PrintLast Go.Proofs.YtjidhmklfkkckaaDoorW.PrintMore Go.Proofs.YtjidhmklfkkckaaDoorW.Str

/-! ### counting digits -/
theorem qdigits_l (s : ByteArray) (hs : s.size ≤ 140737488351232) : ∀ (n k i : Nat), i + n = s.size → n < k → quantity_digits.l0 k s (i : Int) = some ((i + dl ((ls s).drop i) : Nat) : Int) := by
  intro n
  induction n with
  | zero =>
    intro k i hi hk
    obtain ⟨k, rfl⟩ : ∃ m, k = m + 1 := ⟨k - 1, by omega⟩
    simp only [quantity_digits.l0]
    rw [if_neg (by omega), List.drop_eq_nil_of_le (by rw [← size_ls]; omega)]
    simp [dl]
  | succ n ih =>
    intro k i hi hk
    obtain ⟨k, rfl⟩ : ∃ m, k = m + 1 := ⟨k - 1, by omega⟩
    simp only [quantity_digits.l0]
    rw [if_pos (by omega), if_pos (by omega), drop_cons (by rw [← size_ls]; omega), bt_nat]
    have e : wrap64 ((i : Int) + 1) = ((i + 1 : Nat) : Int) := by rw [w64 (by omega) (by omega)]; push_cast; rfl
    rw [e, ih k (i + 1) (by omega) (by omega)]
    generalize (ls s).getD i 0 = c
    by_cases h1 : 48 ≤ c.toNat
    · rw [if_pos (by omega)]
      by_cases h2 : c.toNat ≤ 57
      · rw [if_pos (by omega)]
        have : dg c = true := (dg_iff c).2 ⟨h1, h2⟩
        simp [dl, this]
        omega
      · rw [if_neg (by omega)]
        have : ¬ dg c = true := fun h => h2 ((dg_iff c).1 h).2
        simp [dl, this]
    · rw [if_neg (by omega)]
      have : ¬ dg c = true := fun h => h1 ((dg_iff c).1 h).1
      simp [dl, this]
theorem qdigits (s : ByteArray) (hs : s.size ≤ 140737488351232) (k : Nat) (hk : s.size < k) : quantity_digits.f k s = some ((dl (ls s) : Nat) : Int) := by
  have := qdigits_l s hs s.size k 0 (by omega) hk
  unfold quantity_digits.f
  simpa using this
theorem rdigits_l (s : ByteArray) (hs : s.size ≤ 140737488351232) : ∀ (n k i : Nat), i + n = s.size → n < k → orchestratorref01_digits.l0 k s (i : Int) = some ((i + dl ((ls s).drop i) : Nat) : Int) := by
  intro n
  induction n with
  | zero =>
    intro k i hi hk
    obtain ⟨k, rfl⟩ : ∃ m, k = m + 1 := ⟨k - 1, by omega⟩
    simp only [orchestratorref01_digits.l0]
    rw [if_neg (by omega), List.drop_eq_nil_of_le (by rw [← size_ls]; omega)]
    simp [dl]
  | succ n ih =>
    intro k i hi hk
    obtain ⟨k, rfl⟩ : ∃ m, k = m + 1 := ⟨k - 1, by omega⟩
    simp only [orchestratorref01_digits.l0, orchestratorref01_digit.f]
    rw [if_pos (by omega), if_pos (by omega), drop_cons (by rw [← size_ls]; omega), bt_nat]
    have e : wrap64 ((i : Int) + 1) = ((i + 1 : Nat) : Int) := by rw [w64 (by omega) (by omega)]; push_cast; rfl
    rw [e, ih k (i + 1) (by omega) (by omega)]
    generalize (ls s).getD i 0 = c
    by_cases h1 : 48 ≤ c.toNat
    · rw [if_pos (by omega)]
      by_cases h2 : c.toNat ≤ 57
      · have : dg c = true := (dg_iff c).2 ⟨h1, h2⟩
        have h3 : decide ((c.toNat : Int) ≤ 57) = true := by simp; omega
        simp [dl, this, h3]
        omega
      · have : ¬ dg c = true := fun h => h2 ((dg_iff c).1 h).2
        have h3 : decide ((c.toNat : Int) ≤ 57) = false := by simp; omega
        simp [dl, this, h3]
    · rw [if_neg (by omega)]
      have : ¬ dg c = true := fun h => h1 ((dg_iff c).1 h).1
      simp [dl, this]
theorem rdigits (s : ByteArray) (hs : s.size ≤ 140737488351232) (k : Nat) (hk : s.size < k) : orchestratorref01_digits.f k s = some ((dl (ls s) : Nat) : Int) := by
  have := rdigits_l s hs s.size k 0 (by omega) hk
  unfold orchestratorref01_digits.f
  simpa using this

/-! ### the value of digits -/
theorem rnumber_l (s : ByteArray) (hs : s.size ≤ 140737488351232) : ∀ (n k i : Nat) (acc : Int), i + n = s.size → n < k → 0 ≤ acc → (∀ c ∈ (ls s).drop i, dg c = true) → (acc + 1) * 10 ^ n ≤ 1000000000000000000 →
    orchestratorref01_number.l0 k s acc (i : Int) = some (vl acc ((ls s).drop i)) := by
  intro n
  induction n with
  | zero =>
    intro k i acc hi hk h0 hd hb
    obtain ⟨k, rfl⟩ : ∃ m, k = m + 1 := ⟨k - 1, by omega⟩
    simp only [orchestratorref01_number.l0]
    rw [if_neg (by omega), List.drop_eq_nil_of_le (by rw [← size_ls]; omega)]
    rfl
  | succ n ih =>
    intro k i acc hi hk h0 hd hb
    obtain ⟨k, rfl⟩ : ∃ m, k = m + 1 := ⟨k - 1, by omega⟩
    simp only [orchestratorref01_number.l0]
    have hlt : i < (ls s).length := by rw [← size_ls]; omega
    rw [drop_cons hlt] at hd
    have hc := (dg_iff _).1 (hd ((ls s).getD i 0) (by simp))
    have hr : ∀ c ∈ (ls s).drop (i + 1), dg c = true := fun c h => hd c (by simp [h])
    rw [if_pos (by omega), if_pos (by omega), bt_nat, drop_cons hlt]
    generalize (ls s).getD i 0 = c at *
    have hp : (1 : Int) ≤ 10 ^ n := by have : (0 : Int) < 10 ^ n := Int.pow_pos (by omega); omega
    have hb' : ((acc + 1) * 10) * 10 ^ n ≤ 1000000000000000000 := by rw [Int.pow_succ] at hb; rw [Int.mul_assoc, Int.mul_comm 10]; exact hb
    have hb1 : (acc + 1) * 10 ≤ 1000000000000000000 := by
      have := Int.mul_le_mul_of_nonneg_left hp (show 0 ≤ (acc + 1) * 10 by omega)
      omega
    have e : wrap64 ((i : Int) + 1) = ((i + 1 : Nat) : Int) := by rw [w64 (by omega) (by omega)]; push_cast; rfl
    have e2 : wrap64 (wrap64 (acc * 10) + ((c.toNat : Int) - 48) % 256) = acc * 10 + ((c.toNat : Int) - 48) := by
      rw [w64 (x := acc * 10) (by omega) (by omega), w64 (by omega) (by omega)]
      omega
    rw [e, e2, ih k (i + 1) (acc * 10 + ((c.toNat : Int) - 48)) (by omega) (by omega) (by omega) hr ?_]
    · rfl
    · refine Int.le_trans (Int.mul_le_mul_of_nonneg_right ?_ (by omega)) hb'
      omega
theorem rnumber (s : ByteArray) (hd : ∀ c ∈ ls s, dg c = true) (hl : s.size ≤ 18) (k : Nat) (hk : s.size < k) : orchestratorref01_number.f k s = some (vl 0 (ls s)) := by
  unfold orchestratorref01_number.f
  have := rnumber_l s (by omega) s.size k 0 0 (by omega) hk (by omega) (by simpa using hd) (by have := ten_mono hl; omega)
  simpa using this
theorem qatoi (s : ByteArray) (hd : ∀ c ∈ ls s, dg c = true) (hl : s.size ≤ 18) (h0 : 1 ≤ s.size) : strconv_Atoi.f s = some (vl 0 (ls s), none) := by
  unfold strconv_Atoi.f
  rw [if_pos hl]
  have := atoi_vl (ls s) hd (by intro h; rw [size_ls, h] at h0; simp at h0)
  unfold ls at this
  rw [this]
  rfl

/-! ### a prefix of one byte -/
theorem cut1 (s : ByteArray) (c : UInt8) (hs : s.size ≤ 140737488351232) : strings_CutPrefix.f s ⟨#[c]⟩ = some (if (ls s).head? = some c then (s.extract 1 s.size, true) else (s, false)) := by
  unfold strings_CutPrefix.f stringslite_CutPrefix.f stringslite_HasPrefix.f
  have h1 : ((⟨#[c]⟩ : ByteArray).size : Int) = 1 := rfl
  rw [h1]
  by_cases h : 1 ≤ s.size
  · rw [if_pos (by omega), if_pos (by omega), if_pos (by omega)]
    simp only [Option.bind_some]
    have e : ((s.extract 0 (1 : Int).toNat).toList == (⟨#[c]⟩ : ByteArray).toList) = decide ((ls s).head? = some c) := by
      rw [toList_ls, toList_ls, ls_head]
      have h2 : ls (⟨#[c]⟩ : ByteArray) = [c] := rfl
      rw [h2]
      have h3 : 1 ≤ (ls s).length := by rw [← size_ls]; exact h
      cases hl : ls s with
      | nil => rw [hl] at h3; simp at h3
      | cons a r => rw [Bool.eq_iff_iff]; simp
    rw [e]
    by_cases hh : (ls s).head? = some c
    · rw [if_pos (by simpa using hh), if_pos (by omega), if_pos (by omega), if_pos hh]; rfl
    · rw [if_neg (by simpa using hh), if_neg hh]; rfl
  · rw [if_neg (by omega)]
    have : (ls s).head? ≠ some c := by
      have h3 : (ls s).length = 0 := by rw [← size_ls]; omega
      rw [List.length_eq_zero_iff.1 h3]
      simp
    rw [if_neg this]
    rfl

/-! ### what a text denotes -/
def fac (l : List UInt8) : Int :=
  if l = [] then 1 else if l = [107] then 1000 else if l = [77] then 1000000 else if l = [71] then 1000000000 else if l = [75, 105] then 1024 else if l = [77, 105] then 1048576 else if l = [71, 105] then 1073741824 else 0
theorem fac_bd (l : List UInt8) : 0 ≤ fac l ∧ fac l ≤ 1073741824 := by
  unfold fac
  repeat' split
  all_goals omega
def fin (w p : Int) (sfx : List UInt8) : Int × Int :=
  if fac sfx = 0 then (0, 2) else if w * 1000 + p > 1000000000000000 / fac sfx then (0, 5) else ((w * 1000 + p) * fac sfx, 0)
def bad (l : List UInt8) : Prop := dl l < 1 ∨ 15 < dl l ∨ (1 < dl l ∧ (l.getD 0 0).toNat = 48)
instance (l : List UInt8) : Decidable (bad l) := inferInstanceAs (Decidable (_ ∨ _))
def spec0 (l : List UInt8) : Int × Int :=
  if bad l then (0, 2)
  else if l.drop (dl l) = [109] then (vl 0 (l.take (dl l)), 0)
  else if (l.drop (dl l)).head? = some 46 then
    if dl ((l.drop (dl l)).drop 1) < 1 ∨ 3 < dl ((l.drop (dl l)).drop 1) then (0, 2)
    else fin (vl 0 (l.take (dl l))) (vl 0 ((((l.drop (dl l)).drop 1).take (dl ((l.drop (dl l)).drop 1)) ++ [48, 48]).take 3)) (((l.drop (dl l)).drop 1).drop (dl ((l.drop (dl l)).drop 1)))
  else fin (vl 0 (l.take (dl l))) 0 (l.drop (dl l))
def spec (l : List UInt8) : Int × Int := if l.head? = some 45 then (-(spec0 (l.drop 1)).1, (spec0 (l.drop 1)).2) else spec0 l

theorem fin_bd (w p : Int) (sfx : List UInt8) (h : 0 ≤ w * 1000 + p) : 0 ≤ (fin w p sfx).1 ∧ (fin w p sfx).1 ≤ 1000000000000000 := by
  unfold fin
  have hf := fac_bd sfx
  split
  · simp
  · rename_i h0
    split
    · simp
    · rename_i h1
      have h1' : w * 1000 + p ≤ 1000000000000000 / fac sfx := by omega
      have h2 : (w * 1000 + p) * fac sfx ≤ 1000000000000000 / fac sfx * fac sfx := Int.mul_le_mul_of_nonneg_right h1' hf.1
      have h3 := Int.ediv_mul_le 1000000000000000 (b := fac sfx) h0
      have h4 := Int.mul_nonneg h hf.1
      simp only
      omega
theorem take_dg (l : List UInt8) : ∀ c ∈ l.take (dl l), dg c = true := dl_take l
theorem w_bd (l : List UInt8) (h : ¬ bad l) : 0 ≤ vl 0 (l.take (dl l)) ∧ vl 0 (l.take (dl l)) < 1000000000000000 := by
  have h1 := vl_lt _ (take_dg l)
  have h2 : (l.take (dl l)).length ≤ 15 := by
    rw [List.length_take]
    unfold bad at h
    omega
  have := ten_mono h2
  omega
theorem p_bd (r : List UInt8) : 0 ≤ vl 0 ((r.take (dl r) ++ [48, 48]).take 3) ∧ vl 0 ((r.take (dl r) ++ [48, 48]).take 3) < 1000 := by
  have h0 : ∀ c ∈ (r.take (dl r) ++ [48, 48]).take 3, dg c = true := by
    intro c hc
    rcases List.mem_append.1 (List.mem_of_mem_take hc) with h | h
    · exact take_dg r c h
    · have : c = 48 := by simpa using h
      rw [this]; decide
  have h1 := vl_lt _ h0
  have h2 : ((r.take (dl r) ++ [48, 48]).take 3).length ≤ 3 := List.length_take_le _ _
  have := ten_mono h2
  omega
theorem spec0_bd (l : List UInt8) : 0 ≤ (spec0 l).1 ∧ (spec0 l).1 ≤ 1000000000000000 := by
  unfold spec0
  split
  · simp
  · rename_i hb
    have hw := w_bd l hb
    split
    · simp only; omega
    · split
      · split
        · simp
        · exact fin_bd _ _ _ (by have := p_bd ((l.drop (dl l)).drop 1); omega)
      · exact fin_bd _ _ _ (by omega)
theorem spec_bd (l : List UInt8) : -1000000000000000 ≤ (spec l).1 ∧ (spec l).1 ≤ 1000000000000000 := by
  unfold spec
  split
  · have := spec0_bd (l.drop 1); simp only; omega
  · have := spec0_bd l; omega

theorem fin_err (w p : Int) (sfx : List UInt8) (h : (fin w p sfx).2 ≠ 0) : (fin w p sfx).1 = 0 := by
  revert h
  unfold fin
  repeat' split
  all_goals simp
theorem spec0_err (l : List UInt8) (h : (spec0 l).2 ≠ 0) : (spec0 l).1 = 0 := by
  revert h
  unfold spec0
  repeat' split
  all_goals (first | exact fin_err _ _ _ | simp)
theorem spec_err (l : List UInt8) (h : (spec l).2 ≠ 0) : (spec l).1 = 0 := by
  revert h
  unfold spec
  split
  · intro h
    have := spec0_err _ h
    simp only
    omega
  · exact spec0_err _

/-! ### the reference's Parse -/
theorem rfactor (s : ByteArray) : orchestratorref01_factor.f s = some (fac (ls s)) := by
  unfold orchestratorref01_factor.f fac
  rw [toList_ls]
  repeat' split
  all_goals rfl
theorem runsigned_j2 (k : Nat) (w p : Int) (s : ByteArray) (hk : 0 < k) (hw : 0 ≤ w ∧ w < 1000000000000000) (hp : 0 ≤ p ∧ p < 1000) : orchestratorref01_unsigned.j2 k w s p = some (fin w p (ls s)) := by
  obtain ⟨k, rfl⟩ : ∃ m, k = m + 1 := ⟨k - 1, by omega⟩
  simp only [orchestratorref01_unsigned.j2]
  rw [rfactor]
  simp only [Option.bind_some]
  have hf := fac_bd (ls s)
  unfold fin
  generalize fac (ls s) = f at *
  by_cases h0 : f = 0
  · rw [if_pos h0, if_pos h0]
  · rw [if_neg h0, if_neg h0]
    have ed : Int.tdiv 1000000000000000 f = 1000000000000000 / f := Int.tdiv_eq_ediv_of_nonneg (by omega)
    have hd : 1000000000000000 / f ≤ 1000000000000000 := Int.ediv_le_self _ (by omega)
    have hd0 : 0 ≤ 1000000000000000 / f := Int.ediv_nonneg (by omega) hf.1
    rw [ed, w64 (x := 1000000000000000 / f) (by omega) (by omega), w64 (x := w * 1000) (by omega) (by omega), w64 (x := w * 1000 + p) (by omega) (by omega)]
    by_cases h1 : w > 1000000000000
    · rw [if_pos h1, if_pos (by omega)]
    · rw [if_neg h1]
      by_cases h2 : w * 1000 + p > 1000000000000000 / f
      · rw [if_pos h2, if_pos h2]
      · rw [if_neg h2, if_neg h2]
        have h3 : (w * 1000 + p) * f ≤ 1000000000000000 / f * f := Int.mul_le_mul_of_nonneg_right (by omega) hf.1
        have h4 := Int.ediv_mul_le 1000000000000000 (b := f) h0
        have h5 := Int.mul_nonneg (show 0 ≤ w * 1000 + p by omega) hf.1
        rw [w64 (by omega) (by omega)]
theorem l2_aux {s j : Nat} (h1 : 1 ≤ s) (h : j ≤ s - 1) : ((1 + j : Nat) : Int) ≤ (s : Int) := by omega
theorem l3_aux {s j : Nat} (h1 : s = j) (h : ¬ 3 < j) : s + 2 ≤ 9223372036854775807 := by omega
theorem l4_aux {t j : Nat} (h1 : t = j + 2) (h : ¬ j < 1) : (3 : Int) ≤ (t : Int) := by omega
theorem l5_aux (j : Nat) : (0 : Int) ≤ ((1 + j : Nat) : Int) := by omega
theorem l6_aux {a b k : Nat} (h1 : a ≤ 3) (h : b + 5 < k + 1) : a < k := by omega
theorem l1_aux (j : Nat) : (1 : Int) ≤ ((1 + j : Nat) : Int) := by omega
theorem len_take_dl (r : List UInt8) : (r.take (dl r)).length = dl r := by
  rw [List.length_take]; have := dl_le r; omega
theorem runsigned_j1 (k : Nat) (w : Int) (s : ByteArray) (hk : s.size + 5 < k) (hs : s.size ≤ 140737488351232) (hw : 0 ≤ w ∧ w < 1000000000000000) : orchestratorref01_unsigned.j1 k w s 0 (decide ((ls s).head? = some 46)) =
    some (if (ls s).head? = some 46 then if dl ((ls s).drop 1) < 1 ∨ 3 < dl ((ls s).drop 1) then (0, 2) else fin w (vl 0 ((((ls s).drop 1).take (dl ((ls s).drop 1)) ++ [48, 48]).take 3)) (((ls s).drop 1).drop (dl ((ls s).drop 1))) else fin w 0 (ls s)) := by
  obtain ⟨k, rfl⟩ : ∃ m, k = m + 1 := ⟨k - 1, by omega⟩
  simp only [orchestratorref01_unsigned.j1]
  by_cases h : (ls s).head? = some 46
  · rw [if_pos (by simpa using h), if_pos h]
    have h1 : 1 ≤ s.size := by
      rw [size_ls]
      cases hl : ls s with
      | nil => rw [hl] at h; simp at h
      | cons a r => simp
    rw [if_pos (by omega)]
    have hsz : (s.extract 1 s.size).size = s.size - 1 := by rw [size_ls, ls_to_end, List.length_drop, ← size_ls]
    rw [rdigits _ (by omega) k (by omega), ls_to_end]
    simp only [Option.bind_some]
    have hdl := dl_le ((ls s).drop 1)
    have hp := p_bd ((ls s).drop 1)
    have hlr := len_take_dl ((ls s).drop 1)
    have hdg := take_dg ((ls s).drop 1)
    have hsl : ((ls s).drop 1).length = s.size - 1 := by rw [List.length_drop, ← size_ls]
    generalize hj : dl ((ls s).drop 1) = j at *
    by_cases h2 : j < 1
    · rw [if_pos (by omega), if_pos (Or.inl h2)]
    · rw [if_neg (by omega)]
      by_cases h3 : 3 < j
      · rw [if_pos (by omega), if_pos (Or.inr h3)]
      · rw [if_neg (by omega), if_neg (show ¬ (j < 1 ∨ 3 < j) by omega)]
        have e1 : wrap64 (1 + (j : Int)) = ((1 + j : Nat) : Int) := by rw [w64 (by omega) (by omega)]; push_cast; rfl
        rw [e1]
        have e2 : ls (s.extract 1 ((1 + j : Nat) : Int).toNat) = ((ls s).drop 1).take j := by
          rw [Int.toNat_natCast, ls_extract, Nat.add_sub_cancel_left]
        generalize s.extract 1 ((1 + j : Nat) : Int).toNat = S at *
        have e3 : S.size = j := by rw [size_ls, e2]; exact hlr
        have h48 : ls (⟨#[48, 48]⟩ : ByteArray) = [48, 48] := rfl
        have e5 : ls ((S ++ (⟨#[48, 48]⟩ : ByteArray)).extract 0 3) = (((ls s).drop 1).take j ++ [48, 48]).take 3 := by
          rw [ls_head, ls_append, e2, h48]
        have e4 : (S ++ (⟨#[48, 48]⟩ : ByteArray)).size = j + 2 := by
          rw [size_ls, ls_append, e2, h48, List.length_append, hlr]; rfl
        generalize hT : S ++ (⟨#[48, 48]⟩ : ByteArray) = T at *
        have e6 : (T.extract 0 3).size ≤ 3 := by
          rw [size_ls, e5]; exact List.length_take_le _ _
        have e7 : ls (s.extract (1 + j) s.size) = ((ls s).drop 1).drop j := by rw [ls_to_end, List.drop_drop]
        have hn : orchestratorref01_number.f k (T.extract 0 3) = some (vl 0 ((((ls s).drop 1).take j ++ [48, 48]).take 3)) := by
          rw [rnumber _ ?_ (Nat.le_trans e6 (by decide)) k (l6_aux e6 hk), e5]
          rw [e5]
          intro c hc
          rcases List.mem_append.1 (List.mem_of_mem_take hc) with h | h
          · exact hdg c h
          · have : c = 48 := by simpa using h
            rw [this]; decide
        have l1 := l1_aux j
        have l2 := l2_aux h1 (hsl ▸ hdl)
        have l3 := l3_aux e3 h3
        have l4 := l4_aux e4 h2
        have l5 := l5_aux j
        rw [if_pos l1, if_pos l2, if_pos l3, if_pos (by decide), if_pos l4, hn]
        simp only [Option.bind_some]
        rw [if_pos l5, Int.toNat_natCast, runsigned_j2 k w _ _ (Nat.lt_of_le_of_lt (Nat.zero_le _) (l6_aux (Nat.zero_le 3) hk)) hw hp, e7]
  · rw [if_neg (by simpa using h), if_neg h, runsigned_j2 k w _ _ (by omega) hw (by omega)]
theorem head_of_bt (s : ByteArray) (c : UInt8) (h : 1 ≤ s.size) : (bt s 0 == (c.toNat : Int)) = decide ((ls s).head? = some c) := by
  rw [show (0 : Int) = ((0 : Nat) : Int) from rfl, bt_nat]
  rw [size_ls] at h
  cases hl : ls s with
  | nil => rw [hl] at h; simp at h
  | cons a r =>
    simp only [List.getD_cons_zero, List.head?_cons, Option.some.injEq]
    by_cases e : a = c
    · subst e; simp
    · have : a.toNat ≠ c.toNat := fun h => e (UInt8.toNat_inj.1 h)
      simp [e]
      omega
theorem runsigned (s : ByteArray) (hs : s.size ≤ 140737488351232) (k : Nat) (hk : s.size + 10 < k) : orchestratorref01_unsigned.f k s = some (spec0 (ls s)) := by
  unfold orchestratorref01_unsigned.f
  rw [rdigits s hs k (by omega)]
  simp only [Option.bind_some]
  have hdl := dl_le (ls s)
  rw [← size_ls] at hdl
  -- the joined test
  have key : ∀ b : Bool, (b = true ↔ bad (ls s)) → orchestratorref01_unsigned.j0 k s ((dl (ls s) : Nat) : Int) b = some (spec0 (ls s)) := by
    intro b hb
    obtain ⟨k, rfl⟩ : ∃ m, k = m + 1 := ⟨k - 1, by omega⟩
    simp only [orchestratorref01_unsigned.j0]
    unfold spec0
    by_cases h : bad (ls s)
    · rw [if_pos (hb.2 h), if_pos h]
    · rw [if_neg (fun e => h (hb.1 e)), if_neg h, if_pos (by omega), if_pos (by omega), Int.toNat_natCast]
      have hw := w_bd (ls s) h
      have h15 : dl (ls s) ≤ 15 := by unfold bad at h; omega
      have hsz : (s.extract 0 (dl (ls s))).size = dl (ls s) := by rw [size_ls, ls_head]; exact len_take_dl _
      rw [rnumber _ (by rw [ls_head]; exact take_dg _) (by omega) k (by omega), ls_head]
      simp only [Option.bind_some]
      rw [toList_ls, ls_to_end]
      have hr : ls (s.extract (dl (ls s)) s.size) = (ls s).drop (dl (ls s)) := ls_to_end _ _
      have hrs : (s.extract (dl (ls s)) s.size).size = s.size - dl (ls s) := by rw [size_ls, hr, List.length_drop, ← size_ls]
      by_cases hm : (ls s).drop (dl (ls s)) = [109]
      · rw [if_pos hm, if_pos hm, if_neg (by omega)]
      · rw [if_neg hm, if_neg hm]
        have hj1 := runsigned_j1 k (vl 0 ((ls s).take (dl (ls s)))) (s.extract (dl (ls s)) s.size) (by omega) (by omega) hw
        rw [hr] at hj1
        by_cases h1 : 1 ≤ (s.extract (dl (ls s)) s.size).size
        · rw [if_pos (by omega), if_pos (by omega)]
          have := head_of_bt (s.extract (dl (ls s)) s.size) 46 h1
          rw [hr] at this
          have e46 : (((46 : UInt8).toNat : Nat) : Int) = 46 := rfl
          rw [e46] at this
          rw [this, hj1]
        · rw [if_neg (by omega)]
          have hnil : (ls s).drop (dl (ls s)) = [] := by rw [← hr]; exact List.length_eq_zero_iff.1 (by rw [← size_ls]; omega)
          rw [hnil] at hj1 ⊢
          simp only [List.head?_nil] at hj1 ⊢
          simpa using hj1
  by_cases c1 : dl (ls s) < 1
  · rw [if_pos (by omega), key true (by simp [bad, c1])]
  · rw [if_neg (by omega)]
    by_cases c2 : 15 < dl (ls s)
    · rw [if_pos (by omega), key true (by simp [bad, c2])]
    · rw [if_neg (by omega)]
      by_cases c3 : 1 < dl (ls s)
      · rw [if_pos (by omega), if_pos (by omega)]
        refine key _ ?_
        rw [show (0 : Int) = ((0 : Nat) : Int) from rfl, bt_nat]
        unfold bad
        simp
        omega
      · rw [if_neg (by omega)]
        exact key false (by unfold bad; simp; omega)
theorem rparse (s : ByteArray) (hs : s.size ≤ 140737488351232) (k : Nat) (hk : s.size + 20 < k) : orchestratorref01_Parse.f k s = some (spec (ls s)) := by
  unfold orchestratorref01_Parse.f
  have key : orchestratorref01_Parse.j0 k s (decide ((ls s).head? = some 45)) = some (spec (ls s)) := by
    obtain ⟨k, rfl⟩ : ∃ m, k = m + 1 := ⟨k - 1, by omega⟩
    simp only [orchestratorref01_Parse.j0]
    unfold spec
    by_cases h : (ls s).head? = some 45
    · have h1 : 1 ≤ s.size := by
        rw [size_ls]
        cases hl : ls s with
        | nil => rw [hl] at h; simp at h
        | cons a r => simp
      have hsz : (s.extract 1 s.size).size = s.size - 1 := by rw [size_ls, ls_to_end, List.length_drop, ← size_ls]
      rw [if_pos (by simpa using h), if_pos h, if_pos (by omega), runsigned _ (by omega) k (by omega), ls_to_end]
      have := spec0_bd ((ls s).drop 1)
      simp only [Option.bind_some]
      rw [w64 (by omega) (by omega)]
    · rw [if_neg (by simpa using h), if_neg h, runsigned _ (by omega) k (by omega)]
      rfl
  by_cases h : 1 ≤ s.size
  · rw [if_pos (by omega), if_pos (by omega)]
    have := head_of_bt s 45 h
    have e45 : (((45 : UInt8).toNat : Nat) : Int) = 45 := rfl
    rw [e45] at this
    rw [this, key]
  · rw [if_neg (by omega)]
    have hnil : ls s = [] := List.length_eq_zero_iff.1 (by rw [← size_ls]; omega)
    rw [hnil] at key ⊢
    simpa using key
end Go.Proofs.YtjidhmklfkkckaaDoor.X
