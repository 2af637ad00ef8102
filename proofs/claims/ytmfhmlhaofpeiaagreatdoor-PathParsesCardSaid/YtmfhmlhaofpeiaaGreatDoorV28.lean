/- Parse: the spec; one step; the reference's Parse. -/
import Derived.Test.YtmfhmlhaofpeiaaGreatDoorV27
namespace Go.Proofs.YtmfhmlhaofpeiaaGreatDoor.Ev
open Go Go.RowKit
set_option linter.unusedSimpArgs false
set_option linter.unusedVariables false
set_option maxRecDepth 100000

/-- A field step: a name, not empty. -/
def fdL (u : List UInt8) : Option (XStep × List UInt8) := if nmL u = 0 then none else some (⟨1, u.take (nmL u), 0, []⟩, u.drop (nmL u))
/-- The step with which a text, not empty, begins. -/
def stL (first : Bool) : List UInt8 → Option (XStep × List UInt8)
  | [] => none
  | c :: r => if c.toNat = 91 then brL r else if first = true then fdL (c :: r) else if c.toNat = 46 then fdL r else none
def parA : Nat → List XStep → List UInt8 → Option (List XStep)
  | _, acc, [] => some acc
  | 0, _, _ :: _ => none
  | n + 1, acc, c :: r => match stL acc.isEmpty (c :: r) with
    | none => none
    | some p => parA n (acc ++ [p.1]) p.2
theorem stL_c (b : Bool) (c : UInt8) (r : List UInt8) : stL b (c :: r) = if c.toNat = 91 then brL r else if b = true then fdL (c :: r) else if c.toNat = 46 then fdL r else none := rfl
theorem parA_c (n : Nat) (acc : List XStep) (c : UInt8) (r : List UInt8) : parA (n + 1) acc (c :: r) = match stL acc.isEmpty (c :: r) with
    | none => none
    | some p => parA n (acc ++ [p.1]) p.2 := rfl
theorem parA_nil (n : Nat) (acc : List XStep) : parA n acc [] = some acc := by cases n <;> rfl
theorem fdL_ok {u r : List UInt8} {x : XStep} (hl : u.length ≤ 140737488351232) (h : fdL u = some (x, r)) : r.length < u.length ∧ okXStep x := by
  unfold fdL at h
  split at h
  · cases h
  · rename_i h0
    have := nmL_le u
    injection h with h; injection h with h1 h2; subst h1; subst h2
    refine ⟨by rw [List.length_drop]; omega, okI (by show (-1000 : Int) ≤ 1; omega) (by show (1 : Int) ≤ 1000; omega), ?_, okI (by show (-1000 : Int) ≤ 0; omega) (by show (0 : Int) ≤ 1000; omega), Nat.zero_le _⟩
    show (u.take (nmL u)).length ≤ _
    rw [List.length_take]; omega
theorem stL_ok {t r : List UInt8} {b : Bool} {x : XStep} (hl : t.length ≤ 140737488351232) (h : stL b t = some (x, r)) : r.length < t.length ∧ okXStep x := by
  cases t with
  | nil => cases h
  | cons c t =>
    rw [List.length_cons] at hl
    rw [stL_c] at h
    split at h
    · have := brL_ok (by omega) h; exact ⟨by rw [List.length_cons]; omega, this.2⟩
    · split at h
      · exact fdL_ok (by rw [List.length_cons]; omega) h
      · split at h
        · have := fdL_ok (by omega) h; exact ⟨by rw [List.length_cons]; omega, this.2⟩
        · cases h
theorem parA_fuel (n : Nat) : ∀ (m : Nat) (acc : List XStep) (t : List UInt8), t.length ≤ 140737488351232 → t.length ≤ n → t.length ≤ m → parA n acc t = parA m acc t := by
  induction n with
  | zero =>
    intro m acc t hl hn hm
    obtain rfl : t = [] := List.eq_nil_of_length_eq_zero (by omega)
    cases m <;> rfl
  | succ n ih =>
    intro m acc t hl hn hm
    cases t with
    | nil => cases m <;> rfl
    | cons c r =>
      cases m with
      | zero => rw [List.length_cons] at hm; omega
      | succ m =>
        rw [parA_c, parA_c]
        cases h : stL acc.isEmpty (c :: r) with
        | none => rfl
        | some p =>
          have h1 := (stL_ok (x := p.1) (r := p.2) hl h).1
          simp only [List.length_cons] at h1 hn hm hl
          exact ih m _ _ (by omega) (by omega) (by omega)
theorem par_some {acc : List XStep} {t r : List UInt8} {x : XStep} (hl : t.length ≤ 140737488351232) (h : stL acc.isEmpty t = some (x, r)) : parA t.length acc t = parA r.length (acc ++ [x]) r := by
  cases t with
  | nil => cases h
  | cons c t =>
    have h1 := (stL_ok hl h).1
    rw [List.length_cons] at h1 ⊢
    rw [parA_c, h]
    rw [List.length_cons] at hl
    exact parA_fuel t.length r.length (acc ++ [x]) r (by omega) (by omega) (Nat.le_refl _)
theorem par_none {acc : List XStep} {t : List UInt8} (hne : t ≠ []) (h : stL acc.isEmpty t = none) : parA t.length acc t = none := by
  cases t with
  | nil => exact absurd rfl hne
  | cons c t => rw [List.length_cons, parA_c, h]
def paL (s : List UInt8) : Option (List XStep) := parA s.length [] s
def paR (s : List UInt8) : AV := if 20000 < s.length then .tup [.lst [], .i .i64 4] else match paL s with
  | none => .tup [.lst [], .i .i64 2]
  | some l => if pathB l = true then .tup [.lst (l.map encXStep), .i .i64 0] else .tup [.lst [], .i .i64 1]
theorem c40_a (s : List UInt8) (i : Nat) (hl : s.length ≤ 100000) (c : UInt8) (r : List UInt8) (hd : s.drop i = c :: r) (h1 : c.toNat = 91) : ∃ x j b, BrG s.length (stL (decide (i = 0)) (c :: r)) x j b ∧ R T0 40 [.s s, .i .i64 (i : Nat)] (encG x j b) := by
  obtain ⟨f1, f2, f3, f4⟩ := drop_facts hd
  obtain ⟨x, j, b, hb, hr⟩ := c67 s i hl f1
  refine ⟨x, j, b, by rw [stL_c, if_pos h1, ← f3]; exact hb, ?_⟩
  refine r40 _ _ rfl rfl ?_
  unfold w40
  dsimp only [prims]
  simp (disch := first | first | omega | assumption | exact scell | exact clen_XStep | (simp only [clen_XStep]; omega) | (simp only [List.length_append, List.length_cons, List.length_nil]; omega)) only [Nat.zero_add, oV_some', oN_eq, oM_some, oH_some, oD_some, oE_some, oS_eq, oT_true, oI_true, oI_false, pick_t, pick_f, un_not, oI_not, decide_not, toNat_sub1, toNat_add1, decide_true, decide_false, not_true, not_false_eq_true, Bool.not_true, Bool.not_false, Bool.not_not, oZ_b, oZ_i, oZ_s, oZ_l, slen_map, wr64, Int.toNat_natCast, Int.toNat_zero, ne_eq, bin_gt, b_sgt, bin_eq, b_snil, beq_4, bin_ne, b_snnil, bne_4, bin_add, load_get, loadB_some, get_put_same, get_put_ne, ofc_s, load_i, idx_9, ofc_encXStep, ofc0_encXStep, st_XStep, fld_XStep_kind_, fld_XStep_name_, fld_XStep_index_, fld_XStep_value_, prt_XStep_kind_, prt_XStep_name_, prt_XStep_index_, prt_XStep_value_, join3_eq, enc_g0, st60, ofG, clG, decT, decF, f2, hr.eq, ozg]
theorem c40_b (s : List UInt8) (i : Nat) (hl : s.length ≤ 100000) (c : UInt8) (r : List UInt8) (hd : s.drop i = c :: r) (h1 : ¬ c.toNat = 91) (h0 : ¬ i = 0) (h2 : ¬ c.toNat = 46) : R T0 40 [.s s, .i .i64 (i : Nat)] (encG x0 0 true) := by
  obtain ⟨f1, f2, f3, f4⟩ := drop_facts hd
  refine r40 _ _ rfl rfl ?_
  unfold w40
  dsimp only [prims]
  simp (disch := first | first | omega | assumption | exact scell | exact clen_XStep | (simp only [clen_XStep]; omega) | (simp only [List.length_append, List.length_cons, List.length_nil]; omega)) only [Nat.zero_add, oV_some', oN_eq, oM_some, oH_some, oD_some, oE_some, oS_eq, oT_true, oI_true, oI_false, pick_t, pick_f, un_not, oI_not, decide_not, toNat_sub1, toNat_add1, decide_true, decide_false, not_true, not_false_eq_true, Bool.not_true, Bool.not_false, Bool.not_not, oZ_b, oZ_i, oZ_s, oZ_l, slen_map, wr64, Int.toNat_natCast, Int.toNat_zero, ne_eq, bin_gt, b_sgt, bin_eq, b_snil, beq_4, bin_ne, b_snnil, bne_4, bin_add, load_get, loadB_some, get_put_same, get_put_ne, ofc_s, load_i, idx_9, ofc_encXStep, ofc0_encXStep, st_XStep, fld_XStep_kind_, fld_XStep_name_, fld_XStep_index_, fld_XStep_value_, prt_XStep_kind_, prt_XStep_name_, prt_XStep_index_, prt_XStep_value_, join3_eq, enc_g0, st60, ofG, clG, decT, decF, f2, bldG0, ozg]
theorem c40_c (s : List UInt8) (i : Nat) (hl : s.length ≤ 100000) (c : UInt8) (r : List UInt8) (hd : s.drop i = c :: r) (h1 : ¬ c.toNat = 91) (h0 : ¬ i = 0) (h2 : c.toNat = 46) (k : Nat) (hk : nmL r = k) : R T0 40 [.s s, .i .i64 (i : Nat)] (encG ⟨1, r.take k, 0, []⟩ ((i + 1 + k : Nat)) (decide (k = 0))) := by
  obtain ⟨f1, f2, f3, f4⟩ := drop_facts hd
  have hk' := nmL_le r
  rw [hk] at hk'
  have e68' := fun (d : Nat) (σ : AS) (K : AV → AS → Prop) => e68 (s := s) (i := i + 1) (by omega) (by omega) (d := d) (σ := σ) (K := K)
  rw [f3, hk] at e68'
  have e1 : ((i : Nat) : Int) + 1 = ((i + 1 : Nat) : Int) := by omega
  have sl := fun (h : Tr AB) => sl_e (s := s) (h := h) (i := i) (k := k) (by omega)
  rw [f3] at sl
  have ed : decide (((i + 1 + k : Nat) : Int) = ((i + 1 : Nat) : Int)) = decide (k = 0) := decide_eq_decide.2 (by omega)
  refine r40 _ _ rfl rfl ?_
  unfold w40
  dsimp only [prims]
  simp (disch := first | first | omega | assumption | exact scell | exact clen_XStep | (simp only [clen_XStep]; omega) | (simp only [List.length_append, List.length_cons, List.length_nil]; omega)) only [Nat.zero_add, oV_some', oN_eq, oM_some, oH_some, oD_some, oE_some, oS_eq, oT_true, oI_true, oI_false, pick_t, pick_f, un_not, oI_not, decide_not, toNat_sub1, toNat_add1, decide_true, decide_false, not_true, not_false_eq_true, Bool.not_true, Bool.not_false, Bool.not_not, oZ_b, oZ_i, oZ_s, oZ_l, slen_map, wr64, Int.toNat_natCast, Int.toNat_zero, ne_eq, bin_gt, b_sgt, bin_eq, b_snil, beq_4, bin_ne, b_snnil, bne_4, bin_add, load_get, loadB_some, get_put_same, get_put_ne, ofc_s, load_i, idx_9, ofc_encXStep, ofc0_encXStep, st_XStep, fld_XStep_kind_, fld_XStep_name_, fld_XStep_index_, fld_XStep_value_, prt_XStep_kind_, prt_XStep_name_, prt_XStep_index_, prt_XStep_value_, join3_eq, enc_g0, st60, ofG, clG, ed, decT, decF, f2, e1, e68', sl, bld_50f, bldG3, ozg]
theorem c40_d (s : List UInt8) (hl : s.length ≤ 100000) (c : UInt8) (r : List UInt8) (hd : s = c :: r) (h1 : ¬ c.toNat = 91) (k : Nat) (hk : nmL s = k) : R T0 40 [.s s, .i .i64 (0 : Nat)] (encG ⟨1, s.take k, 0, []⟩ (k : Nat) (decide (k = 0))) := by
  have hk' := nmL_le s
  rw [hk] at hk'
  have h0 : 0 < s.length := by rw [hd, List.length_cons]; omega
  have f2 : s.getD 0 0 = c := by rw [hd]; rfl
  have e68' := fun (d : Nat) (σ : AS) (K : AV → AS → Prop) => e68 (s := s) (i := 0) (by omega) (by omega) (d := d) (σ := σ) (K := K)
  rw [List.drop_zero, hk, Nat.zero_add] at e68'
  have sl := fun (h : Tr AB) => sls (s := s) (h := h) (l := 0) (r := k) (k1 := .i64) (k2 := .i64) (by omega) (by omega)
  rw [List.drop_zero, Nat.sub_zero] at sl
  have ed : decide (((k : Nat) : Int) = ((0 : Nat) : Int)) = decide (k = 0) := decide_eq_decide.2 (by omega)
  refine r40 _ _ rfl rfl ?_
  unfold w40
  dsimp only [prims]
  simp (disch := first | first | omega | assumption | exact scell | exact clen_XStep | (simp only [clen_XStep]; omega) | (simp only [List.length_append, List.length_cons, List.length_nil]; omega)) only [Nat.zero_add, oV_some', oN_eq, oM_some, oH_some, oD_some, oE_some, oS_eq, oT_true, oI_true, oI_false, pick_t, pick_f, un_not, oI_not, decide_not, toNat_sub1, toNat_add1, decide_true, decide_false, not_true, not_false_eq_true, Bool.not_true, Bool.not_false, Bool.not_not, oZ_b, oZ_i, oZ_s, oZ_l, slen_map, wr64, Int.toNat_natCast, Int.toNat_zero, ne_eq, bin_gt, b_sgt, bin_eq, b_snil, beq_4, bin_ne, b_snnil, bne_4, bin_add, load_get, loadB_some, get_put_same, get_put_ne, ofc_s, load_i, idx_9, ofc_encXStep, ofc0_encXStep, st_XStep, fld_XStep_kind_, fld_XStep_name_, fld_XStep_index_, fld_XStep_value_, prt_XStep_kind_, prt_XStep_name_, prt_XStep_index_, prt_XStep_value_, join3_eq, enc_g0, st60, ofG, clG, ed, decT, decF, f2, e68', sl, bld_50f, bldG3, ozg]
theorem c40 (s : List UInt8) (i : Nat) (hl : s.length ≤ 100000) (hi : i < s.length) : ∃ x j b, BrG s.length (stL (decide (i = 0)) (s.drop i)) x j b ∧ R T0 40 [.s s, .i .i64 (i : Nat)] (encG x j b) := by
  have hd := drop_at hi
  obtain ⟨f1, f2, f3, f4⟩ := drop_facts hd
  rw [hd]
  by_cases h1 : (s.getD i 0).toNat = 91
  · exact c40_a s i hl _ _ hd h1
  · by_cases h0 : i = 0
    · subst h0
      refine ⟨_, _, _, ?_, c40_d s hl _ _ hd h1 _ rfl⟩
      have e : stL (decide (0 = 0)) (s.getD 0 0 :: s.drop (0 + 1)) = fdL s := by
        rw [stL_c, if_neg h1, if_pos (decide_eq_true rfl), ← hd, List.drop_zero]
      rw [e]
      unfold fdL
      by_cases hk : nmL s = 0
      · rw [if_pos hk, decide_eq_true hk]; rfl
      · rw [if_neg hk, decide_eq_false hk]
        have := nmL_le s
        exact ⟨rfl, by show ((nmL s : Nat) : Int) = ((s.length - (s.drop (nmL s)).length : Nat) : Int); rw [List.length_drop]; omega, rfl⟩
    · by_cases h2 : (s.getD i 0).toNat = 46
      · refine ⟨_, _, _, ?_, c40_c s i hl _ _ hd h1 h0 h2 _ rfl⟩
        have e : stL (decide (i = 0)) (s.getD i 0 :: s.drop (i + 1)) = fdL (s.drop (i + 1)) := by
          rw [stL_c, if_neg h1, decide_eq_false h0, if_neg Bool.false_ne_true, if_pos h2]
        rw [e]
        have hn := nmL_le (s.drop (i + 1))
        unfold fdL
        by_cases hk : nmL (s.drop (i + 1)) = 0
        · rw [if_pos hk, decide_eq_true hk]; rfl
        · rw [if_neg hk, decide_eq_false hk]
          exact ⟨rfl, by show ((i + 1 + nmL (s.drop (i + 1)) : Nat) : Int) = ((s.length - ((s.drop (i + 1)).drop (nmL (s.drop (i + 1)))).length : Nat) : Int); rw [List.length_drop]; omega, rfl⟩
      · refine ⟨_, _, _, ?_, c40_b s i hl _ _ hd h1 h0 h2⟩
        have e : stL (decide (i = 0)) (s.getD i 0 :: s.drop (i + 1)) = none := by
          rw [stL_c, if_neg h1, decide_eq_false h0, if_neg Bool.false_ne_true, if_neg h2]
        rw [e]; rfl
end Go.Proofs.YtmfhmlhaofpeiaaGreatDoor.Ev
