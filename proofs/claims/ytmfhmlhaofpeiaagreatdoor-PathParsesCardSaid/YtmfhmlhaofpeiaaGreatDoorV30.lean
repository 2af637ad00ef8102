/- Same; the law PathParses. -/
import Derived.Test.YtmfhmlhaofpeiaaGreatDoorV29
namespace Go.Proofs.YtmfhmlhaofpeiaaGreatDoor.Ev
open Go Go.RowKit
set_option linter.unusedSimpArgs false
set_option linter.unusedVariables false
set_option maxRecDepth 100000

theorem c19 (p q : List XStep) (hp : p.length ≤ 140737488351232) (hq : q.length ≤ 140737488351232) : R T0 19 [.lst (p.map encXStep), .lst (q.map encXStep)] (.b (decide (p = q))) := by
  refine r19 _ _ rfl rfl ?_
  unfold w19
  dsimp only [prims]
  by_cases hl : p.length = q.length
  · have e : hpB p q = decide (p = q) := by
      unfold hpB
      rw [decide_eq_true (by omega), Bool.true_and, ← hl, List.take_length]
    simp (disch := first | first | omega | assumption | exact scell | exact clen_XStep | (simp only [clen_XStep]; omega) | (simp only [List.length_append, List.length_cons, List.length_nil]; omega)) only [Nat.zero_add, oV_some', oN_eq, oM_some, oH_some, oD_some, oE_some, oS_eq, oT_true, oI_true, oI_false, pick_t, pick_f, un_not, oI_not, decide_not, toNat_sub1, toNat_add1, decide_true, decide_false, not_true, not_false_eq_true, Bool.not_true, Bool.not_false, Bool.not_not, oZ_b, oZ_i, oZ_s, oZ_l, slen_map, wr64, Int.toNat_natCast, Int.toNat_zero, ne_eq, bin_eq, b_snil, beq_4, ofc_encXStep, ofc0_encXStep, st_XStep, fld_XStep_kind_, fld_XStep_name_, fld_XStep_index_, fld_XStep_value_, prt_XStep_kind_, prt_XStep_name_, prt_XStep_index_, prt_XStep_value_, len_22, gtt_3, gff_3, gtf_3, gft_3, gvv_3, gnt_3, gnf_3, slen_map, decT, decF, e16 hp hq, e]
  · simp (disch := first | first | omega | assumption | exact scell | exact clen_XStep | (simp only [clen_XStep]; omega) | (simp only [List.length_append, List.length_cons, List.length_nil]; omega)) only [Nat.zero_add, oV_some', oN_eq, oM_some, oH_some, oD_some, oE_some, oS_eq, oT_true, oI_true, oI_false, pick_t, pick_f, un_not, oI_not, decide_not, toNat_sub1, toNat_add1, decide_true, decide_false, not_true, not_false_eq_true, Bool.not_true, Bool.not_false, Bool.not_not, oZ_b, oZ_i, oZ_s, oZ_l, slen_map, wr64, Int.toNat_natCast, Int.toNat_zero, ne_eq, bin_eq, b_snil, beq_4, ofc_encXStep, ofc0_encXStep, st_XStep, fld_XStep_kind_, fld_XStep_name_, fld_XStep_index_, fld_XStep_value_, prt_XStep_kind_, prt_XStep_name_, prt_XStep_index_, prt_XStep_value_, len_22, gtt_3, gff_3, gtf_3, gft_3, gvv_3, gnt_3, gnf_3, slen_map, decT, decF]
    rw [decide_eq_false (fun q => hl (by rw [q]))]
theorem e19 {p q : List XStep} (hp : p.length ≤ 140737488351232) (hq : q.length ≤ 140737488351232) {d : Nat} {σ : AS} {K : AV → AS → Prop} : oC T0 d 19 [.lst (p.map encXStep), .lst (q.map encXStep)] σ K = K (.b (decide (p = q))) σ := (c19 p q hp hq).eq d σ K
theorem parA_len (n : Nat) : ∀ (acc : List XStep) (t : List UInt8) (l : List XStep), t.length ≤ 140737488351232 → (∀ y ∈ acc, okXStep y) → parA n acc t = some l → l.length ≤ acc.length + t.length ∧ (∀ y ∈ l, okXStep y) := by
  induction n with
  | zero =>
    intro acc t l hl ha h
    cases t with
    | nil => rw [parA_nil] at h; injection h with h; subst h; exact ⟨by omega, ha⟩
    | cons c t => cases h
  | succ n ih =>
    intro acc t l hl ha h
    cases t with
    | nil => rw [parA_nil] at h; injection h with h; subst h; exact ⟨by omega, ha⟩
    | cons c t =>
      rw [parA_c] at h
      cases hs : stL acc.isEmpty (c :: t) with
      | none => rw [hs] at h; cases h
      | some p =>
        rw [hs] at h
        have h1 := stL_ok (x := p.1) (r := p.2) hl hs
        have := ih _ _ _ (by omega) (fun y hy => by
          rcases List.mem_append.1 hy with hy | hy
          · exact ha y hy
          · rw [List.mem_singleton.1 hy]; exact h1.2) h
        rw [List.length_append] at this
        simp only [List.length_cons, List.length_nil] at this ⊢
        simp only [List.length_cons] at h1
        exact ⟨by omega, this.2⟩
theorem paL_ok {s : List UInt8} {l : List XStep} (hs : s.length ≤ 140737488351232) (h : paL s = some l) : l.length ≤ s.length ∧ (∀ y ∈ l, okXStep y) := by
  have := parA_len s.length [] s l hs (fun y hy => by cases hy) h
  simpa using this
theorem paR_cases (s : List UInt8) (hl : s.length ≤ 140737488351232) : ∃ (l : List XStep) (e : Int), paR s = .tup [.lst (l.map encXStep), .i .i64 e] ∧ l.length ≤ 140737488351232 := by
  unfold paR
  split
  · exact ⟨[], _, rfl, Nat.zero_le _⟩
  · cases h : paL s with
    | none => exact ⟨[], _, rfl, Nat.zero_le _⟩
    | some l =>
      simp only []
      split
      · exact ⟨l, _, rfl, by have := (paL_ok hl h).1; omega⟩
      · exact ⟨[], _, rfl, Nat.zero_le _⟩
theorem law_PathParses (s : List UInt8) (os : s.length ≤ 140737488351232) : R T0 4 [.s s] (.b true) := by
  refine r4 _ rfl rfl ?_
  unfold w4
  dsimp only [prims]
  obtain ⟨l, e, hr, hl⟩ := paR_cases s os
  have dd : ∀ p : List XStep, decide (p = p) = true := fun p => decide_eq_true rfl
  by_cases h1 : s.length ≤ 3000
  · simp (disch := first | first | omega | assumption | exact scell | exact clen_XStep | (simp only [clen_XStep]; omega) | (simp only [List.length_append, List.length_cons, List.length_nil]; omega)) only [Nat.zero_add, oV_some', oN_eq, oM_some, oH_some, oD_some, oE_some, oS_eq, oT_true, oI_true, oI_false, pick_t, pick_f, un_not, oI_not, decide_not, toNat_sub1, toNat_add1, decide_true, decide_false, not_true, not_false_eq_true, Bool.not_true, Bool.not_false, Bool.not_not, oZ_b, oZ_i, oZ_s, oZ_l, slen_map, wr64, Int.toNat_natCast, Int.toNat_zero, ne_eq, bin_lt, bin_slt, bin_le, b_sle, bin_gt, b_sgt, bin_ge, bin_sge, bin_eq, b_snil, beq_4, bin_ne, b_snnil, bne_4, bin_add, bin_sub, min5, load_get, loadB_some, get_put_same, get_put_ne, ofc_s, load_i, off_i, off_p, part_a, nilc_p, nilc_i, nilc_f, ext_t, List.getElem?_cons_zero, List.getElem?_cons_succ, len_9, idx_9, ofc_encXStep, ofc0_encXStep, st_XStep, fld_XStep_kind_, fld_XStep_name_, fld_XStep_index_, fld_XStep_value_, prt_XStep_kind_, prt_XStep_name_, prt_XStep_index_, prt_XStep_value_, join0_eq, join1_eq, join2_eq, join3_eq, join4_eq, join5_eq, join6_eq, join7_eq, join8_eq, gtt_0, gff_0, gtf_0, gft_0, gvv_0, gnt_0, gnf_0, gtt_1, gff_1, gtf_1, gft_1, gvv_1, gnt_1, gnf_1, gtt_2, gff_2, gtf_2, gft_2, gvv_2, gnt_2, gnf_2, gtt_3, gff_3, gtf_3, gft_3, gvv_3, gnt_3, gnf_3, gtt_4, gff_4, gtf_4, gft_4, gvv_4, gnt_4, gnf_4, gtt_5, gff_5, gtf_5, gft_5, gvv_5, gnt_5, gnf_5, gtt_6, gff_6, gtf_6, gft_6, gvv_6, gnt_6, gnf_6, gtt_7, gff_7, gtf_7, gft_7, gvv_7, gnt_7, gnf_7, gtt_8, gff_8, gtf_8, gft_8, gvv_8, gnt_8, gnf_8, gtt_9, gff_9, gtf_9, gft_9, gvv_9, gnt_9, gnf_9, gtt_10, gff_10, gtf_10, gft_10, gvv_10, gnt_10, gnf_10, gtt_11, gff_11, gtf_11, gft_11, gvv_11, gnt_11, gnf_11, gtt_12, gff_12, gtf_12, gft_12, gvv_12, gnt_12, gnf_12, gtt_13, gff_13, gtf_13, gft_13, gvv_13, gnt_13, gnf_13, gtt_14, gff_14, gtf_14, gft_14, gvv_14, gnt_14, gnf_14, gtt_15, gff_15, gtf_15, gft_15, gvv_15, gnt_15, gnf_15, decT, decF, e17, e18, hr, ex0, ex1, e19 hl hl, dd, e12]
  · by_cases h2 : s.length ≤ 20000
    · simp (disch := first | first | omega | assumption | exact scell | exact clen_XStep | (simp only [clen_XStep]; omega) | (simp only [List.length_append, List.length_cons, List.length_nil]; omega)) only [Nat.zero_add, oV_some', oN_eq, oM_some, oH_some, oD_some, oE_some, oS_eq, oT_true, oI_true, oI_false, pick_t, pick_f, un_not, oI_not, decide_not, toNat_sub1, toNat_add1, decide_true, decide_false, not_true, not_false_eq_true, Bool.not_true, Bool.not_false, Bool.not_not, oZ_b, oZ_i, oZ_s, oZ_l, slen_map, wr64, Int.toNat_natCast, Int.toNat_zero, ne_eq, bin_lt, bin_slt, bin_le, b_sle, bin_gt, b_sgt, bin_ge, bin_sge, bin_eq, b_snil, beq_4, bin_ne, b_snnil, bne_4, bin_add, bin_sub, min5, load_get, loadB_some, get_put_same, get_put_ne, ofc_s, load_i, off_i, off_p, part_a, nilc_p, nilc_i, nilc_f, ext_t, List.getElem?_cons_zero, List.getElem?_cons_succ, len_9, idx_9, ofc_encXStep, ofc0_encXStep, st_XStep, fld_XStep_kind_, fld_XStep_name_, fld_XStep_index_, fld_XStep_value_, prt_XStep_kind_, prt_XStep_name_, prt_XStep_index_, prt_XStep_value_, join0_eq, join1_eq, join2_eq, join3_eq, join4_eq, join5_eq, join6_eq, join7_eq, join8_eq, gtt_0, gff_0, gtf_0, gft_0, gvv_0, gnt_0, gnf_0, gtt_1, gff_1, gtf_1, gft_1, gvv_1, gnt_1, gnf_1, gtt_2, gff_2, gtf_2, gft_2, gvv_2, gnt_2, gnf_2, gtt_3, gff_3, gtf_3, gft_3, gvv_3, gnt_3, gnf_3, gtt_4, gff_4, gtf_4, gft_4, gvv_4, gnt_4, gnf_4, gtt_5, gff_5, gtf_5, gft_5, gvv_5, gnt_5, gnf_5, gtt_6, gff_6, gtf_6, gft_6, gvv_6, gnt_6, gnf_6, gtt_7, gff_7, gtf_7, gft_7, gvv_7, gnt_7, gnf_7, gtt_8, gff_8, gtf_8, gft_8, gvv_8, gnt_8, gnf_8, gtt_9, gff_9, gtf_9, gft_9, gvv_9, gnt_9, gnf_9, gtt_10, gff_10, gtf_10, gft_10, gvv_10, gnt_10, gnf_10, gtt_11, gff_11, gtf_11, gft_11, gvv_11, gnt_11, gnf_11, gtt_12, gff_12, gtf_12, gft_12, gvv_12, gnt_12, gnf_12, gtt_13, gff_13, gtf_13, gft_13, gvv_13, gnt_13, gnf_13, gtt_14, gff_14, gtf_14, gft_14, gvv_14, gnt_14, gnf_14, gtt_15, gff_15, gtf_15, gft_15, gvv_15, gnt_15, gnf_15, decT, decF, e12]
    · by_cases h3 : s.length ≤ 20100
      · simp (disch := first | first | omega | assumption | exact scell | exact clen_XStep | (simp only [clen_XStep]; omega) | (simp only [List.length_append, List.length_cons, List.length_nil]; omega)) only [Nat.zero_add, oV_some', oN_eq, oM_some, oH_some, oD_some, oE_some, oS_eq, oT_true, oI_true, oI_false, pick_t, pick_f, un_not, oI_not, decide_not, toNat_sub1, toNat_add1, decide_true, decide_false, not_true, not_false_eq_true, Bool.not_true, Bool.not_false, Bool.not_not, oZ_b, oZ_i, oZ_s, oZ_l, slen_map, wr64, Int.toNat_natCast, Int.toNat_zero, ne_eq, bin_lt, bin_slt, bin_le, b_sle, bin_gt, b_sgt, bin_ge, bin_sge, bin_eq, b_snil, beq_4, bin_ne, b_snnil, bne_4, bin_add, bin_sub, min5, load_get, loadB_some, get_put_same, get_put_ne, ofc_s, load_i, off_i, off_p, part_a, nilc_p, nilc_i, nilc_f, ext_t, List.getElem?_cons_zero, List.getElem?_cons_succ, len_9, idx_9, ofc_encXStep, ofc0_encXStep, st_XStep, fld_XStep_kind_, fld_XStep_name_, fld_XStep_index_, fld_XStep_value_, prt_XStep_kind_, prt_XStep_name_, prt_XStep_index_, prt_XStep_value_, join0_eq, join1_eq, join2_eq, join3_eq, join4_eq, join5_eq, join6_eq, join7_eq, join8_eq, gtt_0, gff_0, gtf_0, gft_0, gvv_0, gnt_0, gnf_0, gtt_1, gff_1, gtf_1, gft_1, gvv_1, gnt_1, gnf_1, gtt_2, gff_2, gtf_2, gft_2, gvv_2, gnt_2, gnf_2, gtt_3, gff_3, gtf_3, gft_3, gvv_3, gnt_3, gnf_3, gtt_4, gff_4, gtf_4, gft_4, gvv_4, gnt_4, gnf_4, gtt_5, gff_5, gtf_5, gft_5, gvv_5, gnt_5, gnf_5, gtt_6, gff_6, gtf_6, gft_6, gvv_6, gnt_6, gnf_6, gtt_7, gff_7, gtf_7, gft_7, gvv_7, gnt_7, gnf_7, gtt_8, gff_8, gtf_8, gft_8, gvv_8, gnt_8, gnf_8, gtt_9, gff_9, gtf_9, gft_9, gvv_9, gnt_9, gnf_9, gtt_10, gff_10, gtf_10, gft_10, gvv_10, gnt_10, gnf_10, gtt_11, gff_11, gtf_11, gft_11, gvv_11, gnt_11, gnf_11, gtt_12, gff_12, gtf_12, gft_12, gvv_12, gnt_12, gnf_12, gtt_13, gff_13, gtf_13, gft_13, gvv_13, gnt_13, gnf_13, gtt_14, gff_14, gtf_14, gft_14, gvv_14, gnt_14, gnf_14, gtt_15, gff_15, gtf_15, gft_15, gvv_15, gnt_15, gnf_15, decT, decF, e17, e18, hr, ex0, ex1, e19 hl hl, dd, e12]
      · simp (disch := first | first | omega | assumption | exact scell | exact clen_XStep | (simp only [clen_XStep]; omega) | (simp only [List.length_append, List.length_cons, List.length_nil]; omega)) only [Nat.zero_add, oV_some', oN_eq, oM_some, oH_some, oD_some, oE_some, oS_eq, oT_true, oI_true, oI_false, pick_t, pick_f, un_not, oI_not, decide_not, toNat_sub1, toNat_add1, decide_true, decide_false, not_true, not_false_eq_true, Bool.not_true, Bool.not_false, Bool.not_not, oZ_b, oZ_i, oZ_s, oZ_l, slen_map, wr64, Int.toNat_natCast, Int.toNat_zero, ne_eq, bin_lt, bin_slt, bin_le, b_sle, bin_gt, b_sgt, bin_ge, bin_sge, bin_eq, b_snil, beq_4, bin_ne, b_snnil, bne_4, bin_add, bin_sub, min5, load_get, loadB_some, get_put_same, get_put_ne, ofc_s, load_i, off_i, off_p, part_a, nilc_p, nilc_i, nilc_f, ext_t, List.getElem?_cons_zero, List.getElem?_cons_succ, len_9, idx_9, ofc_encXStep, ofc0_encXStep, st_XStep, fld_XStep_kind_, fld_XStep_name_, fld_XStep_index_, fld_XStep_value_, prt_XStep_kind_, prt_XStep_name_, prt_XStep_index_, prt_XStep_value_, join0_eq, join1_eq, join2_eq, join3_eq, join4_eq, join5_eq, join6_eq, join7_eq, join8_eq, gtt_0, gff_0, gtf_0, gft_0, gvv_0, gnt_0, gnf_0, gtt_1, gff_1, gtf_1, gft_1, gvv_1, gnt_1, gnf_1, gtt_2, gff_2, gtf_2, gft_2, gvv_2, gnt_2, gnf_2, gtt_3, gff_3, gtf_3, gft_3, gvv_3, gnt_3, gnf_3, gtt_4, gff_4, gtf_4, gft_4, gvv_4, gnt_4, gnf_4, gtt_5, gff_5, gtf_5, gft_5, gvv_5, gnt_5, gnf_5, gtt_6, gff_6, gtf_6, gft_6, gvv_6, gnt_6, gnf_6, gtt_7, gff_7, gtf_7, gft_7, gvv_7, gnt_7, gnf_7, gtt_8, gff_8, gtf_8, gft_8, gvv_8, gnt_8, gnf_8, gtt_9, gff_9, gtf_9, gft_9, gvv_9, gnt_9, gnf_9, gtt_10, gff_10, gtf_10, gft_10, gvv_10, gnt_10, gnf_10, gtt_11, gff_11, gtf_11, gft_11, gvv_11, gnt_11, gnf_11, gtt_12, gff_12, gtf_12, gft_12, gvv_12, gnt_12, gnf_12, gtt_13, gff_13, gtf_13, gft_13, gvv_13, gnt_13, gnf_13, gtt_14, gff_14, gtf_14, gft_14, gvv_14, gnt_14, gnf_14, gtt_15, gff_15, gtf_15, gft_15, gvv_15, gnt_15, gnf_15, decT, decF, e12]
end Go.Proofs.YtmfhmlhaofpeiaaGreatDoor.Ev
