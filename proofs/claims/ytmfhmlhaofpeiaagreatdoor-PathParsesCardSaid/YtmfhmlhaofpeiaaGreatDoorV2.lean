/- Valid names and texts, of the program and of the reference. -/
import Derived.Test.YtmfhmlhaofpeiaaGreatDoorV1
namespace Go.Proofs.YtmfhmlhaofpeiaaGreatDoor.Ev
open Go Go.RowKit
set_option linter.unusedSimpArgs false
set_option linter.unusedVariables false
set_option maxRecDepth 100000

theorem nm_no {s : List UInt8} {j : Nat} (hj : j < s.length) (h : nameI (s.getD j 0).toNat = false) : nmB s = false := by
  unfold nmB; rw [all_false_at (p := fun c : UInt8 => nameI c.toNat) (d := 0) hj h]; rfl
theorem tx_no {s : List UInt8} {j : Nat} (hj : j < s.length) (h : textI (s.getD j 0).toNat = false) : txB s = false := by
  unfold txB; rw [all_false_at (p := fun c : UInt8 => textI c.toNat) (d := 0) hj h]; rfl
theorem c60 (s : List UInt8) (hl : s.length ≤ 140737488351232) : R T0 60 [.s s] (.b (nmB s)) := by
  refine r60 _ rfl rfl ?_
  unfold w60
  dsimp only [prims]
  rw [rng_9, oE_some, oN_eq]
  refine loop2 (X := Nat) (fun _ => .s s) (fun _ => .ptr 0 0) (fun j σ => j ≤ s.length ∧ σ.h.get 0 = some (.siter s j) ∧ (s.take j).all (fun c => nameI c.toNat) = true) (fun j => s.length - j) ?_ 0 _ ⟨Nat.zero_le _, rfl, rfl⟩
  rintro R j ⟨h, n⟩ ⟨hj, hg, ha⟩ hR
  dsimp only at hg
  by_cases hj' : j < s.length
  · rcases Nat.lt_or_ge (s.getD j 0).toNat 128 with hc | hc
    · rw [next_lt hg hj' hc, oM_some]
      cases hq : nameI ((s.getD j 0).toNat : Nat)
      · simp (disch := first | omega | assumption | exact scell | exact clen_XStep | (simp only [clen_XStep]; omega)) only [Nat.zero_add, oV_some', oN_eq, oM_some, oH_some, oD_some, oE_some, oS_eq, oT_true, oI_true, oI_false, pick_t, pick_f, un_not, oI_not, decide_not, toNat_sub1, toNat_add1, decide_true, decide_false, not_true, not_false_eq_true, Bool.not_true, Bool.not_false, Bool.not_not, oZ_b, oZ_i, oZ_s, oZ_l, slen_map, wr64, Int.toNat_natCast, Int.toNat_zero, ne_eq, bin_le, b_sle, bin_ne, b_snnil, bne_4, ext_t, List.getElem?_cons_zero, List.getElem?_cons_succ, len_9, gtt_3, gff_3, gtf_3, gft_3, gvv_3, gnt_3, gnf_3, e66, hq, nm_no hj' hq]
      · simp (disch := first | omega | assumption | exact scell | exact clen_XStep | (simp only [clen_XStep]; omega)) only [Nat.zero_add, oV_some', oN_eq, oM_some, oH_some, oD_some, oE_some, oS_eq, oT_true, oI_true, oI_false, pick_t, pick_f, un_not, oI_not, decide_not, toNat_sub1, toNat_add1, decide_true, decide_false, not_true, not_false_eq_true, Bool.not_true, Bool.not_false, Bool.not_not, oZ_b, oZ_i, oZ_s, oZ_l, slen_map, wr64, Int.toNat_natCast, Int.toNat_zero, ne_eq, bin_le, b_sle, bin_ne, b_snnil, bne_4, ext_t, List.getElem?_cons_zero, List.getElem?_cons_succ, len_9, gtt_3, gff_3, gtf_3, gft_3, gvv_3, gnt_3, gnf_3, e66, hq]
        exact hR (j + 1) _ ⟨by omega, get_put_same _ _ _, all_take_succ (d := 0) ha hj' hq⟩ (by omega)
    · obtain ⟨r, w, hr, he⟩ := next_ge (n := n) hg hj' hc
      rw [he, oM_some]
      simp (disch := first | omega | assumption | exact scell | exact clen_XStep | (simp only [clen_XStep]; omega)) only [Nat.zero_add, oV_some', oN_eq, oM_some, oH_some, oD_some, oE_some, oS_eq, oT_true, oI_true, oI_false, pick_t, pick_f, un_not, oI_not, decide_not, toNat_sub1, toNat_add1, decide_true, decide_false, not_true, not_false_eq_true, Bool.not_true, Bool.not_false, Bool.not_not, oZ_b, oZ_i, oZ_s, oZ_l, slen_map, wr64, Int.toNat_natCast, Int.toNat_zero, ne_eq, bin_le, b_sle, bin_ne, b_snnil, bne_4, ext_t, List.getElem?_cons_zero, List.getElem?_cons_succ, len_9, gtt_3, gff_3, gtf_3, gft_3, gvv_3, gnt_3, gnf_3, e66, nameI_ge (show (128 : Int) ≤ (r : Nat) by omega)]
      rw [nm_no hj' (nameI_ge (by omega))]
  · rw [next_no hg (by omega), oM_some]
    have hall := all_end ha (by omega)
    simp (disch := first | omega | assumption | exact scell | exact clen_XStep | (simp only [clen_XStep]; omega)) only [Nat.zero_add, oV_some', oN_eq, oM_some, oH_some, oD_some, oE_some, oS_eq, oT_true, oI_true, oI_false, pick_t, pick_f, un_not, oI_not, decide_not, toNat_sub1, toNat_add1, decide_true, decide_false, not_true, not_false_eq_true, Bool.not_true, Bool.not_false, Bool.not_not, oZ_b, oZ_i, oZ_s, oZ_l, slen_map, wr64, Int.toNat_natCast, Int.toNat_zero, ne_eq, bin_le, b_sle, bin_ne, b_snnil, bne_4, ext_t, List.getElem?_cons_zero, List.getElem?_cons_succ, len_9, gtt_3, gff_3, gtf_3, gft_3, gvv_3, gnt_3, gnf_3, b_snnil, guard3t, guard3f, pick_and, pick_andn]
    rw [nmB, hall]
    have : (!decide (s.length = 0)) = decide (0 < s.length) := by
      by_cases q : s.length = 0 <;> simp [q, Nat.pos_iff_ne_zero]
    have q2 : ((s.length : Nat) : Int) ≤ 40 ↔ s.length ≤ 40 := by omega
    simp only [this, Bool.true_and, q2]
theorem e60 {s : List UInt8} (hl : s.length ≤ 140737488351232) {d : Nat} {σ : AS} {K : AV → AS → Prop} : oC T0 d 60 [.s s] σ K = K (.b (nmB s)) σ := (c60 s hl).eq d σ K
theorem c62 (s : List UInt8) (hl : s.length ≤ 140737488351232) : R T0 62 [.s s] (.b (nmB s)) := by
  refine r62 _ rfl rfl ?_
  unfold w62
  dsimp only [prims]
  refine loop2 (X := Nat) (fun _ => .s s) (fun j => .i .i64 (j : Nat)) (fun j σ => j ≤ s.length ∧ (s.take j).all (fun c => nameI c.toNat) = true) (fun j => s.length - j) ?_ 0 _ ⟨Nat.zero_le _, rfl⟩
  rintro R j σ ⟨hj, ha⟩ hR
  simp (disch := first | omega | assumption | exact scell | exact clen_XStep | (simp only [clen_XStep]; omega)) only [oV_some', len_9, bin_lt]
  refine oI_decd (fun h => ?_) (fun h => ?_)
  · have hj' : j < s.length := by omega
    cases hq : nameI ((s.getD j 0).toNat : Nat)
    · simp (disch := first | omega | assumption | exact scell | exact clen_XStep | (simp only [clen_XStep]; omega)) only [Nat.zero_add, oV_some', oN_eq, oM_some, oH_some, oD_some, oE_some, oS_eq, oT_true, oI_true, oI_false, pick_t, pick_f, un_not, oI_not, decide_not, toNat_sub1, toNat_add1, decide_true, decide_false, not_true, not_false_eq_true, Bool.not_true, Bool.not_false, Bool.not_not, oZ_b, oZ_i, oZ_s, oZ_l, slen_map, wr64, Int.toNat_natCast, Int.toNat_zero, ne_eq, bin_lt, bin_slt, bin_le, b_sle, bin_gt, b_sgt, bin_add, len_9, idx_9, ofc_encXStep, ofc0_encXStep, st_XStep, fld_XStep_kind_, fld_XStep_name_, fld_XStep_index_, fld_XStep_value_, prt_XStep_kind_, prt_XStep_name_, prt_XStep_index_, prt_XStep_value_, gtt_3, gff_3, gtf_3, gft_3, gvv_3, gnt_3, gnf_3, e93, hq, nm_no hj' hq, Int.toNat_natCast]
    · simp (disch := first | omega | assumption | exact scell | exact clen_XStep | (simp only [clen_XStep]; omega)) only [Nat.zero_add, oV_some', oN_eq, oM_some, oH_some, oD_some, oE_some, oS_eq, oT_true, oI_true, oI_false, pick_t, pick_f, un_not, oI_not, decide_not, toNat_sub1, toNat_add1, decide_true, decide_false, not_true, not_false_eq_true, Bool.not_true, Bool.not_false, Bool.not_not, oZ_b, oZ_i, oZ_s, oZ_l, slen_map, wr64, Int.toNat_natCast, Int.toNat_zero, ne_eq, bin_lt, bin_slt, bin_le, b_sle, bin_gt, b_sgt, bin_add, len_9, idx_9, ofc_encXStep, ofc0_encXStep, st_XStep, fld_XStep_kind_, fld_XStep_name_, fld_XStep_index_, fld_XStep_value_, prt_XStep_kind_, prt_XStep_name_, prt_XStep_index_, prt_XStep_value_, gtt_3, gff_3, gtf_3, gft_3, gvv_3, gnt_3, gnf_3, e93, hq, Int.toNat_natCast]
      exact hR (j + 1) _ ⟨by omega, all_take_succ (d := 0) ha hj' hq⟩ (by omega)
  · have hall := all_end ha (by omega)
    simp (disch := first | omega | assumption | exact scell | exact clen_XStep | (simp only [clen_XStep]; omega)) only [Nat.zero_add, oV_some', oN_eq, oM_some, oH_some, oD_some, oE_some, oS_eq, oT_true, oI_true, oI_false, pick_t, pick_f, un_not, oI_not, decide_not, toNat_sub1, toNat_add1, decide_true, decide_false, not_true, not_false_eq_true, Bool.not_true, Bool.not_false, Bool.not_not, oZ_b, oZ_i, oZ_s, oZ_l, slen_map, wr64, Int.toNat_natCast, Int.toNat_zero, ne_eq, bin_lt, bin_slt, bin_le, b_sle, bin_gt, b_sgt, bin_add, len_9, idx_9, ofc_encXStep, ofc0_encXStep, st_XStep, fld_XStep_kind_, fld_XStep_name_, fld_XStep_index_, fld_XStep_value_, prt_XStep_kind_, prt_XStep_name_, prt_XStep_index_, prt_XStep_value_, gtt_3, gff_3, gtf_3, gft_3, gvv_3, gnt_3, gnf_3, guard3t, pick_and]
    rw [nmB, hall]
    have q1 : (0 : Int) < (s.length : Nat) ↔ 0 < s.length := by omega
    have q2 : ((s.length : Nat) : Int) ≤ 40 ↔ s.length ≤ 40 := by omega
    simp only [Bool.true_and, q1, q2]
theorem e62 {s : List UInt8} (hl : s.length ≤ 140737488351232) {d : Nat} {σ : AS} {K : AV → AS → Prop} : oC T0 d 62 [.s s] σ K = K (.b (nmB s)) σ := (c62 s hl).eq d σ K
theorem c63 (s : List UInt8) (hl : s.length ≤ 140737488351232) : R T0 63 [.s s] (.b (txB s)) := by
  refine r63 _ rfl rfl ?_
  unfold w63
  dsimp only [prims]
  refine loop2 (X := Nat) (fun _ => .s s) (fun j => .i .i64 (j : Nat)) (fun j σ => j ≤ s.length ∧ (s.take j).all (fun c => textI c.toNat) = true) (fun j => s.length - j) ?_ 0 _ ⟨Nat.zero_le _, rfl⟩
  rintro R j σ ⟨hj, ha⟩ hR
  simp (disch := first | omega | assumption | exact scell | exact clen_XStep | (simp only [clen_XStep]; omega)) only [oV_some', len_9, bin_lt]
  refine oI_decd (fun h => ?_) (fun h => ?_)
  · have hj' : j < s.length := by omega
    generalize hc : (s.getD j 0).toNat = c
    have no : textI (c : Nat) = false → txB s = false := fun q => tx_no hj' (by rw [hc]; exact q)
    have yes : textI (c : Nat) = true → (s.take (j + 1)).all (fun c => textI c.toNat) = true := fun q => all_take_succ (d := 0) ha hj' (by rw [hc]; exact q)
    simp (disch := first | omega | assumption | exact scell | exact clen_XStep | (simp only [clen_XStep]; omega)) only [Nat.zero_add, oV_some', oN_eq, oM_some, oH_some, oD_some, oE_some, oS_eq, oT_true, oI_true, oI_false, pick_t, pick_f, un_not, oI_not, decide_not, toNat_sub1, toNat_add1, decide_true, decide_false, not_true, not_false_eq_true, Bool.not_true, Bool.not_false, Bool.not_not, oZ_b, oZ_i, oZ_s, oZ_l, slen_map, wr64, Int.toNat_natCast, Int.toNat_zero, ne_eq, bin_lt, bin_slt, bin_le, b_sle, bin_gt, b_sgt, bin_ne, b_snnil, bne_4, bin_add, len_9, idx_9, ofc_encXStep, ofc0_encXStep, st_XStep, fld_XStep_kind_, fld_XStep_name_, fld_XStep_index_, fld_XStep_value_, prt_XStep_kind_, prt_XStep_name_, prt_XStep_index_, prt_XStep_value_, gtt_1, gff_1, gtf_1, gft_1, gvv_1, gnt_1, gnf_1, gtt_4, gff_4, gtf_4, gft_4, gvv_4, gnt_4, gnf_4, gtt_5, gff_5, gtf_5, gft_5, gvv_5, gnt_5, gnf_5, hc, Int.toNat_natCast]
    repeat' ((first | with_reducible refine oI_decd (fun h => ?_) (fun h => ?_) | with_reducible refine gdt_1 (fun h => ?_) (fun h => ?_) | with_reducible refine gdt_4 (fun h => ?_) (fun h => ?_) | with_reducible refine gdt_5 (fun h => ?_) (fun h => ?_) | with_reducible refine gdf_1 (fun h => ?_) (fun h => ?_) | with_reducible refine gdf_4 (fun h => ?_) (fun h => ?_) | with_reducible refine gdf_5 (fun h => ?_) (fun h => ?_) | with_reducible refine gbt_1 (fun h => ?_) (fun h => ?_) | with_reducible refine gbt_4 (fun h => ?_) (fun h => ?_) | with_reducible refine gbt_5 (fun h => ?_) (fun h => ?_) | with_reducible refine gbf_1 (fun h => ?_) (fun h => ?_) | with_reducible refine gbf_4 (fun h => ?_) (fun h => ?_) | with_reducible refine gbf_5 (fun h => ?_) (fun h => ?_) | with_reducible refine oI_bool (fun h => ?_) (fun h => ?_)) <;> try simp (disch := first | omega | assumption | exact scell | exact clen_XStep | (simp only [clen_XStep]; omega)) only [h, Nat.zero_add, oV_some', oN_eq, oM_some, oH_some, oD_some, oE_some, oS_eq, oT_true, oI_true, oI_false, pick_t, pick_f, un_not, oI_not, decide_not, toNat_sub1, toNat_add1, decide_true, decide_false, not_true, not_false_eq_true, Bool.not_true, Bool.not_false, Bool.not_not, oZ_b, oZ_i, oZ_s, oZ_l, slen_map, wr64, Int.toNat_natCast, Int.toNat_zero, ne_eq, bin_lt, bin_slt, bin_le, b_sle, bin_gt, b_sgt, bin_ne, b_snnil, bne_4, bin_add, len_9, idx_9, ofc_encXStep, ofc0_encXStep, st_XStep, fld_XStep_kind_, fld_XStep_name_, fld_XStep_index_, fld_XStep_value_, prt_XStep_kind_, prt_XStep_name_, prt_XStep_index_, prt_XStep_value_, gtt_1, gff_1, gtf_1, gft_1, gvv_1, gnt_1, gnf_1, gtt_4, gff_4, gtf_4, gft_4, gvv_4, gnt_4, gnf_4, gtt_5, gff_5, gtf_5, gft_5, gvv_5, gnt_5, gnf_5, hc, Int.toNat_natCast])
    all_goals first
      | exact hR (j + 1) _ ⟨by omega, yes (decide_eq_true (by omega))⟩ (by omega)
      | rw [no (decide_eq_false (by omega))]
  · have hall := all_end ha (by omega)
    simp (disch := first | omega | assumption | exact scell | exact clen_XStep | (simp only [clen_XStep]; omega)) only [Nat.zero_add, oV_some', oN_eq, oM_some, oH_some, oD_some, oE_some, oS_eq, oT_true, oI_true, oI_false, pick_t, pick_f, un_not, oI_not, decide_not, toNat_sub1, toNat_add1, decide_true, decide_false, not_true, not_false_eq_true, Bool.not_true, Bool.not_false, Bool.not_not, oZ_b, oZ_i, oZ_s, oZ_l, slen_map, wr64, Int.toNat_natCast, Int.toNat_zero, ne_eq, bin_lt, bin_slt, bin_le, b_sle, bin_gt, b_sgt, bin_ne, b_snnil, bne_4, bin_add, len_9, idx_9, ofc_encXStep, ofc0_encXStep, st_XStep, fld_XStep_kind_, fld_XStep_name_, fld_XStep_index_, fld_XStep_value_, prt_XStep_kind_, prt_XStep_name_, prt_XStep_index_, prt_XStep_value_, gtt_1, gff_1, gtf_1, gft_1, gvv_1, gnt_1, gnf_1, gtt_4, gff_4, gtf_4, gft_4, gvv_4, gnt_4, gnf_4, gtt_5, gff_5, gtf_5, gft_5, gvv_5, gnt_5, gnf_5]
    rw [txB, hall]
    have q2 : ((s.length : Nat) : Int) ≤ 200 ↔ s.length ≤ 200 := by omega
    simp only [Bool.true_and, q2]
theorem e63 {s : List UInt8} (hl : s.length ≤ 140737488351232) {d : Nat} {σ : AS} {K : AV → AS → Prop} : oC T0 d 63 [.s s] σ K = K (.b (txB s)) σ := (c63 s hl).eq d σ K
theorem c119 (s : List UInt8) (hl : s.length ≤ 140737488351232) : R T0 119 [.s s] (.b (txB s)) := by
  refine r119 _ rfl rfl ?_
  unfold w119
  dsimp only [prims]
  simp (disch := first | omega | assumption | exact scell | exact clen_XStep | (simp only [clen_XStep]; omega)) only [oV_some', len_9]
  refine loop3 (X := Nat) (fun _ => .s s) (fun _ => .i .i64 (s.length : Nat)) (fun j => .i .i64 (j : Nat)) (fun j σ => j ≤ s.length ∧ (s.take j).all (fun c => textI c.toNat) = true) (fun j => s.length - j) ?_ 0 _ ⟨Nat.zero_le _, rfl⟩
  rintro R j σ ⟨hj, ha⟩ hR
  simp (disch := first | omega | assumption | exact scell | exact clen_XStep | (simp only [clen_XStep]; omega)) only [oV_some', bin_lt]
  refine oI_decd (fun h => ?_) (fun h => ?_)
  · have hj' : j < s.length := by omega
    generalize hc : (s.getD j 0).toNat = c
    have no : textI (c : Nat) = false → txB s = false := fun q => tx_no hj' (by rw [hc]; exact q)
    have yes : textI (c : Nat) = true → (s.take (j + 1)).all (fun c => textI c.toNat) = true := fun q => all_take_succ (d := 0) ha hj' (by rw [hc]; exact q)
    simp (disch := first | omega | assumption | exact scell | exact clen_XStep | (simp only [clen_XStep]; omega)) only [Nat.zero_add, oV_some', oN_eq, oM_some, oH_some, oD_some, oE_some, oS_eq, oT_true, oI_true, oI_false, pick_t, pick_f, un_not, oI_not, decide_not, toNat_sub1, toNat_add1, decide_true, decide_false, not_true, not_false_eq_true, Bool.not_true, Bool.not_false, Bool.not_not, oZ_b, oZ_i, oZ_s, oZ_l, slen_map, wr64, Int.toNat_natCast, Int.toNat_zero, ne_eq, bin_lt, bin_slt, bin_le, b_sle, bin_gt, b_sgt, bin_ne, b_snnil, bne_4, bin_add, len_9, idx_9, ofc_encXStep, ofc0_encXStep, st_XStep, fld_XStep_kind_, fld_XStep_name_, fld_XStep_index_, fld_XStep_value_, prt_XStep_kind_, prt_XStep_name_, prt_XStep_index_, prt_XStep_value_, gtt_1, gff_1, gtf_1, gft_1, gvv_1, gnt_1, gnf_1, gtt_4, gff_4, gtf_4, gft_4, gvv_4, gnt_4, gnf_4, gtt_5, gff_5, gtf_5, gft_5, gvv_5, gnt_5, gnf_5, hc, Int.toNat_natCast]
    repeat' ((first | with_reducible refine oI_decd (fun h => ?_) (fun h => ?_) | with_reducible refine gdt_1 (fun h => ?_) (fun h => ?_) | with_reducible refine gdt_4 (fun h => ?_) (fun h => ?_) | with_reducible refine gdt_5 (fun h => ?_) (fun h => ?_) | with_reducible refine gdf_1 (fun h => ?_) (fun h => ?_) | with_reducible refine gdf_4 (fun h => ?_) (fun h => ?_) | with_reducible refine gdf_5 (fun h => ?_) (fun h => ?_) | with_reducible refine gbt_1 (fun h => ?_) (fun h => ?_) | with_reducible refine gbt_4 (fun h => ?_) (fun h => ?_) | with_reducible refine gbt_5 (fun h => ?_) (fun h => ?_) | with_reducible refine gbf_1 (fun h => ?_) (fun h => ?_) | with_reducible refine gbf_4 (fun h => ?_) (fun h => ?_) | with_reducible refine gbf_5 (fun h => ?_) (fun h => ?_) | with_reducible refine oI_bool (fun h => ?_) (fun h => ?_)) <;> try simp (disch := first | omega | assumption | exact scell | exact clen_XStep | (simp only [clen_XStep]; omega)) only [h, Nat.zero_add, oV_some', oN_eq, oM_some, oH_some, oD_some, oE_some, oS_eq, oT_true, oI_true, oI_false, pick_t, pick_f, un_not, oI_not, decide_not, toNat_sub1, toNat_add1, decide_true, decide_false, not_true, not_false_eq_true, Bool.not_true, Bool.not_false, Bool.not_not, oZ_b, oZ_i, oZ_s, oZ_l, slen_map, wr64, Int.toNat_natCast, Int.toNat_zero, ne_eq, bin_lt, bin_slt, bin_le, b_sle, bin_gt, b_sgt, bin_ne, b_snnil, bne_4, bin_add, len_9, idx_9, ofc_encXStep, ofc0_encXStep, st_XStep, fld_XStep_kind_, fld_XStep_name_, fld_XStep_index_, fld_XStep_value_, prt_XStep_kind_, prt_XStep_name_, prt_XStep_index_, prt_XStep_value_, gtt_1, gff_1, gtf_1, gft_1, gvv_1, gnt_1, gnf_1, gtt_4, gff_4, gtf_4, gft_4, gvv_4, gnt_4, gnf_4, gtt_5, gff_5, gtf_5, gft_5, gvv_5, gnt_5, gnf_5, hc, Int.toNat_natCast])
    all_goals first
      | exact hR (j + 1) _ ⟨by omega, yes (decide_eq_true (by omega))⟩ (by omega)
      | rw [no (decide_eq_false (by omega))]
  · have hall := all_end ha (by omega)
    simp (disch := first | omega | assumption | exact scell | exact clen_XStep | (simp only [clen_XStep]; omega)) only [Nat.zero_add, oV_some', oN_eq, oM_some, oH_some, oD_some, oE_some, oS_eq, oT_true, oI_true, oI_false, pick_t, pick_f, un_not, oI_not, decide_not, toNat_sub1, toNat_add1, decide_true, decide_false, not_true, not_false_eq_true, Bool.not_true, Bool.not_false, Bool.not_not, oZ_b, oZ_i, oZ_s, oZ_l, slen_map, wr64, Int.toNat_natCast, Int.toNat_zero, ne_eq, bin_lt, bin_slt, bin_le, b_sle, bin_gt, b_sgt, bin_ne, b_snnil, bne_4, bin_add, len_9, idx_9, ofc_encXStep, ofc0_encXStep, st_XStep, fld_XStep_kind_, fld_XStep_name_, fld_XStep_index_, fld_XStep_value_, prt_XStep_kind_, prt_XStep_name_, prt_XStep_index_, prt_XStep_value_, gtt_1, gff_1, gtf_1, gft_1, gvv_1, gnt_1, gnf_1, gtt_4, gff_4, gtf_4, gft_4, gvv_4, gnt_4, gnf_4, gtt_5, gff_5, gtf_5, gft_5, gvv_5, gnt_5, gnf_5]
    rw [txB, hall]
    have q2 : ((s.length : Nat) : Int) ≤ 200 ↔ s.length ≤ 200 := by omega
    simp only [Bool.true_and, q2]
theorem e119 {s : List UInt8} (hl : s.length ≤ 140737488351232) {d : Nat} {σ : AS} {K : AV → AS → Prop} : oC T0 d 119 [.s s] σ K = K (.b (txB s)) σ := (c119 s hl).eq d σ K
end Go.Proofs.YtmfhmlhaofpeiaaGreatDoor.Ev
