/- Valid names and texts, further. -/
import Derived.Test.YtmfhmlhaofpeiaaGreatDoorV2
namespace Go.Proofs.YtmfhmlhaofpeiaaGreatDoor.Ev
open Go Go.RowKit
set_option linter.unusedSimpArgs false
set_option linter.unusedVariables false
set_option maxRecDepth 100000

theorem c103 (s : List UInt8) (hl : s.length ≤ 140737488351232) : R T0 103 [.s s] (.b (nmB s)) := by
  refine r103 _ rfl rfl ?_
  unfold w103
  dsimp only [prims]
  simp (disch := first | omega | assumption | exact scell | exact clen_XStep | (simp only [clen_XStep]; omega)) only [oV_some', len_9]
  refine loop3 (X := Nat) (fun _ => .s s) (fun _ => .i .i64 (s.length : Nat)) (fun j => .i .i64 (j : Nat)) (fun j σ => j ≤ s.length ∧ (s.take j).all (fun c => nameI c.toNat) = true) (fun j => s.length - j) ?_ 0 _ ⟨Nat.zero_le _, rfl⟩
  rintro R j σ ⟨hj, ha⟩ hR
  simp (disch := first | omega | assumption | exact scell | exact clen_XStep | (simp only [clen_XStep]; omega)) only [oV_some', bin_lt]
  refine oI_decd (fun h => ?_) (fun h => ?_)
  · have hj' : j < s.length := by omega
    generalize hc : (s.getD j 0).toNat = c
    have no : nameI (c : Nat) = false → nmB s = false := fun q => nm_no hj' (by rw [hc]; exact q)
    have yes : nameI (c : Nat) = true → (s.take (j + 1)).all (fun c => nameI c.toNat) = true := fun q => all_take_succ (d := 0) ha hj' (by rw [hc]; exact q)
    simp (disch := first | omega | assumption | exact scell | exact clen_XStep | (simp only [clen_XStep]; omega)) only [Nat.zero_add, oV_some', oN_eq, oM_some, oH_some, oD_some, oE_some, oS_eq, oT_true, oI_true, oI_false, pick_t, pick_f, un_not, oI_not, decide_not, toNat_sub1, toNat_add1, decide_true, decide_false, not_true, not_false_eq_true, Bool.not_true, Bool.not_false, Bool.not_not, oZ_b, oZ_i, oZ_s, oZ_l, slen_map, wr64, Int.toNat_natCast, Int.toNat_zero, ne_eq, bin_lt, bin_slt, bin_le, b_sle, bin_ge, bin_sge, bin_eq, b_snil, beq_4, bin_add, len_9, idx_9, ofc_encXStep, ofc0_encXStep, st_XStep, fld_XStep_kind_, fld_XStep_name_, fld_XStep_index_, fld_XStep_value_, prt_XStep_kind_, prt_XStep_name_, prt_XStep_index_, prt_XStep_value_, gtt_1, gff_1, gtf_1, gft_1, gvv_1, gnt_1, gnf_1, gtt_2, gff_2, gtf_2, gft_2, gvv_2, gnt_2, gnf_2, gtt_3, gff_3, gtf_3, gft_3, gvv_3, gnt_3, gnf_3, hc, Int.toNat_natCast]
    repeat' ((first | with_reducible refine oI_decd (fun h => ?_) (fun h => ?_) | with_reducible refine gdt_1 (fun h => ?_) (fun h => ?_) | with_reducible refine gdt_2 (fun h => ?_) (fun h => ?_) | with_reducible refine gdt_3 (fun h => ?_) (fun h => ?_) | with_reducible refine gdf_1 (fun h => ?_) (fun h => ?_) | with_reducible refine gdf_2 (fun h => ?_) (fun h => ?_) | with_reducible refine gdf_3 (fun h => ?_) (fun h => ?_) | with_reducible refine gbt_1 (fun h => ?_) (fun h => ?_) | with_reducible refine gbt_2 (fun h => ?_) (fun h => ?_) | with_reducible refine gbt_3 (fun h => ?_) (fun h => ?_) | with_reducible refine gbf_1 (fun h => ?_) (fun h => ?_) | with_reducible refine gbf_2 (fun h => ?_) (fun h => ?_) | with_reducible refine gbf_3 (fun h => ?_) (fun h => ?_) | with_reducible refine oI_bool (fun h => ?_) (fun h => ?_)) <;> try simp (disch := first | omega | assumption | exact scell | exact clen_XStep | (simp only [clen_XStep]; omega)) only [h, Nat.zero_add, oV_some', oN_eq, oM_some, oH_some, oD_some, oE_some, oS_eq, oT_true, oI_true, oI_false, pick_t, pick_f, un_not, oI_not, decide_not, toNat_sub1, toNat_add1, decide_true, decide_false, not_true, not_false_eq_true, Bool.not_true, Bool.not_false, Bool.not_not, oZ_b, oZ_i, oZ_s, oZ_l, slen_map, wr64, Int.toNat_natCast, Int.toNat_zero, ne_eq, bin_lt, bin_slt, bin_le, b_sle, bin_ge, bin_sge, bin_eq, b_snil, beq_4, bin_add, len_9, idx_9, ofc_encXStep, ofc0_encXStep, st_XStep, fld_XStep_kind_, fld_XStep_name_, fld_XStep_index_, fld_XStep_value_, prt_XStep_kind_, prt_XStep_name_, prt_XStep_index_, prt_XStep_value_, gtt_1, gff_1, gtf_1, gft_1, gvv_1, gnt_1, gnf_1, gtt_2, gff_2, gtf_2, gft_2, gvv_2, gnt_2, gnf_2, gtt_3, gff_3, gtf_3, gft_3, gvv_3, gnt_3, gnf_3, hc, Int.toNat_natCast])
    all_goals first
      | exact hR (j + 1) _ ⟨by omega, yes (decide_eq_true (by omega))⟩ (by omega)
      | rw [no (decide_eq_false (by omega))]
  · have hall := all_end ha (by omega)
    simp (disch := first | omega | assumption | exact scell | exact clen_XStep | (simp only [clen_XStep]; omega)) only [Nat.zero_add, oV_some', oN_eq, oM_some, oH_some, oD_some, oE_some, oS_eq, oT_true, oI_true, oI_false, pick_t, pick_f, un_not, oI_not, decide_not, toNat_sub1, toNat_add1, decide_true, decide_false, not_true, not_false_eq_true, Bool.not_true, Bool.not_false, Bool.not_not, oZ_b, oZ_i, oZ_s, oZ_l, slen_map, wr64, Int.toNat_natCast, Int.toNat_zero, ne_eq, bin_lt, bin_slt, bin_le, b_sle, bin_ge, bin_sge, bin_eq, b_snil, beq_4, bin_add, len_9, idx_9, ofc_encXStep, ofc0_encXStep, st_XStep, fld_XStep_kind_, fld_XStep_name_, fld_XStep_index_, fld_XStep_value_, prt_XStep_kind_, prt_XStep_name_, prt_XStep_index_, prt_XStep_value_, gtt_1, gff_1, gtf_1, gft_1, gvv_1, gnt_1, gnf_1, gtt_2, gff_2, gtf_2, gft_2, gvv_2, gnt_2, gnf_2, gtt_3, gff_3, gtf_3, gft_3, gvv_3, gnt_3, gnf_3, guard3t, guard2t, guard3f, pick_and]
    rw [nmB, hall]
    have q1 : (1 : Int) ≤ (s.length : Nat) ↔ 0 < s.length := by omega
    have q2 : ((s.length : Nat) : Int) ≤ 40 ↔ s.length ≤ 40 := by omega
    simp only [Bool.true_and, q1, q2]
theorem e103 {s : List UInt8} (hl : s.length ≤ 140737488351232) {d : Nat} {σ : AS} {K : AV → AS → Prop} : oC T0 d 103 [.s s] σ K = K (.b (nmB s)) σ := (c103 s hl).eq d σ K
end Go.Proofs.YtmfhmlhaofpeiaaGreatDoor.Ev
