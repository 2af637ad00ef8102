/- The reference's number (at most 65). -/
import Derived.Test.YtmfhmlhaofpeiaaGreatDoorV18
namespace Go.Proofs.YtmfhmlhaofpeiaaGreatDoor.Ev
open Go Go.RowKit
set_option linter.unusedSimpArgs false
set_option linter.unusedVariables false
set_option maxRecDepth 100000

theorem numF_take {s : List UInt8} {j : Nat} (hj : j < s.length) : numF 0 (s.take (j + 1)) = numG (numF 0 (s.take j)) (s.getD j 0) := by
  have : s.take (j + 1) = s.take j ++ [s.getD j 0] := by
    rw [List.take_add_one, List.getD_eq_getElem?_getD, List.getElem?_eq_getElem hj]; rfl
  rw [this]; unfold numF; rw [List.foldl_append]; rfl
theorem numF_split (s : List UInt8) (j : Nat) : numF 0 s = numF (numF 0 (s.take j)) (s.drop j) := by
  unfold numF
  rw [← List.foldl_append, List.take_append_drop]
theorem cv53 {h : Tr AB} (n : Int) : evConv T0 h 5 3 (.i .u8 n) = some (.i .i64 (IntKind.wrap .i64 n)) := by kernel_rfl
theorem wr8s (c : UInt8) : IntKind.wrap .u8 ((c.toNat : Nat) - 48 : Int) = (((c.toNat + 208) % 256 : Nat) : Int) := by
  have := c.toNat_lt
  unfold IntKind.wrap; simp [IntKind.bits, IntKind.signed]; omega
theorem c95 (s : List UInt8) (hl : s.length ≤ 140737488351232) : R T0 95 [.s s] (.i .i64 (numC s : Nat)) := by
  refine r95 _ rfl rfl ?_
  unfold w95
  dsimp only [prims]
  refine loop3 (X := Nat) (fun j => .i .i64 (numF 0 (s.take j) : Nat)) (fun _ => .s s) (fun j => .i .i64 (j : Nat)) (fun j σ => j ≤ s.length) (fun j => s.length - j) ?_ 0 _ (Nat.zero_le _)
  rintro R j σ hj hR
  by_cases hj' : j < s.length
  · have d1 : decide (((j : Nat) : Int) < (s.length : Nat)) = true := decide_eq_true (by omega)
    have hR' := hR (j + 1)
    rw [numF_take hj'] at hR'
    have hsp := numF_split s j
    by_cases ha : numF 0 (s.take j) < 65
    · have d2 : decide (((numF 0 (s.take j) : Nat) : Int) < 65) = true := decide_eq_true (by omega)
      have hc : (numG (numF 0 (s.take j)) (s.getD j 0) : Int) = 10 * (numF 0 (s.take j) : Nat) + (((s.getD j 0).toNat + 208) % 256 : Nat) := by
        unfold numG; rw [if_pos ha]; omega
      rw [hc] at hR'
      have hb : ((s.getD j 0).toNat + 208) % 256 < 256 := Nat.mod_lt _ (by omega)
      generalize hA : numF 0 (s.take j) = A at ha d2 hR' ⊢
      have w8 := wr8s (s.getD j 0)
      generalize ((s.getD j 0).toNat + 208) % 256 = B at w8 hb hR'
      simp (disch := first | omega | assumption | exact scell | exact clen_XStep | (simp only [clen_XStep]; omega)) only [Nat.zero_add, oV_some', oN_eq, oM_some, oH_some, oD_some, oE_some, oS_eq, oT_true, oI_true, oI_false, pick_t, pick_f, un_not, oI_not, decide_not, toNat_sub1, toNat_add1, decide_true, decide_false, not_true, not_false_eq_true, Bool.not_true, Bool.not_false, Bool.not_not, oZ_b, oZ_i, oZ_s, oZ_l, slen_map, wr64, Int.toNat_natCast, Int.toNat_zero, ne_eq, bin_lt, bin_slt, bin_gt, b_sgt, bin_add, bin_sub, len_9, idx_9, ofc_encXStep, ofc0_encXStep, st_XStep, fld_XStep_kind_, fld_XStep_name_, fld_XStep_index_, fld_XStep_value_, prt_XStep_kind_, prt_XStep_name_, prt_XStep_index_, prt_XStep_value_, join1_eq, gtt_2, gff_2, gtf_2, gft_2, gvv_2, gnt_2, gnf_2, Int.toNat_natCast, d1, d2, bin_mul, w8, cv53]
      exact hR' _ (show j + 1 ≤ s.length by omega) (by omega)
    · have d2 : decide (((numF 0 (s.take j) : Nat) : Int) < 65) = false := decide_eq_false (by omega)
      have hn : numC s = 65 := by unfold numC; rw [hsp, numF_big _ _ (by omega)]; omega
      rw [hn, show ((65 : Nat) : Int) = 65 from rfl]
      generalize hA : numF 0 (s.take j) = A at ha d2 ⊢
      by_cases h65 : A = 65
      · rw [h65, show ((65 : Nat) : Int) = 65 from rfl]
        have d3 : decide ((65 : Int) < 65) = false := rfl
        have d2 : decide ((65 : Int) < 65) = false := rfl
        simp (disch := first | omega | assumption | exact scell | exact clen_XStep | (simp only [clen_XStep]; omega)) only [Nat.zero_add, oV_some', oN_eq, oM_some, oH_some, oD_some, oE_some, oS_eq, oT_true, oI_true, oI_false, pick_t, pick_f, un_not, oI_not, decide_not, toNat_sub1, toNat_add1, decide_true, decide_false, not_true, not_false_eq_true, Bool.not_true, Bool.not_false, Bool.not_not, oZ_b, oZ_i, oZ_s, oZ_l, slen_map, wr64, Int.toNat_natCast, Int.toNat_zero, ne_eq, bin_lt, bin_slt, bin_gt, b_sgt, bin_add, bin_sub, len_9, idx_9, ofc_encXStep, ofc0_encXStep, st_XStep, fld_XStep_kind_, fld_XStep_name_, fld_XStep_index_, fld_XStep_value_, prt_XStep_kind_, prt_XStep_name_, prt_XStep_index_, prt_XStep_value_, join1_eq, gtt_2, gff_2, gtf_2, gft_2, gvv_2, gnt_2, gnf_2, Int.toNat_natCast, d1, d2]
      · have d3 : decide ((65 : Int) < (A : Nat)) = true := decide_eq_true (by omega)
        simp (disch := first | omega | assumption | exact scell | exact clen_XStep | (simp only [clen_XStep]; omega)) only [Nat.zero_add, oV_some', oN_eq, oM_some, oH_some, oD_some, oE_some, oS_eq, oT_true, oI_true, oI_false, pick_t, pick_f, un_not, oI_not, decide_not, toNat_sub1, toNat_add1, decide_true, decide_false, not_true, not_false_eq_true, Bool.not_true, Bool.not_false, Bool.not_not, oZ_b, oZ_i, oZ_s, oZ_l, slen_map, wr64, Int.toNat_natCast, Int.toNat_zero, ne_eq, bin_lt, bin_slt, bin_gt, b_sgt, bin_add, bin_sub, len_9, idx_9, ofc_encXStep, ofc0_encXStep, st_XStep, fld_XStep_kind_, fld_XStep_name_, fld_XStep_index_, fld_XStep_value_, prt_XStep_kind_, prt_XStep_name_, prt_XStep_index_, prt_XStep_value_, join1_eq, gtt_2, gff_2, gtf_2, gft_2, gvv_2, gnt_2, gnf_2, Int.toNat_natCast, d1, d2, d3]
  · have d1 : decide (((j : Nat) : Int) < (s.length : Nat)) = false := decide_eq_false (by omega)
    have e : numC s = min (numF 0 (s.take j)) 65 := by unfold numC; rw [List.take_of_length_le (by omega)]
    rw [e]
    generalize numF 0 (s.take j) = A
    by_cases h65 : 65 < A
    · have d3 : decide ((65 : Int) < (A : Nat)) = true := decide_eq_true (by omega)
      have q : min A 65 = 65 := by omega
      rw [q, show ((65 : Nat) : Int) = 65 from rfl]
      simp (disch := first | omega | assumption | exact scell | exact clen_XStep | (simp only [clen_XStep]; omega)) only [Nat.zero_add, oV_some', oN_eq, oM_some, oH_some, oD_some, oE_some, oS_eq, oT_true, oI_true, oI_false, pick_t, pick_f, un_not, oI_not, decide_not, toNat_sub1, toNat_add1, decide_true, decide_false, not_true, not_false_eq_true, Bool.not_true, Bool.not_false, Bool.not_not, oZ_b, oZ_i, oZ_s, oZ_l, slen_map, wr64, Int.toNat_natCast, Int.toNat_zero, ne_eq, bin_lt, bin_slt, bin_gt, b_sgt, bin_add, bin_sub, len_9, idx_9, ofc_encXStep, ofc0_encXStep, st_XStep, fld_XStep_kind_, fld_XStep_name_, fld_XStep_index_, fld_XStep_value_, prt_XStep_kind_, prt_XStep_name_, prt_XStep_index_, prt_XStep_value_, join1_eq, gtt_2, gff_2, gtf_2, gft_2, gvv_2, gnt_2, gnf_2, d1, d3]
    · have d3 : decide ((65 : Int) < (A : Nat)) = false := decide_eq_false (by omega)
      have q : min A 65 = A := by omega
      simp (disch := first | omega | assumption | exact scell | exact clen_XStep | (simp only [clen_XStep]; omega)) only [Nat.zero_add, oV_some', oN_eq, oM_some, oH_some, oD_some, oE_some, oS_eq, oT_true, oI_true, oI_false, pick_t, pick_f, un_not, oI_not, decide_not, toNat_sub1, toNat_add1, decide_true, decide_false, not_true, not_false_eq_true, Bool.not_true, Bool.not_false, Bool.not_not, oZ_b, oZ_i, oZ_s, oZ_l, slen_map, wr64, Int.toNat_natCast, Int.toNat_zero, ne_eq, bin_lt, bin_slt, bin_gt, b_sgt, bin_add, bin_sub, len_9, idx_9, ofc_encXStep, ofc0_encXStep, st_XStep, fld_XStep_kind_, fld_XStep_name_, fld_XStep_index_, fld_XStep_value_, prt_XStep_kind_, prt_XStep_name_, prt_XStep_index_, prt_XStep_value_, join1_eq, gtt_2, gff_2, gtf_2, gft_2, gvv_2, gnt_2, gnf_2, d1, d3, q]
theorem e95 {s : List UInt8} (hl : s.length ≤ 140737488351232) {d : Nat} {σ : AS} {K : AV → AS → Prop} : oC T0 d 95 [.s s] σ K = K (.i .i64 (numC s : Nat)) σ := (c95 s hl).eq d σ K
end Go.Proofs.YtmfhmlhaofpeiaaGreatDoor.Ev
