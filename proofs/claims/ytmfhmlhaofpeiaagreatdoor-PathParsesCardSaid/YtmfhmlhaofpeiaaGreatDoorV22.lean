/- The program's index in brackets. -/
import Derived.Test.YtmfhmlhaofpeiaaGreatDoorV21
namespace Go.Proofs.YtmfhmlhaofpeiaaGreatDoor.Ev
open Go Go.RowKit
set_option linter.unusedSimpArgs false
set_option linter.unusedVariables false
set_option maxRecDepth 100000

def ixR (s : List UInt8) : AV := if canB s = true then .tup [.i .i64 (min (valD 0 s) 65 : Nat), .b true] else .tup [.i .i64 0, .b false]
theorem ixR_no {s : List UInt8} (h : canB s = false) : ixR s = .tup [.i .i64 0, .b false] := by unfold ixR; rw [h]; rfl
theorem ixR_yes {s : List UInt8} (h : canB s = true) : ixR s = .tup [.i .i64 (min (valD 0 s) 65 : Nat), .b true] := by unfold ixR; rw [h]; rfl
theorem ozib {σ : AS} {K : AV → Prop} {a : Int} {b : Bool} : oZ T0 σ (.tup [.i .i64 a, .b b]) K = K (.tup [.i .i64 a, .b b]) := oZ_free rfl
theorem c64 (s : List UInt8) (hl : s.length ≤ 1048576) : R T0 64 [.s s] (ixR s) := by
  refine r64 _ rfl rfl ?_
  unfold w64
  dsimp only [prims]
  rw [rng_9, oE_some, oN_eq]
  refine loop2 (X := Nat) (fun _ => .s s) (fun _ => .ptr 0 0) (fun j σ => j ≤ s.length ∧ σ.h.get 0 = some (.siter s j) ∧ (s.take j).all digC = true) (fun j => s.length - j) ?_ 0 _ ⟨Nat.zero_le _, rfl, rfl⟩
  rintro R j ⟨h, n⟩ ⟨hj, hg, ha⟩ hR
  dsimp only at hg
  by_cases hj' : j < s.length
  · rcases Nat.lt_or_ge (s.getD j 0).toNat 128 with hc | hc
    · rw [next_lt hg hj' hc, oM_some]
      by_cases q1 : 48 ≤ (s.getD j 0).toNat
      · have q1' : decide ((((s.getD j 0).toNat : Nat) : Int) < 48) = false := decide_eq_false (by omega)
        by_cases q2 : (s.getD j 0).toNat ≤ 57
        · have q2' : decide ((57 : Int) < (((s.getD j 0).toNat : Nat) : Int)) = false := decide_eq_false (by omega)
          simp (disch := first | omega | assumption | exact scell | exact clen_XStep | (simp only [clen_XStep]; omega)) only [Nat.zero_add, oV_some', oN_eq, oM_some, oH_some, oD_some, oE_some, oS_eq, oT_true, oI_true, oI_false, pick_t, pick_f, un_not, oI_not, decide_not, toNat_sub1, toNat_add1, decide_true, decide_false, not_true, not_false_eq_true, Bool.not_true, Bool.not_false, Bool.not_not, oZ_b, oZ_i, oZ_s, oZ_l, slen_map, wr64, Int.toNat_natCast, Int.toNat_zero, ne_eq, bin_lt, bin_slt, bin_gt, b_sgt, bin_eq, b_snil, beq_4, bin_ne, b_snnil, bne_4, ext_t, List.getElem?_cons_zero, List.getElem?_cons_succ, len_9, idx_9, ofc_encXStep, ofc0_encXStep, st_XStep, fld_XStep_kind_, fld_XStep_name_, fld_XStep_index_, fld_XStep_value_, prt_XStep_kind_, prt_XStep_name_, prt_XStep_index_, prt_XStep_value_, join1_eq, gtt_1, gff_1, gtf_1, gft_1, gvv_1, gnt_1, gnf_1, gtt_2, gff_2, gtf_2, gft_2, gvv_2, gnt_2, gnf_2, gtt_3, gff_3, gtf_3, gft_3, gvv_3, gnt_3, gnf_3, gtt_4, gff_4, gtf_4, gft_4, gvv_4, gnt_4, gnf_4, q1', q2']
          exact hR (j + 1) _ ⟨by omega, get_put_same _ _ _, all_take_succ (d := 0) ha hj' (decide_eq_true ⟨q1, q2⟩)⟩ (by omega)
        · have q2' : decide ((57 : Int) < (((s.getD j 0).toNat : Nat) : Int)) = true := decide_eq_true (by omega)
          have no := ixR_no (can_no hj' (decide_eq_false (fun q => q2 q.2)))
          simp (disch := first | omega | assumption | exact scell | exact clen_XStep | (simp only [clen_XStep]; omega)) only [Nat.zero_add, oV_some', oN_eq, oM_some, oH_some, oD_some, oE_some, oS_eq, oT_true, oI_true, oI_false, pick_t, pick_f, un_not, oI_not, decide_not, toNat_sub1, toNat_add1, decide_true, decide_false, not_true, not_false_eq_true, Bool.not_true, Bool.not_false, Bool.not_not, oZ_b, oZ_i, oZ_s, oZ_l, slen_map, wr64, Int.toNat_natCast, Int.toNat_zero, ne_eq, bin_lt, bin_slt, bin_gt, b_sgt, bin_eq, b_snil, beq_4, bin_ne, b_snnil, bne_4, ext_t, List.getElem?_cons_zero, List.getElem?_cons_succ, len_9, idx_9, ofc_encXStep, ofc0_encXStep, st_XStep, fld_XStep_kind_, fld_XStep_name_, fld_XStep_index_, fld_XStep_value_, prt_XStep_kind_, prt_XStep_name_, prt_XStep_index_, prt_XStep_value_, join1_eq, gtt_1, gff_1, gtf_1, gft_1, gvv_1, gnt_1, gnf_1, gtt_2, gff_2, gtf_2, gft_2, gvv_2, gnt_2, gnf_2, gtt_3, gff_3, gtf_3, gft_3, gvv_3, gnt_3, gnf_3, gtt_4, gff_4, gtf_4, gft_4, gvv_4, gnt_4, gnf_4, q1', q2', no, ozib]
      · have q1' : decide ((((s.getD j 0).toNat : Nat) : Int) < 48) = true := decide_eq_true (by omega)
        have no := ixR_no (can_no hj' (decide_eq_false (fun q => q1 q.1)))
        simp (disch := first | omega | assumption | exact scell | exact clen_XStep | (simp only [clen_XStep]; omega)) only [Nat.zero_add, oV_some', oN_eq, oM_some, oH_some, oD_some, oE_some, oS_eq, oT_true, oI_true, oI_false, pick_t, pick_f, un_not, oI_not, decide_not, toNat_sub1, toNat_add1, decide_true, decide_false, not_true, not_false_eq_true, Bool.not_true, Bool.not_false, Bool.not_not, oZ_b, oZ_i, oZ_s, oZ_l, slen_map, wr64, Int.toNat_natCast, Int.toNat_zero, ne_eq, bin_lt, bin_slt, bin_gt, b_sgt, bin_eq, b_snil, beq_4, bin_ne, b_snnil, bne_4, ext_t, List.getElem?_cons_zero, List.getElem?_cons_succ, len_9, idx_9, ofc_encXStep, ofc0_encXStep, st_XStep, fld_XStep_kind_, fld_XStep_name_, fld_XStep_index_, fld_XStep_value_, prt_XStep_kind_, prt_XStep_name_, prt_XStep_index_, prt_XStep_value_, join1_eq, gtt_1, gff_1, gtf_1, gft_1, gvv_1, gnt_1, gnf_1, gtt_2, gff_2, gtf_2, gft_2, gvv_2, gnt_2, gnf_2, gtt_3, gff_3, gtf_3, gft_3, gvv_3, gnt_3, gnf_3, gtt_4, gff_4, gtf_4, gft_4, gvv_4, gnt_4, gnf_4, q1', no, ozib]
    · obtain ⟨r, w, hr, he⟩ := next_ge (n := n) hg hj' hc
      rw [he, oM_some]
      have q1' : decide (((r : Nat) : Int) < 48) = false := decide_eq_false (by omega)
      have q2' : decide ((57 : Int) < ((r : Nat) : Int)) = true := decide_eq_true (by omega)
      have no := ixR_no (can_no hj' (decide_eq_false (fun q => by omega)))
      simp (disch := first | omega | assumption | exact scell | exact clen_XStep | (simp only [clen_XStep]; omega)) only [Nat.zero_add, oV_some', oN_eq, oM_some, oH_some, oD_some, oE_some, oS_eq, oT_true, oI_true, oI_false, pick_t, pick_f, un_not, oI_not, decide_not, toNat_sub1, toNat_add1, decide_true, decide_false, not_true, not_false_eq_true, Bool.not_true, Bool.not_false, Bool.not_not, oZ_b, oZ_i, oZ_s, oZ_l, slen_map, wr64, Int.toNat_natCast, Int.toNat_zero, ne_eq, bin_lt, bin_slt, bin_gt, b_sgt, bin_eq, b_snil, beq_4, bin_ne, b_snnil, bne_4, ext_t, List.getElem?_cons_zero, List.getElem?_cons_succ, len_9, idx_9, ofc_encXStep, ofc0_encXStep, st_XStep, fld_XStep_kind_, fld_XStep_name_, fld_XStep_index_, fld_XStep_value_, prt_XStep_kind_, prt_XStep_name_, prt_XStep_index_, prt_XStep_value_, join1_eq, gtt_1, gff_1, gtf_1, gft_1, gvv_1, gnt_1, gnf_1, gtt_2, gff_2, gtf_2, gft_2, gvv_2, gnt_2, gnf_2, gtt_3, gff_3, gtf_3, gft_3, gvv_3, gnt_3, gnf_3, gtt_4, gff_4, gtf_4, gft_4, gvv_4, gnt_4, gnf_4, q1', q2', no, ozib]
  · rw [next_no hg (by omega), oM_some]
    have hall := all_end ha (by omega)
    by_cases l0 : s.length = 0
    · have l0' : decide (s.length = 0) = true := decide_eq_true l0
      have no : ixR s = .tup [.i .i64 0, .b false] := ixR_no (by unfold canB; rw [decide_eq_false (show ¬ s.length = 1 by omega), decide_eq_false (show ¬ 1 < s.length by omega)]; simp)
      simp (disch := first | omega | assumption | exact scell | exact clen_XStep | (simp only [clen_XStep]; omega)) only [Nat.zero_add, oV_some', oN_eq, oM_some, oH_some, oD_some, oE_some, oS_eq, oT_true, oI_true, oI_false, pick_t, pick_f, un_not, oI_not, decide_not, toNat_sub1, toNat_add1, decide_true, decide_false, not_true, not_false_eq_true, Bool.not_true, Bool.not_false, Bool.not_not, oZ_b, oZ_i, oZ_s, oZ_l, slen_map, wr64, Int.toNat_natCast, Int.toNat_zero, ne_eq, bin_lt, bin_slt, bin_gt, b_sgt, bin_eq, b_snil, beq_4, bin_ne, b_snnil, bne_4, ext_t, List.getElem?_cons_zero, List.getElem?_cons_succ, len_9, idx_9, ofc_encXStep, ofc0_encXStep, st_XStep, fld_XStep_kind_, fld_XStep_name_, fld_XStep_index_, fld_XStep_value_, prt_XStep_kind_, prt_XStep_name_, prt_XStep_index_, prt_XStep_value_, join1_eq, gtt_1, gff_1, gtf_1, gft_1, gvv_1, gnt_1, gnf_1, gtt_2, gff_2, gtf_2, gft_2, gvv_2, gnt_2, gnf_2, gtt_3, gff_3, gtf_3, gft_3, gvv_3, gnt_3, gnf_3, gtt_4, gff_4, gtf_4, gft_4, gvv_4, gnt_4, gnf_4, l0', no, ozib]
    · have l0' : decide (s.length = 0) = false := decide_eq_false l0
      have e0 : evIndex T0 9 (.s s) (.i .i64 0) = some (.i .u8 (s.getD 0 0).toNat) := idx_9 (k := .i64) (n := 0) (by omega) (by omega)
      have hne : s ≠ [] := fun q => l0 (by rw [q]; rfl)
      have qe : decide ((((s.getD 0 0).toNat : Nat) : Int) = 48) = decide ((s.getD 0 0).toNat = 48) := decide_eq_decide.2 (by omega)
      have qg : decide ((1 : Int) < ((s.length : Nat) : Int)) = decide (1 < s.length) := decide_eq_decide.2 (by omega)
      have nn : evBin T0 .neq 67 true .nili .nili = some (.b false) := by kernel_rfl
      have ni : evBin T0 .neq 67 true (.ifc 129 (rgE [65, 116, 111, 105] s)) .nili = some (.b true) := by kernel_rfl
      have key : ∀ (b1 b2 : Bool), decide (1 < s.length) = b1 → decide ((s.getD 0 0).toNat = 48) = b2 → canB s = !(b1 && b2) := fun b1 b2 h1 h2 => by
        unfold canB
        rw [hall, h1, h2, Bool.true_and]
        cases b1
        · rw [decide_eq_true (show s.length = 1 by have := of_decide_eq_false h1; omega)]; rfl
        · rw [decide_eq_false (show ¬ s.length = 1 by have := of_decide_eq_true h1; omega)]; cases b2 <;> rfl
      cases h1 : decide (1 < s.length) <;> cases h2 : decide ((s.getD 0 0).toNat = 48)
      case true.true =>
        have no := ixR_no (key _ _ h1 h2)
        simp (disch := first | omega | assumption | exact scell | exact clen_XStep | (simp only [clen_XStep]; omega)) only [Nat.zero_add, oV_some', oN_eq, oM_some, oH_some, oD_some, oE_some, oS_eq, oT_true, oI_true, oI_false, pick_t, pick_f, un_not, oI_not, decide_not, toNat_sub1, toNat_add1, decide_true, decide_false, not_true, not_false_eq_true, Bool.not_true, Bool.not_false, Bool.not_not, oZ_b, oZ_i, oZ_s, oZ_l, slen_map, wr64, Int.toNat_natCast, Int.toNat_zero, ne_eq, bin_lt, bin_slt, bin_gt, b_sgt, bin_eq, b_snil, beq_4, bin_ne, b_snnil, bne_4, ext_t, List.getElem?_cons_zero, List.getElem?_cons_succ, len_9, idx_9, ofc_encXStep, ofc0_encXStep, st_XStep, fld_XStep_kind_, fld_XStep_name_, fld_XStep_index_, fld_XStep_value_, prt_XStep_kind_, prt_XStep_name_, prt_XStep_index_, prt_XStep_value_, join1_eq, gtt_1, gff_1, gtf_1, gft_1, gvv_1, gnt_1, gnf_1, gtt_2, gff_2, gtf_2, gft_2, gvv_2, gnt_2, gnf_2, gtt_3, gff_3, gtf_3, gft_3, gvv_3, gnt_3, gnf_3, gtt_4, gff_4, gtf_4, gft_4, gvv_4, gnt_4, gnf_4, l0', qe, qg, h1, h2, e0, no, ozib]
      all_goals
        have yes := ixR_yes (key _ _ h1 h2)
        rw [yes]
        rcases c94 s hl hne hall with ⟨r, hv⟩ | ⟨x, r, hv⟩
        · by_cases g : 64 < valD 0 s
          · have g' : decide ((64 : Int) < ((valD 0 s : Nat) : Int)) = true := decide_eq_true (by omega)
            rw [show min (valD 0 s) 65 = 65 by omega, show ((65 : Nat) : Int) = 65 from rfl]
            simp (disch := first | omega | assumption | exact scell | exact clen_XStep | (simp only [clen_XStep]; omega)) only [Nat.zero_add, oV_some', oN_eq, oM_some, oH_some, oD_some, oE_some, oS_eq, oT_true, oI_true, oI_false, pick_t, pick_f, un_not, oI_not, decide_not, toNat_sub1, toNat_add1, decide_true, decide_false, not_true, not_false_eq_true, Bool.not_true, Bool.not_false, Bool.not_not, oZ_b, oZ_i, oZ_s, oZ_l, slen_map, wr64, Int.toNat_natCast, Int.toNat_zero, ne_eq, bin_lt, bin_slt, bin_gt, b_sgt, bin_eq, b_snil, beq_4, bin_ne, b_snnil, bne_4, ext_t, List.getElem?_cons_zero, List.getElem?_cons_succ, len_9, idx_9, ofc_encXStep, ofc0_encXStep, st_XStep, fld_XStep_kind_, fld_XStep_name_, fld_XStep_index_, fld_XStep_value_, prt_XStep_kind_, prt_XStep_name_, prt_XStep_index_, prt_XStep_value_, join1_eq, gtt_1, gff_1, gtf_1, gft_1, gvv_1, gnt_1, gnf_1, gtt_2, gff_2, gtf_2, gft_2, gvv_2, gnt_2, gnf_2, gtt_3, gff_3, gtf_3, gft_3, gvv_3, gnt_3, gnf_3, gtt_4, gff_4, gtf_4, gft_4, gvv_4, gnt_4, gnf_4, l0', qe, qg, h1, h2, e0, r.eq, nn, g', ozib]
          · have g' : decide ((64 : Int) < ((valD 0 s : Nat) : Int)) = false := decide_eq_false (by omega)
            rw [show min (valD 0 s) 65 = valD 0 s by omega]
            simp (disch := first | omega | assumption | exact scell | exact clen_XStep | (simp only [clen_XStep]; omega)) only [Nat.zero_add, oV_some', oN_eq, oM_some, oH_some, oD_some, oE_some, oS_eq, oT_true, oI_true, oI_false, pick_t, pick_f, un_not, oI_not, decide_not, toNat_sub1, toNat_add1, decide_true, decide_false, not_true, not_false_eq_true, Bool.not_true, Bool.not_false, Bool.not_not, oZ_b, oZ_i, oZ_s, oZ_l, slen_map, wr64, Int.toNat_natCast, Int.toNat_zero, ne_eq, bin_lt, bin_slt, bin_gt, b_sgt, bin_eq, b_snil, beq_4, bin_ne, b_snnil, bne_4, ext_t, List.getElem?_cons_zero, List.getElem?_cons_succ, len_9, idx_9, ofc_encXStep, ofc0_encXStep, st_XStep, fld_XStep_kind_, fld_XStep_name_, fld_XStep_index_, fld_XStep_value_, prt_XStep_kind_, prt_XStep_name_, prt_XStep_index_, prt_XStep_value_, join1_eq, gtt_1, gff_1, gtf_1, gft_1, gvv_1, gnt_1, gnf_1, gtt_2, gff_2, gtf_2, gft_2, gvv_2, gnt_2, gnf_2, gtt_3, gff_3, gtf_3, gft_3, gvv_3, gnt_3, gnf_3, gtt_4, gff_4, gtf_4, gft_4, gvv_4, gnt_4, gnf_4, l0', qe, qg, h1, h2, e0, r.eq, nn, g', ozib]
        · rw [show min (valD 0 s) 65 = 65 by omega, show ((65 : Nat) : Int) = 65 from rfl]
          simp (disch := first | omega | assumption | exact scell | exact clen_XStep | (simp only [clen_XStep]; omega)) only [Nat.zero_add, oV_some', oN_eq, oM_some, oH_some, oD_some, oE_some, oS_eq, oT_true, oI_true, oI_false, pick_t, pick_f, un_not, oI_not, decide_not, toNat_sub1, toNat_add1, decide_true, decide_false, not_true, not_false_eq_true, Bool.not_true, Bool.not_false, Bool.not_not, oZ_b, oZ_i, oZ_s, oZ_l, slen_map, wr64, Int.toNat_natCast, Int.toNat_zero, ne_eq, bin_lt, bin_slt, bin_gt, b_sgt, bin_eq, b_snil, beq_4, bin_ne, b_snnil, bne_4, ext_t, List.getElem?_cons_zero, List.getElem?_cons_succ, len_9, idx_9, ofc_encXStep, ofc0_encXStep, st_XStep, fld_XStep_kind_, fld_XStep_name_, fld_XStep_index_, fld_XStep_value_, prt_XStep_kind_, prt_XStep_name_, prt_XStep_index_, prt_XStep_value_, join1_eq, gtt_1, gff_1, gtf_1, gft_1, gvv_1, gnt_1, gnf_1, gtt_2, gff_2, gtf_2, gft_2, gvv_2, gnt_2, gnf_2, gtt_3, gff_3, gtf_3, gft_3, gvv_3, gnt_3, gnf_3, gtt_4, gff_4, gtf_4, gft_4, gvv_4, gnt_4, gnf_4, l0', qe, qg, h1, h2, e0, r.eq, ni, ozib]
theorem e64 {s : List UInt8} (hl : s.length ≤ 1048576) {d : Nat} {σ : AS} {K : AV → AS → Prop} : oC T0 d 64 [.s s] σ K = K (ixR s) σ := (c64 s hl).eq d σ K
end Go.Proofs.YtmfhmlhaofpeiaaGreatDoor.Ev
