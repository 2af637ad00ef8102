/- Print: the program's; law PathPrints. -/
import Derived.Test.YtmfhmlhaofpeiaaGreatDoorV15
namespace Go.Proofs.YtmfhmlhaofpeiaaGreatDoor.Ev
open Go Go.RowKit
set_option linter.unusedSimpArgs false
set_option linter.unusedVariables false
set_option maxRecDepth 100000

theorem c20 (p : List XStep) (hp : p.length ≤ 140737488351232) (ox : ∀ x ∈ p, okXStep x) : R T0 20 [.lst (p.map encXStep)] (prR p) := by
  refine r20 _ rfl rfl ?_
  unfold w20
  dsimp only [prims]
  by_cases hb : pathB p = true
  · obtain ⟨hl, hv⟩ := path_facts hb
    rw [show prR p = .tup [.s (prT p p.length), .i .i64 0] from if_pos hb]
    rw [e13 hp ox, hb, un_not, oV_some', Bool.not_true, oI_false, oN_eq, len_22, oV_some']
    simp only [slen_map]
    have b0 : Bld (Tr.nil.put 0 (some (.cells [.nilp, .nilz true] 65 false))) 1 0 [] none := bld_new
    refine loop4 (X := Nat) (fun _ => .ptr 0 0) (fun _ => .lst (p.map encXStep)) (fun _ => .i .i64 (p.length : Nat)) (fun j => .i .i64 (j : Nat)) (fun j σ => j ≤ p.length ∧ ∃ o, Bld σ.h σ.n 0 (prT p j) o) (fun j => p.length - j) ?_ 0 _ ⟨Nat.zero_le _, none, b0⟩
    rintro R j ⟨h, n⟩ ⟨hj, o, hB⟩ hR
    dsimp only at hB
    simp (disch := first | omega | assumption | exact scell | exact clen_XStep | (simp only [clen_XStep]; omega)) only [oV_some', bin_lt]
    refine oI_decd (fun hlt => ?_) (fun hlt => ?_)
    · have hj' : j < p.length := by omega
      have hA := prT_len hv j hj
      obtain ⟨hk, hn, hq, hc, hi⟩ := step_facts (hv _ (getD_mem hj'))
      have hd := dec_len (p.getD j default).index_.toNat
      have hqs := quS_len (p.getD j default).value_
      have hR' := hR (j + 1)
      rw [show prT p (j + 1) = prT p j ++ stP j (p.getD j default) from rfl] at hR'
      have hAz : j = 0 → prT p j = [] := fun e => by subst e; rfl
      have hid := hB.1
      have hoid := hB.2.2.2
      have hB1 : Bld ((h.put n (some (.cells [.i .i64 0, .s [], .i .i64 0, .s []] 50 false))).put n (some (.cells (encXStep (p.getD j default)).cells 50 false))) (n + 1) 0 (prT p j) o := hB.same (Nat.le_succ _) (fun i hi => by
        have : i ≠ n := by
          rcases hi with rfl | hi
          · omega
          · intro e; subst e; rw [hi] at hB; have := hB.2.2.1.2.1; omega
        rw [get_put_ne _ _ this, get_put_ne _ _ this])
      have hon : o ≠ some n := fun e => by rw [e] at hB; have := hB.2.2.1.2.1; omega
      generalize prT p j = A at hA hAz hR' hB1
      rcases hk with k | k | k
      · have d1 : decide ((p.getD j default).kind_ = 1) = true := decide_eq_true (by omega)
        by_cases h0 : j = 0
        · subst h0
          have d0 : decide ((0 : Int) < ((0 : Nat) : Int)) = false := rfl
          rw [show stP 0 (p.getD 0 default) = (p.getD 0 default).name_ by unfold stP; rw [if_neg (by omega), if_neg (by omega), if_pos rfl]] at hR'
          obtain ⟨σ2, r2, t2⟩ := c42 (p.getD 0 default).name_ hB1 (by omega)
          obtain ⟨o2, b2, -⟩ := t2
          simp (disch := first | first | omega | assumption | exact scell | exact clen_XStep | (simp only [clen_XStep]; omega) | (simp only [List.length_append, List.length_cons, List.length_nil]; omega)) only [Nat.zero_add, oV_some', oN_eq, oM_some, oH_some, oD_some, oE_some, oS_eq, oT_true, oI_true, oI_false, pick_t, pick_f, un_not, oI_not, decide_not, toNat_sub1, toNat_add1, decide_true, decide_false, not_true, not_false_eq_true, Bool.not_true, Bool.not_false, Bool.not_not, oZ_b, oZ_i, oZ_s, oZ_l, slen_map, wr64, Int.toNat_natCast, Int.toNat_zero, ne_eq, bin_lt, bin_slt, bin_gt, b_sgt, bin_eq, b_snil, beq_4, bin_add, load_get, loadB_some, get_put_same, get_put_ne, ofc_s, load_i, off_i, off_p, ofc_encXStep, ofc0_encXStep, st_XStep, fld_XStep_kind_, fld_XStep_name_, fld_XStep_index_, fld_XStep_value_, prt_XStep_kind_, prt_XStep_name_, prt_XStep_index_, prt_XStep_value_, len_22, ia_22, join4_eq, join5_eq, Int.toNat_natCast, oN_eq, store_all, sz_50, d1, d0, r2.eq]
          exact hR' _ ⟨show 0 + 1 ≤ p.length by omega, o2, b2⟩ (by omega)
        · have d0 : decide ((0 : Int) < ((j : Nat) : Int)) = true := decide_eq_true (by omega)
          rw [show stP j (p.getD j default) = [46] ++ (p.getD j default).name_ by unfold stP; rw [if_neg (by omega), if_neg (by omega), if_neg h0], ← List.append_assoc] at hR'
          obtain ⟨σ2, r2, t2⟩ := c41 46 hB1 (by omega)
          obtain ⟨o2, b2, k1, k2, k3⟩ := t2.keep (Nat.lt_succ_self n) (by omega) hon (get_put_same _ _ _)
          obtain ⟨σ3, r3, t3⟩ := c42 (p.getD j default).name_ b2 (by rw [List.length_append]; simp only [List.length_cons, List.length_nil]; omega)
          obtain ⟨o3, b3, -⟩ := t3
          rw [show bA 46 = AV.i .u8 46 from rfl] at r2
          simp (disch := first | first | omega | assumption | exact scell | exact clen_XStep | (simp only [clen_XStep]; omega) | (simp only [List.length_append, List.length_cons, List.length_nil]; omega)) only [Nat.zero_add, oV_some', oN_eq, oM_some, oH_some, oD_some, oE_some, oS_eq, oT_true, oI_true, oI_false, pick_t, pick_f, un_not, oI_not, decide_not, toNat_sub1, toNat_add1, decide_true, decide_false, not_true, not_false_eq_true, Bool.not_true, Bool.not_false, Bool.not_not, oZ_b, oZ_i, oZ_s, oZ_l, slen_map, wr64, Int.toNat_natCast, Int.toNat_zero, ne_eq, bin_lt, bin_slt, bin_gt, b_sgt, bin_eq, b_snil, beq_4, bin_add, load_get, loadB_some, get_put_same, get_put_ne, ofc_s, load_i, off_i, off_p, ofc_encXStep, ofc0_encXStep, st_XStep, fld_XStep_kind_, fld_XStep_name_, fld_XStep_index_, fld_XStep_value_, prt_XStep_kind_, prt_XStep_name_, prt_XStep_index_, prt_XStep_value_, len_22, ia_22, join4_eq, join5_eq, Int.toNat_natCast, oN_eq, store_all, sz_50, d1, d0, r2.eq, r3.eq, k3]
          exact hR' _ ⟨show j + 1 ≤ p.length by omega, o3, b3⟩ (by omega)
      · have d1 : decide ((p.getD j default).kind_ = 1) = false := decide_eq_false (by omega)
        have d2 : decide ((p.getD j default).kind_ = 2) = true := decide_eq_true k
        rw [show stP j (p.getD j default) = [91] ++ dec (p.getD j default).index_.toNat ++ [93] from if_pos k] at hR'
        have ed := fun (d : Nat) (σ : AS) (K : AV → AS → Prop) => ito_at (hi k).1 (hi k).2 (d := d) (σ := σ) (K := K)
        obtain ⟨σ2, r2, t2⟩ := c42 ([91] ++ dec (p.getD j default).index_.toNat ++ [93]) hB1 (by simp only [List.length_append, List.length_cons, List.length_nil]; omega)
        obtain ⟨o2, b2, -⟩ := t2
        simp (disch := first | first | omega | assumption | exact scell | exact clen_XStep | (simp only [clen_XStep]; omega) | (simp only [List.length_append, List.length_cons, List.length_nil]; omega)) only [Nat.zero_add, oV_some', oN_eq, oM_some, oH_some, oD_some, oE_some, oS_eq, oT_true, oI_true, oI_false, pick_t, pick_f, un_not, oI_not, decide_not, toNat_sub1, toNat_add1, decide_true, decide_false, not_true, not_false_eq_true, Bool.not_true, Bool.not_false, Bool.not_not, oZ_b, oZ_i, oZ_s, oZ_l, slen_map, wr64, Int.toNat_natCast, Int.toNat_zero, ne_eq, bin_lt, bin_slt, bin_gt, b_sgt, bin_eq, b_snil, beq_4, bin_add, load_get, loadB_some, get_put_same, get_put_ne, ofc_s, load_i, off_i, off_p, ofc_encXStep, ofc0_encXStep, st_XStep, fld_XStep_kind_, fld_XStep_name_, fld_XStep_index_, fld_XStep_value_, prt_XStep_kind_, prt_XStep_name_, prt_XStep_index_, prt_XStep_value_, len_22, ia_22, join4_eq, join5_eq, Int.toNat_natCast, oN_eq, store_all, sz_50, d1, d2, ed, sadd, r2.eq]
        exact hR' _ ⟨show j + 1 ≤ p.length by omega, o2, b2⟩ (by omega)
      · have d1 : decide ((p.getD j default).kind_ = 1) = false := decide_eq_false (by omega)
        have d2 : decide ((p.getD j default).kind_ = 2) = false := decide_eq_false (by omega)
        have d3 : decide ((p.getD j default).kind_ = 3) = true := decide_eq_true (by omega)
        rw [show stP j (p.getD j default) = [91] ++ (p.getD j default).name_ ++ [61] ++ quS (p.getD j default).value_ ++ [93] by unfold stP; rw [if_neg (by omega), if_pos k]] at hR'
        have eq := fun (d : Nat) (σ : AS) (K : AV → AS → Prop) => e44 (s := (p.getD j default).value_) (by omega) hc (d := d) (σ := σ) (K := K)
        obtain ⟨σ2, r2, t2⟩ := c42 ([91] ++ (p.getD j default).name_ ++ [61] ++ quS (p.getD j default).value_ ++ [93]) hB1 (by simp only [List.length_append, List.length_cons, List.length_nil]; omega)
        obtain ⟨o2, b2, -⟩ := t2
        simp (disch := first | first | omega | assumption | exact scell | exact clen_XStep | (simp only [clen_XStep]; omega) | (simp only [List.length_append, List.length_cons, List.length_nil]; omega)) only [Nat.zero_add, oV_some', oN_eq, oM_some, oH_some, oD_some, oE_some, oS_eq, oT_true, oI_true, oI_false, pick_t, pick_f, un_not, oI_not, decide_not, toNat_sub1, toNat_add1, decide_true, decide_false, not_true, not_false_eq_true, Bool.not_true, Bool.not_false, Bool.not_not, oZ_b, oZ_i, oZ_s, oZ_l, slen_map, wr64, Int.toNat_natCast, Int.toNat_zero, ne_eq, bin_lt, bin_slt, bin_gt, b_sgt, bin_eq, b_snil, beq_4, bin_add, load_get, loadB_some, get_put_same, get_put_ne, ofc_s, load_i, off_i, off_p, ofc_encXStep, ofc0_encXStep, st_XStep, fld_XStep_kind_, fld_XStep_name_, fld_XStep_index_, fld_XStep_value_, prt_XStep_kind_, prt_XStep_name_, prt_XStep_index_, prt_XStep_value_, len_22, ia_22, join4_eq, join5_eq, Int.toNat_natCast, oN_eq, store_all, sz_50, d1, d2, d3, eq, sadd, r2.eq]
        exact hR' _ ⟨show j + 1 ≤ p.length by omega, o2, b2⟩ (by omega)
    · have : j = p.length := by omega
      subst this
      have hA := prT_len hv p.length (Nat.le_refl _)
      rw [(c45 hB (by omega)).eq, ozt]
  · rw [show prR p = .tup [.s [], .i .i64 1] from if_neg hb]
    rw [e13 hp ox, Bool.not_eq_true _ |>.mp hb, un_not, oV_some', Bool.not_false, oI_true, ozt]
theorem e20 {p : List XStep} (hp : p.length ≤ 140737488351232) (ox : ∀ x ∈ p, okXStep x) {d : Nat} {σ : AS} {K : AV → AS → Prop} : oC T0 d 20 [.lst (p.map encXStep)] σ K = K (prR p) σ := (c20 p hp ox).eq d σ K
theorem law_PathPrints (p : List XStep) (op : p.length * 48 ≤ 140737488351232 ∧ ∀ x ∈ p, okXStep x) : R T0 5 [.lst (p.map encXStep)] (.b true) := by
  have hp : p.length ≤ 140737488351232 := by have := op.1; omega
  have eb : ∀ a : List UInt8, evBin T0 .eql 9 false (.s a) (.s a) = some (.b true) := fun a => by rw [bin_seq]; simp
  refine r5 _ rfl rfl ?_
  unfold w5
  dsimp only [prims]
  cases h1 : fewB p
  · simp (disch := first | omega | assumption | exact scell | exact clen_XStep | (simp only [clen_XStep]; omega)) only [Nat.zero_add, oV_some', oN_eq, oM_some, oH_some, oD_some, oE_some, oS_eq, oT_true, oI_true, oI_false, pick_t, pick_f, un_not, oI_not, decide_not, toNat_sub1, toNat_add1, decide_true, decide_false, not_true, not_false_eq_true, Bool.not_true, Bool.not_false, Bool.not_not, oZ_b, oZ_i, oZ_s, oZ_l, slen_map, wr64, Int.toNat_natCast, Int.toNat_zero, ne_eq, bin_lt, bin_slt, bin_le, b_sle, bin_gt, b_sgt, bin_ge, bin_sge, bin_eq, b_snil, beq_4, bin_ne, b_snnil, bne_4, bin_add, bin_sub, min5, load_get, loadB_some, get_put_same, get_put_ne, ofc_s, load_i, off_i, off_p, part_a, nilc_p, nilc_i, nilc_f, ext_t, List.getElem?_cons_zero, List.getElem?_cons_succ, len_9, idx_9, ofc_encXStep, ofc0_encXStep, st_XStep, fld_XStep_kind_, fld_XStep_name_, fld_XStep_index_, fld_XStep_value_, prt_XStep_kind_, prt_XStep_name_, prt_XStep_index_, prt_XStep_value_, join0_eq, join1_eq, join2_eq, join3_eq, join4_eq, join5_eq, join6_eq, join7_eq, join8_eq, gtt_0, gff_0, gtf_0, gft_0, gvv_0, gnt_0, gnf_0, gtt_1, gff_1, gtf_1, gft_1, gvv_1, gnt_1, gnf_1, gtt_2, gff_2, gtf_2, gft_2, gvv_2, gnt_2, gnf_2, gtt_3, gff_3, gtf_3, gft_3, gvv_3, gnt_3, gnf_3, gtt_4, gff_4, gtf_4, gft_4, gvv_4, gnt_4, gnf_4, gtt_5, gff_5, gtf_5, gft_5, gvv_5, gnt_5, gnf_5, gtt_6, gff_6, gtf_6, gft_6, gvv_6, gnt_6, gnf_6, gtt_7, gff_7, gtf_7, gft_7, gvv_7, gnt_7, gnf_7, gtt_8, gff_8, gtf_8, gft_8, gvv_8, gnt_8, gnf_8, gtt_9, gff_9, gtf_9, gft_9, gvv_9, gnt_9, gnf_9, gtt_10, gff_10, gtf_10, gft_10, gvv_10, gnt_10, gnf_10, gtt_11, gff_11, gtf_11, gft_11, gvv_11, gnt_11, gnf_11, gtt_12, gff_12, gtf_12, gft_12, gvv_12, gnt_12, gnf_12, gtt_13, gff_13, gtf_13, gft_13, gvv_13, gnt_13, gnf_13, gtt_14, gff_14, gtf_14, gft_14, gvv_14, gnt_14, gnf_14, gtt_15, gff_15, gtf_15, gft_15, gvv_15, gnt_15, gnf_15, e11 hp op.2, h1, e12]
  · by_cases hb : pathB p = true
    · have hr : prR p = .tup [.s (prT p p.length), .i .i64 0] := if_pos hb
      simp (disch := first | omega | assumption | exact scell | exact clen_XStep | (simp only [clen_XStep]; omega)) only [Nat.zero_add, oV_some', oN_eq, oM_some, oH_some, oD_some, oE_some, oS_eq, oT_true, oI_true, oI_false, pick_t, pick_f, un_not, oI_not, decide_not, toNat_sub1, toNat_add1, decide_true, decide_false, not_true, not_false_eq_true, Bool.not_true, Bool.not_false, Bool.not_not, oZ_b, oZ_i, oZ_s, oZ_l, slen_map, wr64, Int.toNat_natCast, Int.toNat_zero, ne_eq, bin_lt, bin_slt, bin_le, b_sle, bin_gt, b_sgt, bin_ge, bin_sge, bin_eq, b_snil, beq_4, bin_ne, b_snnil, bne_4, bin_add, bin_sub, min5, load_get, loadB_some, get_put_same, get_put_ne, ofc_s, load_i, off_i, off_p, part_a, nilc_p, nilc_i, nilc_f, ext_t, List.getElem?_cons_zero, List.getElem?_cons_succ, len_9, idx_9, ofc_encXStep, ofc0_encXStep, st_XStep, fld_XStep_kind_, fld_XStep_name_, fld_XStep_index_, fld_XStep_value_, prt_XStep_kind_, prt_XStep_name_, prt_XStep_index_, prt_XStep_value_, join0_eq, join1_eq, join2_eq, join3_eq, join4_eq, join5_eq, join6_eq, join7_eq, join8_eq, gtt_0, gff_0, gtf_0, gft_0, gvv_0, gnt_0, gnf_0, gtt_1, gff_1, gtf_1, gft_1, gvv_1, gnt_1, gnf_1, gtt_2, gff_2, gtf_2, gft_2, gvv_2, gnt_2, gnf_2, gtt_3, gff_3, gtf_3, gft_3, gvv_3, gnt_3, gnf_3, gtt_4, gff_4, gtf_4, gft_4, gvv_4, gnt_4, gnf_4, gtt_5, gff_5, gtf_5, gft_5, gvv_5, gnt_5, gnf_5, gtt_6, gff_6, gtf_6, gft_6, gvv_6, gnt_6, gnf_6, gtt_7, gff_7, gtf_7, gft_7, gvv_7, gnt_7, gnf_7, gtt_8, gff_8, gtf_8, gft_8, gvv_8, gnt_8, gnf_8, gtt_9, gff_9, gtf_9, gft_9, gvv_9, gnt_9, gnf_9, gtt_10, gff_10, gtf_10, gft_10, gvv_10, gnt_10, gnf_10, gtt_11, gff_11, gtf_11, gft_11, gvv_11, gnt_11, gnf_11, gtt_12, gff_12, gtf_12, gft_12, gvv_12, gnt_12, gnf_12, gtt_13, gff_13, gtf_13, gft_13, gvv_13, gnt_13, gnf_13, gtt_14, gff_14, gtf_14, gft_14, gvv_14, gnt_14, gnf_14, gtt_15, gff_15, gtf_15, gft_15, gvv_15, gnt_15, gnf_15, e11 hp op.2, h1, e12, e20 hp op.2, e21 hp op.2, hr, eb]
    · have hr : prR p = .tup [.s [], .i .i64 1] := if_neg hb
      simp (disch := first | omega | assumption | exact scell | exact clen_XStep | (simp only [clen_XStep]; omega)) only [Nat.zero_add, oV_some', oN_eq, oM_some, oH_some, oD_some, oE_some, oS_eq, oT_true, oI_true, oI_false, pick_t, pick_f, un_not, oI_not, decide_not, toNat_sub1, toNat_add1, decide_true, decide_false, not_true, not_false_eq_true, Bool.not_true, Bool.not_false, Bool.not_not, oZ_b, oZ_i, oZ_s, oZ_l, slen_map, wr64, Int.toNat_natCast, Int.toNat_zero, ne_eq, bin_lt, bin_slt, bin_le, b_sle, bin_gt, b_sgt, bin_ge, bin_sge, bin_eq, b_snil, beq_4, bin_ne, b_snnil, bne_4, bin_add, bin_sub, min5, load_get, loadB_some, get_put_same, get_put_ne, ofc_s, load_i, off_i, off_p, part_a, nilc_p, nilc_i, nilc_f, ext_t, List.getElem?_cons_zero, List.getElem?_cons_succ, len_9, idx_9, ofc_encXStep, ofc0_encXStep, st_XStep, fld_XStep_kind_, fld_XStep_name_, fld_XStep_index_, fld_XStep_value_, prt_XStep_kind_, prt_XStep_name_, prt_XStep_index_, prt_XStep_value_, join0_eq, join1_eq, join2_eq, join3_eq, join4_eq, join5_eq, join6_eq, join7_eq, join8_eq, gtt_0, gff_0, gtf_0, gft_0, gvv_0, gnt_0, gnf_0, gtt_1, gff_1, gtf_1, gft_1, gvv_1, gnt_1, gnf_1, gtt_2, gff_2, gtf_2, gft_2, gvv_2, gnt_2, gnf_2, gtt_3, gff_3, gtf_3, gft_3, gvv_3, gnt_3, gnf_3, gtt_4, gff_4, gtf_4, gft_4, gvv_4, gnt_4, gnf_4, gtt_5, gff_5, gtf_5, gft_5, gvv_5, gnt_5, gnf_5, gtt_6, gff_6, gtf_6, gft_6, gvv_6, gnt_6, gnf_6, gtt_7, gff_7, gtf_7, gft_7, gvv_7, gnt_7, gnf_7, gtt_8, gff_8, gtf_8, gft_8, gvv_8, gnt_8, gnf_8, gtt_9, gff_9, gtf_9, gft_9, gvv_9, gnt_9, gnf_9, gtt_10, gff_10, gtf_10, gft_10, gvv_10, gnt_10, gnf_10, gtt_11, gff_11, gtf_11, gft_11, gvv_11, gnt_11, gnf_11, gtt_12, gff_12, gtf_12, gft_12, gvv_12, gnt_12, gnf_12, gtt_13, gff_13, gtf_13, gft_13, gvv_13, gnt_13, gnf_13, gtt_14, gff_14, gtf_14, gft_14, gvv_14, gnt_14, gnf_14, gtt_15, gff_15, gtf_15, gft_15, gvv_15, gnt_15, gnf_15, e11 hp op.2, h1, e12, e20 hp op.2, e21 hp op.2, hr, eb]
end Go.Proofs.YtmfhmlhaofpeiaaGreatDoor.Ev
