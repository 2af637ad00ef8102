/- Prefixes; the law PathValid. -/
import Derived.Test.YtmfhmlhaofpeiaaGreatDoorV10
namespace Go.Proofs.YtmfhmlhaofpeiaaGreatDoor.Ev
open Go Go.RowKit
set_option linter.unusedSimpArgs false
set_option linter.unusedVariables false
set_option maxRecDepth 100000

theorem take_eq_succ {α : Type} [Inhabited α] {a b : List α} {j : Nat} (ha : j < a.length) (hb : j < b.length) (h : a.take j = b.take j) (he : a.getD j default = b.getD j default) : a.take (j + 1) = b.take (j + 1) := by
  rw [take_snoc ha, take_snoc hb, h, he]
theorem take_ne {α : Type} [Inhabited α] {a b : List α} {j : Nat} (he : ¬ a.getD j default = b.getD j default) : ¬ a = b := fun e => he (by rw [e])
theorem c37 (a b : List XStep) (ha : a.length ≤ 140737488351232) (hb : b.length ≤ 140737488351232) : R T0 37 [.lst (a.map encXStep), .lst (b.map encXStep)] (.b (decide (a = b))) := by
  refine r37 _ _ rfl rfl ?_
  unfold w37
  dsimp only [prims]
  by_cases hl : a.length = b.length
  · have hl' : decide (((a.length : Nat) : Int) = (b.length : Nat)) = true := decide_eq_true (by omega)
    simp (disch := first | omega | assumption | exact scell | exact clen_XStep | (simp only [clen_XStep]; omega)) only [Nat.zero_add, oV_some', oN_eq, oM_some, oH_some, oD_some, oE_some, oS_eq, oT_true, oI_true, oI_false, pick_t, pick_f, un_not, oI_not, decide_not, toNat_sub1, toNat_add1, decide_true, decide_false, not_true, not_false_eq_true, Bool.not_true, Bool.not_false, Bool.not_not, oZ_b, oZ_i, oZ_s, oZ_l, slen_map, wr64, Int.toNat_natCast, Int.toNat_zero, ne_eq, bin_lt, bin_slt, bin_ne, b_snnil, bne_4, bin_add, load_get, loadB_some, get_put_same, get_put_ne, ofc_s, load_i, ofc_encXStep, ofc0_encXStep, st_XStep, fld_XStep_kind_, fld_XStep_name_, fld_XStep_index_, fld_XStep_value_, prt_XStep_kind_, prt_XStep_name_, prt_XStep_index_, prt_XStep_value_, len_22, ia_22, hl']
    refine loop4 (X := Nat) (fun _ => .lst (b.map encXStep)) (fun _ => .lst (a.map encXStep)) (fun _ => .i .i64 (a.length : Nat)) (fun j => .i .i64 (j : Nat)) (fun j σ => j ≤ a.length ∧ a.take j = b.take j) (fun j => a.length - j) ?_ 0 _ ⟨Nat.zero_le _, rfl⟩
    rintro R j σ ⟨hj, ht⟩ hR
    simp only [oV_some', bin_lt]
    refine oI_decd (fun h => ?_) (fun h => ?_)
    · have hj' : j < a.length := by omega
      by_cases q : a.getD j default = b.getD j default
      · simp (disch := first | omega | assumption | exact scell | exact clen_XStep | (simp only [clen_XStep]; omega)) only [Nat.zero_add, oV_some', oN_eq, oM_some, oH_some, oD_some, oE_some, oS_eq, oT_true, oI_true, oI_false, pick_t, pick_f, un_not, oI_not, decide_not, toNat_sub1, toNat_add1, decide_true, decide_false, not_true, not_false_eq_true, Bool.not_true, Bool.not_false, Bool.not_not, oZ_b, oZ_i, oZ_s, oZ_l, slen_map, wr64, Int.toNat_natCast, Int.toNat_zero, ne_eq, bin_lt, bin_slt, bin_ne, b_snnil, bne_4, bin_add, load_get, loadB_some, get_put_same, get_put_ne, ofc_s, load_i, ofc_encXStep, ofc0_encXStep, st_XStep, fld_XStep_kind_, fld_XStep_name_, fld_XStep_index_, fld_XStep_value_, prt_XStep_kind_, prt_XStep_name_, prt_XStep_index_, prt_XStep_value_, len_22, ia_22, Int.toNat_natCast, bne_50, decide_eq_true q]
        exact hR (j + 1) _ ⟨by omega, take_eq_succ hj' (by omega) ht q⟩ (by omega)
      · simp (disch := first | omega | assumption | exact scell | exact clen_XStep | (simp only [clen_XStep]; omega)) only [Nat.zero_add, oV_some', oN_eq, oM_some, oH_some, oD_some, oE_some, oS_eq, oT_true, oI_true, oI_false, pick_t, pick_f, un_not, oI_not, decide_not, toNat_sub1, toNat_add1, decide_true, decide_false, not_true, not_false_eq_true, Bool.not_true, Bool.not_false, Bool.not_not, oZ_b, oZ_i, oZ_s, oZ_l, slen_map, wr64, Int.toNat_natCast, Int.toNat_zero, ne_eq, bin_lt, bin_slt, bin_ne, b_snnil, bne_4, bin_add, load_get, loadB_some, get_put_same, get_put_ne, ofc_s, load_i, ofc_encXStep, ofc0_encXStep, st_XStep, fld_XStep_kind_, fld_XStep_name_, fld_XStep_index_, fld_XStep_value_, prt_XStep_kind_, prt_XStep_name_, prt_XStep_index_, prt_XStep_value_, len_22, ia_22, Int.toNat_natCast, bne_50, decide_eq_false q]
        rw [decide_eq_false (take_ne q)]
    · have : a = b := by
        have h1 : a.take j = a := List.take_of_length_le (by omega)
        have h2 : b.take j = b := List.take_of_length_le (by omega)
        rw [← h1, ht, h2]
      try rw [oZ_b]
      rw [decide_eq_true this]
  · have hl' : decide (((a.length : Nat) : Int) = (b.length : Nat)) = false := decide_eq_false (by omega)
    simp (disch := first | omega | assumption | exact scell | exact clen_XStep | (simp only [clen_XStep]; omega)) only [Nat.zero_add, oV_some', oN_eq, oM_some, oH_some, oD_some, oE_some, oS_eq, oT_true, oI_true, oI_false, pick_t, pick_f, un_not, oI_not, decide_not, toNat_sub1, toNat_add1, decide_true, decide_false, not_true, not_false_eq_true, Bool.not_true, Bool.not_false, Bool.not_not, oZ_b, oZ_i, oZ_s, oZ_l, slen_map, wr64, Int.toNat_natCast, Int.toNat_zero, ne_eq, bin_lt, bin_slt, bin_ne, b_snnil, bne_4, bin_add, load_get, loadB_some, get_put_same, get_put_ne, ofc_s, load_i, ofc_encXStep, ofc0_encXStep, st_XStep, fld_XStep_kind_, fld_XStep_name_, fld_XStep_index_, fld_XStep_value_, prt_XStep_kind_, prt_XStep_name_, prt_XStep_index_, prt_XStep_value_, len_22, ia_22, hl']
    rw [decide_eq_false (fun e => hl (by rw [e]))]
def hpB (p q : List XStep) : Bool := decide (q.length ≤ p.length) && decide (p.take q.length = q)
theorem c16 (p q : List XStep) (hp : p.length ≤ 140737488351232) (hq : q.length ≤ 140737488351232) : R T0 16 [.lst (p.map encXStep), .lst (q.map encXStep)] (.b (hpB p q)) := by
  refine r16 _ _ rfl rfl ?_
  unfold w16
  dsimp only [prims]
  by_cases hl : q.length ≤ p.length
  · have hl' : decide (((p.length : Nat) : Int) < (q.length : Nat)) = false := decide_eq_false (by omega)
    simp (disch := first | omega | assumption | exact scell | exact clen_XStep | (simp only [clen_XStep]; omega)) only [len_22, slen_map, oV_some', bin_lt, hl', oI_false]
    refine loop3 (X := Nat) (fun _ => .lst (q.map encXStep)) (fun _ => .lst (p.map encXStep)) (fun j => .i .i64 (j : Nat)) (fun j σ => j ≤ q.length ∧ p.take j = q.take j) (fun j => q.length - j) ?_ 0 _ ⟨Nat.zero_le _, rfl⟩
    rintro R j σ ⟨hj, ht⟩ hR
    simp (disch := first | omega | assumption | exact scell | exact clen_XStep | (simp only [clen_XStep]; omega)) only [oV_some', len_22, slen_map, bin_lt]
    refine oI_decd (fun h => ?_) (fun h => ?_)
    · have hj' : j < q.length := by omega
      by_cases w : p.getD j default = q.getD j default
      · simp (disch := first | omega | assumption | exact scell | exact clen_XStep | (simp only [clen_XStep]; omega)) only [Nat.zero_add, oV_some', oN_eq, oM_some, oH_some, oD_some, oE_some, oS_eq, oT_true, oI_true, oI_false, pick_t, pick_f, un_not, oI_not, decide_not, toNat_sub1, toNat_add1, decide_true, decide_false, not_true, not_false_eq_true, Bool.not_true, Bool.not_false, Bool.not_not, oZ_b, oZ_i, oZ_s, oZ_l, slen_map, wr64, Int.toNat_natCast, Int.toNat_zero, ne_eq, bin_lt, bin_slt, bin_ne, b_snnil, bne_4, bin_add, load_get, loadB_some, get_put_same, get_put_ne, ofc_s, load_i, ofc_encXStep, ofc0_encXStep, st_XStep, fld_XStep_kind_, fld_XStep_name_, fld_XStep_index_, fld_XStep_value_, prt_XStep_kind_, prt_XStep_name_, prt_XStep_index_, prt_XStep_value_, len_22, ia_22, Int.toNat_natCast, bne_50, decide_eq_true w]
        exact hR (j + 1) _ ⟨by omega, take_eq_succ (by omega) hj' ht w⟩ (by omega)
      · simp (disch := first | omega | assumption | exact scell | exact clen_XStep | (simp only [clen_XStep]; omega)) only [Nat.zero_add, oV_some', oN_eq, oM_some, oH_some, oD_some, oE_some, oS_eq, oT_true, oI_true, oI_false, pick_t, pick_f, un_not, oI_not, decide_not, toNat_sub1, toNat_add1, decide_true, decide_false, not_true, not_false_eq_true, Bool.not_true, Bool.not_false, Bool.not_not, oZ_b, oZ_i, oZ_s, oZ_l, slen_map, wr64, Int.toNat_natCast, Int.toNat_zero, ne_eq, bin_lt, bin_slt, bin_ne, b_snnil, bne_4, bin_add, load_get, loadB_some, get_put_same, get_put_ne, ofc_s, load_i, ofc_encXStep, ofc0_encXStep, st_XStep, fld_XStep_kind_, fld_XStep_name_, fld_XStep_index_, fld_XStep_value_, prt_XStep_kind_, prt_XStep_name_, prt_XStep_index_, prt_XStep_value_, len_22, ia_22, Int.toNat_natCast, bne_50, decide_eq_false w]
        have : ¬ p.take q.length = q := fun e => w (by
          have h1 := congrArg (fun l => l.getD j default) e
          simp only [List.getD_eq_getElem?_getD, List.getElem?_take, if_pos hj'] at h1
          rw [List.getD_eq_getElem?_getD, List.getD_eq_getElem?_getD, h1])
        unfold hpB; rw [decide_eq_false this, Bool.and_false]
    · have : p.take q.length = q := by
        obtain rfl : j = q.length := by omega
        rw [ht, List.take_length]
      try rw [oZ_b]
      unfold hpB; rw [decide_eq_true hl, decide_eq_true this]; rfl
  · have hl' : decide (((p.length : Nat) : Int) < (q.length : Nat)) = true := decide_eq_true (by omega)
    simp (disch := first | omega | assumption | exact scell | exact clen_XStep | (simp only [clen_XStep]; omega)) only [len_22, slen_map, oV_some', bin_lt, hl', oI_true, oZ_b]
    unfold hpB; rw [decide_eq_false hl, Bool.false_and]
theorem e16 {p q : List XStep} (hp : p.length ≤ 140737488351232) (hq : q.length ≤ 140737488351232) {d : Nat} {σ : AS} {K : AV → AS → Prop} : oC T0 d 16 [.lst (p.map encXStep), .lst (q.map encXStep)] σ K = K (.b (hpB p q)) σ := (c16 p q hp hq).eq d σ K
def fewB (p : List XStep) : Bool := decide (p.length ≤ 20) && p.all (fun x => decide (x.name_.length ≤ 300) && decide (x.value_.length ≤ 300))
theorem c11 (p : List XStep) (hp : p.length ≤ 140737488351232) (ox : ∀ x ∈ p, okXStep x) : R T0 11 [.lst (p.map encXStep)] (.b (fewB p)) := by
  refine r11 _ rfl rfl ?_
  unfold w11
  dsimp only [prims]
  by_cases hl : p.length ≤ 20
  · have hl' : decide ((20 : Int) < (p.length : Nat)) = false := decide_eq_false (by omega)
    simp (disch := first | omega | assumption | exact scell | exact clen_XStep | (simp only [clen_XStep]; omega)) only [len_22, slen_map, oV_some', bin_gt, hl', oI_false]
    refine loop3 (X := Nat) (fun _ => .lst (p.map encXStep)) (fun _ => .i .i64 (p.length : Nat)) (fun j => .i .i64 (j : Nat)) (fun j σ => j ≤ p.length ∧ (p.take j).all (fun x => decide (x.name_.length ≤ 300) && decide (x.value_.length ≤ 300)) = true) (fun j => p.length - j) ?_ 0 _ ⟨Nat.zero_le _, rfl⟩
    rintro R j σ ⟨hj, ha⟩ hR
    simp only [oV_some', bin_lt]
    refine oI_decd (fun h => ?_) (fun h => ?_)
    · have hj' : j < p.length := by omega
      have no : (decide ((p.getD j default).name_.length ≤ 300) && decide ((p.getD j default).value_.length ≤ 300)) = false → fewB p = false := fun q => by
        unfold fewB; rw [all_false_at (p := fun x : XStep => decide (x.name_.length ≤ 300) && decide (x.value_.length ≤ 300)) (d := default) hj' q, Bool.and_false]
      by_cases q1 : (p.getD j default).name_.length ≤ 300
      · have q1' : decide ((300 : Int) < ((p.getD j default).name_.length : Nat)) = false := decide_eq_false (by omega)
        by_cases q2 : (p.getD j default).value_.length ≤ 300
        · have q2' : decide ((300 : Int) < ((p.getD j default).value_.length : Nat)) = false := decide_eq_false (by omega)
          simp (disch := first | omega | assumption | exact scell | exact clen_XStep | (simp only [clen_XStep]; omega)) only [Nat.zero_add, oV_some', oN_eq, oM_some, oH_some, oD_some, oE_some, oS_eq, oT_true, oI_true, oI_false, pick_t, pick_f, un_not, oI_not, decide_not, toNat_sub1, toNat_add1, decide_true, decide_false, not_true, not_false_eq_true, Bool.not_true, Bool.not_false, Bool.not_not, oZ_b, oZ_i, oZ_s, oZ_l, slen_map, wr64, Int.toNat_natCast, Int.toNat_zero, ne_eq, bin_lt, bin_slt, bin_gt, b_sgt, bin_add, load_get, loadB_some, get_put_same, get_put_ne, ofc_s, load_i, off_i, off_p, len_9, ofc_encXStep, ofc0_encXStep, st_XStep, fld_XStep_kind_, fld_XStep_name_, fld_XStep_index_, fld_XStep_value_, prt_XStep_kind_, prt_XStep_name_, prt_XStep_index_, prt_XStep_value_, len_22, ia_22, gtt_4, gff_4, gtf_4, gft_4, gvv_4, gnt_4, gnf_4, Int.toNat_natCast, q1', q2']
          exact hR (j + 1) _ ⟨by omega, all_take_succ (d := default) ha hj' (by rw [decide_eq_true q1, decide_eq_true q2]; rfl)⟩ (by omega)
        · have q2' : decide ((300 : Int) < ((p.getD j default).value_.length : Nat)) = true := decide_eq_true (by omega)
          simp (disch := first | omega | assumption | exact scell | exact clen_XStep | (simp only [clen_XStep]; omega)) only [Nat.zero_add, oV_some', oN_eq, oM_some, oH_some, oD_some, oE_some, oS_eq, oT_true, oI_true, oI_false, pick_t, pick_f, un_not, oI_not, decide_not, toNat_sub1, toNat_add1, decide_true, decide_false, not_true, not_false_eq_true, Bool.not_true, Bool.not_false, Bool.not_not, oZ_b, oZ_i, oZ_s, oZ_l, slen_map, wr64, Int.toNat_natCast, Int.toNat_zero, ne_eq, bin_lt, bin_slt, bin_gt, b_sgt, bin_add, load_get, loadB_some, get_put_same, get_put_ne, ofc_s, load_i, off_i, off_p, len_9, ofc_encXStep, ofc0_encXStep, st_XStep, fld_XStep_kind_, fld_XStep_name_, fld_XStep_index_, fld_XStep_value_, prt_XStep_kind_, prt_XStep_name_, prt_XStep_index_, prt_XStep_value_, len_22, ia_22, gtt_4, gff_4, gtf_4, gft_4, gvv_4, gnt_4, gnf_4, Int.toNat_natCast, q1', q2', no (by rw [decide_eq_false q2, Bool.and_false])]
      · have q1' : decide ((300 : Int) < ((p.getD j default).name_.length : Nat)) = true := decide_eq_true (by omega)
        simp (disch := first | omega | assumption | exact scell | exact clen_XStep | (simp only [clen_XStep]; omega)) only [Nat.zero_add, oV_some', oN_eq, oM_some, oH_some, oD_some, oE_some, oS_eq, oT_true, oI_true, oI_false, pick_t, pick_f, un_not, oI_not, decide_not, toNat_sub1, toNat_add1, decide_true, decide_false, not_true, not_false_eq_true, Bool.not_true, Bool.not_false, Bool.not_not, oZ_b, oZ_i, oZ_s, oZ_l, slen_map, wr64, Int.toNat_natCast, Int.toNat_zero, ne_eq, bin_lt, bin_slt, bin_gt, b_sgt, bin_add, load_get, loadB_some, get_put_same, get_put_ne, ofc_s, load_i, off_i, off_p, len_9, ofc_encXStep, ofc0_encXStep, st_XStep, fld_XStep_kind_, fld_XStep_name_, fld_XStep_index_, fld_XStep_value_, prt_XStep_kind_, prt_XStep_name_, prt_XStep_index_, prt_XStep_value_, len_22, ia_22, gtt_4, gff_4, gtf_4, gft_4, gvv_4, gnt_4, gnf_4, Int.toNat_natCast, q1', no (by rw [decide_eq_false q1, Bool.false_and])]
    · try rw [oZ_b]
      unfold fewB; rw [decide_eq_true hl, all_end ha (by omega)]; rfl
  · have hl' : decide ((20 : Int) < (p.length : Nat)) = true := decide_eq_true (by omega)
    simp (disch := first | omega | assumption | exact scell | exact clen_XStep | (simp only [clen_XStep]; omega)) only [len_22, slen_map, oV_some', bin_gt, hl', oI_true, oZ_b]
    unfold fewB; rw [decide_eq_false hl, Bool.false_and]
theorem e11 {p : List XStep} (hp : p.length ≤ 140737488351232) (ox : ∀ x ∈ p, okXStep x) {d : Nat} {σ : AS} {K : AV → AS → Prop} : oC T0 d 11 [.lst (p.map encXStep)] σ K = K (.b (fewB p)) σ := (c11 p hp ox).eq d σ K
theorem c12 : R T0 12 [] (.b true) := ⟨200, fun σ => by kernel_rfl⟩
theorem e12 {d : Nat} {σ : AS} {K : AV → AS → Prop} : oC T0 d 12 [] σ K = K (.b true) σ := c12.eq d σ K
end Go.Proofs.YtmfhmlhaofpeiaaGreatDoor.Ev
