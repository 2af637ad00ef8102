/- Valid paths; prefixes; the law PathValid. -/
import Derived.Test.YtmfhmlhaofpeiaaGreatDoorV9
import Derived.Test.YtmfhmlhaofpeiaaGreatDoorV6
namespace Go.Proofs.YtmfhmlhaofpeiaaGreatDoor.Ev
open Go Go.RowKit
set_option linter.unusedSimpArgs false
set_option linter.unusedVariables false
set_option maxRecDepth 100000

theorem eq50 (a b : XStep) : evEqT T0 20 50 (encXStep a) (encXStep b) = some ((a.kind_ == b.kind_) && ((a.name_ == b.name_) && ((a.index_ == b.index_) && ((a.value_ == b.value_) && true)))) := by kernel_rfl
theorem step_beq (a b : XStep) : ((a.kind_ == b.kind_) && ((a.name_ == b.name_) && ((a.index_ == b.index_) && ((a.value_ == b.value_) && true)))) = decide (a = b) := by
  rw [Bool.eq_iff_iff]
  cases a; cases b
  simp [XStep.mk.injEq]
theorem bne_50 (a b : XStep) (c : Bool) : evBin T0 .neq 50 c (encXStep a) (encXStep b) = some (.b (!decide (a = b))) := by
  have h : T0.eq 50 = true := by kernel_rfl
  have e : evBin T0 .neq 50 c (encXStep a) (encXStep b) = (match BinOp.neq, T0.eq 50 with
    | .eql, true => (evEqT T0 20 50 (encXStep a) (encXStep b)).map .b
    | .neq, true => (evEqT T0 20 50 (encXStep a) (encXStep b)).map fun r => .b (!r)
    | _, _ => none) := rfl
  rw [e, h, eq50, step_beq]; rfl
theorem c34 (x : XStep) (ox : okXStep x) : R T0 34 [encXStep x] (.b (!stepB x)) := by
  refine r34 _ rfl rfl ?_
  unfold w34
  dsimp only [prims]
  simp (disch := first | omega | assumption | exact scell | exact clen_XStep | (simp only [clen_XStep]; omega)) only [Nat.zero_add, oV_some', oN_eq, oM_some, oH_some, oD_some, oE_some, oS_eq, oT_true, oI_true, oI_false, pick_t, pick_f, un_not, oI_not, decide_not, toNat_sub1, toNat_add1, decide_true, decide_false, not_true, not_false_eq_true, Bool.not_true, Bool.not_false, Bool.not_not, oZ_b, oZ_i, oZ_s, oZ_l, slen_map, wr64, Int.toNat_natCast, Int.toNat_zero, ne_eq, load_get, loadB_some, get_put_same, get_put_ne, ofc_s, load_i, ofc_encXStep, ofc0_encXStep, st_XStep, fld_XStep_kind_, fld_XStep_name_, fld_XStep_index_, fld_XStep_value_, prt_XStep_kind_, prt_XStep_name_, prt_XStep_index_, prt_XStep_value_, e35 ox]
theorem e34 {x : XStep} (ox : okXStep x) {d : Nat} {σ : AS} {K : AV → AS → Prop} : oC T0 d 34 [encXStep x] σ K = K (.b (!stepB x)) σ := (c34 x ox).eq d σ K
theorem findIdx_at {α : Type} {q : α → Bool} {l : List α} {j : Nat} {d : α} (ha : (l.take j).all (fun x => !q x) = true) (hj : j < l.length) (hp : q (l.getD j d) = true) : l.findIdx q = j := by
  rw [List.findIdx_eq hj]
  have hg : l.getD j d = l[j] := by simp [List.getD_eq_getElem?_getD, hj]
  refine ⟨by rw [← hg]; exact hp, fun i hi => ?_⟩
  rw [List.all_eq_true] at ha
  have : l[i] ∈ l.take j := by
    rw [List.mem_take_iff_getElem]
    exact ⟨i, by omega, rfl⟩
  simpa using ha _ this
/-- The first index, or -1. -/
def idxB {α : Type} (q : α → Bool) (l : List α) : Int := if l.findIdx q < l.length then (l.findIdx q : Nat) else -1
theorem idxB_at {α : Type} {q : α → Bool} {l : List α} {j : Nat} {d : α} (ha : (l.take j).all (fun x => !q x) = true) (hj : j < l.length) (hp : q (l.getD j d) = true) : idxB q l = (j : Nat) := by
  unfold idxB; rw [findIdx_at ha hj hp, if_pos hj]
theorem idxB_no {α : Type} {q : α → Bool} {l : List α} (ha : l.all (fun x => !q x) = true) : idxB q l = -1 := by
  have : l.findIdx q = l.length := by
    rw [List.findIdx_eq_length]
    intro x hx
    rw [List.all_eq_true] at ha
    simpa using ha x hx
  unfold idxB; rw [this, if_neg (by omega)]
theorem idxB_ge {α : Type} (q : α → Bool) (l : List α) : decide (0 ≤ idxB q l) = l.any q := by
  unfold idxB
  cases h : l.any q
  · have : ¬ l.findIdx q < l.length := by
      intro hlt
      have := List.findIdx_lt_length.1 hlt
      obtain ⟨x, hx, hq⟩ := this
      rw [List.any_eq_false] at h
      exact h x hx hq
    rw [if_neg this]; rfl
  · have : l.findIdx q < l.length := by
      rw [List.any_eq_true] at h
      exact List.findIdx_lt_length.2 h
    rw [if_pos this]; simp
theorem c59 (p : List XStep) (hp : p.length ≤ 140737488351232) (ox : ∀ x ∈ p, okXStep x) : R T0 59 [.lst (p.map encXStep), .fn 34 [] []] (.i .i64 (idxB (fun x => !stepB x) p)) := by
  refine r59 _ _ rfl rfl ?_
  unfold w59
  dsimp only [prims]
  simp (disch := first | omega | assumption | exact scell | exact clen_XStep | (simp only [clen_XStep]; omega)) only [oV_some', len_22, slen_map]
  refine loop4 (X := Nat) (fun _ => .lst (p.map encXStep)) (fun _ => .fn 34 [] []) (fun _ => .i .i64 (p.length : Nat)) (fun j => .i .i64 (j : Nat)) (fun j σ => j ≤ p.length ∧ (p.take j).all (fun x => !(!stepB x)) = true) (fun j => p.length - j) ?_ 0 _ ⟨Nat.zero_le _, rfl⟩
  rintro R j σ ⟨hj, ha⟩ hR
  simp only [oV_some', bin_lt]
  refine oI_decd (fun h => ?_) (fun h => ?_)
  · have hj' : j < p.length := by omega
    have e34' := fun (d : Nat) (σ : AS) (K : AV → AS → Prop) => e34 (ox _ (getD_mem hj')) (d := d) (σ := σ) (K := K)
    cases hs : stepB (p.getD j default)
    · simp (disch := first | omega | assumption | exact scell | exact clen_XStep | (simp only [clen_XStep]; omega)) only [Nat.zero_add, oV_some', oN_eq, oM_some, oH_some, oD_some, oE_some, oS_eq, oT_true, oI_true, oI_false, pick_t, pick_f, un_not, oI_not, decide_not, toNat_sub1, toNat_add1, decide_true, decide_false, not_true, not_false_eq_true, Bool.not_true, Bool.not_false, Bool.not_not, oZ_b, oZ_i, oZ_s, oZ_l, slen_map, wr64, Int.toNat_natCast, Int.toNat_zero, ne_eq, bin_lt, bin_slt, bin_add, load_get, loadB_some, get_put_same, get_put_ne, ofc_s, load_i, ofc_encXStep, ofc0_encXStep, st_XStep, fld_XStep_kind_, fld_XStep_name_, fld_XStep_index_, fld_XStep_value_, prt_XStep_kind_, prt_XStep_name_, prt_XStep_index_, prt_XStep_value_, len_22, ia_22, Int.toNat_natCast, oF_fn, List.nil_append, List.append_nil, e34', hs]
      rw [idxB_at (d := default) ha hj' (by rw [hs]; rfl)]
    · simp (disch := first | omega | assumption | exact scell | exact clen_XStep | (simp only [clen_XStep]; omega)) only [Nat.zero_add, oV_some', oN_eq, oM_some, oH_some, oD_some, oE_some, oS_eq, oT_true, oI_true, oI_false, pick_t, pick_f, un_not, oI_not, decide_not, toNat_sub1, toNat_add1, decide_true, decide_false, not_true, not_false_eq_true, Bool.not_true, Bool.not_false, Bool.not_not, oZ_b, oZ_i, oZ_s, oZ_l, slen_map, wr64, Int.toNat_natCast, Int.toNat_zero, ne_eq, bin_lt, bin_slt, bin_add, load_get, loadB_some, get_put_same, get_put_ne, ofc_s, load_i, ofc_encXStep, ofc0_encXStep, st_XStep, fld_XStep_kind_, fld_XStep_name_, fld_XStep_index_, fld_XStep_value_, prt_XStep_kind_, prt_XStep_name_, prt_XStep_index_, prt_XStep_value_, len_22, ia_22, Int.toNat_natCast, oF_fn, List.nil_append, List.append_nil, e34', hs]
      exact hR (j + 1) _ ⟨by omega, all_take_succ (d := default) ha hj' (by rw [hs]; rfl)⟩ (by omega)
  · rw [idxB_no (all_end ha (by omega)), oZ_i]
theorem c33 (p : List XStep) (hp : p.length ≤ 140737488351232) (ox : ∀ x ∈ p, okXStep x) : R T0 33 [.lst (p.map encXStep), .fn 34 [] []] (.b (!p.all stepB)) := by
  refine r33 _ _ rfl rfl ?_
  unfold w33
  dsimp only [prims]
  have e : ∀ (d : Nat) (σ : AS) (K : AV → AS → Prop), oC T0 d 59 [.lst (p.map encXStep), .fn 34 [] []] σ K = K (.i .i64 (idxB (fun x => !stepB x) p)) σ := fun d σ K => (c59 p hp ox).eq d σ K
  simp (disch := first | omega | assumption | exact scell | exact clen_XStep | (simp only [clen_XStep]; omega)) only [Nat.zero_add, oV_some', oN_eq, oM_some, oH_some, oD_some, oE_some, oS_eq, oT_true, oI_true, oI_false, pick_t, pick_f, un_not, oI_not, decide_not, toNat_sub1, toNat_add1, decide_true, decide_false, not_true, not_false_eq_true, Bool.not_true, Bool.not_false, Bool.not_not, oZ_b, oZ_i, oZ_s, oZ_l, slen_map, wr64, Int.toNat_natCast, Int.toNat_zero, ne_eq, bin_ge, bin_sge, e, idxB_ge]
  rw [List.not_all_eq_any_not]
theorem c13 (p : List XStep) (hp : p.length ≤ 140737488351232) (ox : ∀ x ∈ p, okXStep x) : R T0 13 [.lst (p.map encXStep)] (.b (pathB p)) := by
  refine r13 _ rfl rfl ?_
  unfold w13
  dsimp only [prims]
  have e : ∀ (d : Nat) (σ : AS) (K : AV → AS → Prop), oC T0 d 33 [.lst (p.map encXStep), .fn 34 [] []] σ K = K (.b (!p.all stepB)) σ := fun d σ K => (c33 p hp ox).eq d σ K
  have q : ((p.length : Nat) : Int) ≤ 16 ↔ p.length ≤ 16 := by omega
  simp (disch := first | omega | assumption | exact scell | exact clen_XStep | (simp only [clen_XStep]; omega)) only [Nat.zero_add, oV_some', oN_eq, oM_some, oH_some, oD_some, oE_some, oS_eq, oT_true, oI_true, oI_false, pick_t, pick_f, un_not, oI_not, decide_not, toNat_sub1, toNat_add1, decide_true, decide_false, not_true, not_false_eq_true, Bool.not_true, Bool.not_false, Bool.not_not, oZ_b, oZ_i, oZ_s, oZ_l, slen_map, wr64, Int.toNat_natCast, Int.toNat_zero, ne_eq, bin_le, b_sle, ofc_encXStep, ofc0_encXStep, st_XStep, fld_XStep_kind_, fld_XStep_name_, fld_XStep_index_, fld_XStep_value_, prt_XStep_kind_, prt_XStep_name_, prt_XStep_index_, prt_XStep_value_, len_22, gtt_3, gff_3, gtf_3, gft_3, gvv_3, gnt_3, gnf_3, cnd_true, cnd_false, Bool.true_and, guard1t, guard1f, guard2t, guard2f, guard3t, guard3f, guard4t, guard4f, guard5t, guard5f, guard6t, guard6f, guard7t, guard7f, guard8t, guard8f, guard9t, guard9f, guard10t, guard10f, guard11t, guard11f, guard12t, guard12f, gct_1, gcf_1, gct_2, gcf_2, gct_3, gcf_3, gct_4, gcf_4, gct_5, gcf_5, gct_6, gcf_6, gct_7, gcf_7, gct_8, gcf_8, gct_9, gcf_9, gct_10, gcf_10, gct_11, gcf_11, gct_12, gcf_12, gct_13, gcf_13, gct_14, gcf_14, pick_and, pick_or, pick_andn, pick_orn, nest_and, nest_or, nest_andn, nest_orn, nest_andt, nest_orf, nest_orx, nest_orfx, oZ_V, e, q]
  rfl
theorem c14 (p : List XStep) (hp : p.length ≤ 140737488351232) (ox : ∀ x ∈ p, okXStep x) : R T0 14 [.lst (p.map encXStep)] (.b (pathB p)) := by
  refine r14 _ rfl rfl ?_
  unfold w14
  dsimp only [prims]
  refine loop2 (X := Nat) (fun _ => .lst (p.map encXStep)) (fun j => .i .i64 (j : Nat)) (fun j σ => j ≤ p.length ∧ (p.take j).all stepB = true) (fun j => p.length - j) ?_ 0 _ ⟨Nat.zero_le _, rfl⟩
  rintro R j σ ⟨hj, ha⟩ hR
  simp (disch := first | omega | assumption | exact scell | exact clen_XStep | (simp only [clen_XStep]; omega)) only [oV_some', len_22, slen_map, bin_lt]
  refine oI_decd (fun h => ?_) (fun h => ?_)
  · have hj' : j < p.length := by omega
    have e36' := fun (d : Nat) (σ : AS) (K : AV → AS → Prop) => e36 (ox _ (getD_mem hj')) (d := d) (σ := σ) (K := K)
    cases hs : stepB (p.getD j default)
    · simp (disch := first | omega | assumption | exact scell | exact clen_XStep | (simp only [clen_XStep]; omega)) only [Nat.zero_add, oV_some', oN_eq, oM_some, oH_some, oD_some, oE_some, oS_eq, oT_true, oI_true, oI_false, pick_t, pick_f, un_not, oI_not, decide_not, toNat_sub1, toNat_add1, decide_true, decide_false, not_true, not_false_eq_true, Bool.not_true, Bool.not_false, Bool.not_not, oZ_b, oZ_i, oZ_s, oZ_l, slen_map, wr64, Int.toNat_natCast, Int.toNat_zero, ne_eq, bin_lt, bin_slt, bin_le, b_sle, bin_add, load_get, loadB_some, get_put_same, get_put_ne, ofc_s, load_i, ofc_encXStep, ofc0_encXStep, st_XStep, fld_XStep_kind_, fld_XStep_name_, fld_XStep_index_, fld_XStep_value_, prt_XStep_kind_, prt_XStep_name_, prt_XStep_index_, prt_XStep_value_, len_22, ia_22, Int.toNat_natCast, e36', hs]
      unfold pathB; rw [all_false_at (d := default) hj' hs, Bool.and_false]
    · simp (disch := first | omega | assumption | exact scell | exact clen_XStep | (simp only [clen_XStep]; omega)) only [Nat.zero_add, oV_some', oN_eq, oM_some, oH_some, oD_some, oE_some, oS_eq, oT_true, oI_true, oI_false, pick_t, pick_f, un_not, oI_not, decide_not, toNat_sub1, toNat_add1, decide_true, decide_false, not_true, not_false_eq_true, Bool.not_true, Bool.not_false, Bool.not_not, oZ_b, oZ_i, oZ_s, oZ_l, slen_map, wr64, Int.toNat_natCast, Int.toNat_zero, ne_eq, bin_lt, bin_slt, bin_le, b_sle, bin_add, load_get, loadB_some, get_put_same, get_put_ne, ofc_s, load_i, ofc_encXStep, ofc0_encXStep, st_XStep, fld_XStep_kind_, fld_XStep_name_, fld_XStep_index_, fld_XStep_value_, prt_XStep_kind_, prt_XStep_name_, prt_XStep_index_, prt_XStep_value_, len_22, ia_22, Int.toNat_natCast, e36', hs]
      exact hR (j + 1) _ ⟨by omega, all_take_succ (d := default) ha hj' hs⟩ (by omega)
  · have q : ((p.length : Nat) : Int) ≤ 16 ↔ p.length ≤ 16 := by omega
    simp (disch := first | omega | assumption | exact scell | exact clen_XStep | (simp only [clen_XStep]; omega)) only [Nat.zero_add, oV_some', oN_eq, oM_some, oH_some, oD_some, oE_some, oS_eq, oT_true, oI_true, oI_false, pick_t, pick_f, un_not, oI_not, decide_not, toNat_sub1, toNat_add1, decide_true, decide_false, not_true, not_false_eq_true, Bool.not_true, Bool.not_false, Bool.not_not, oZ_b, oZ_i, oZ_s, oZ_l, slen_map, wr64, Int.toNat_natCast, Int.toNat_zero, ne_eq, bin_lt, bin_slt, bin_le, b_sle, bin_add, load_get, loadB_some, get_put_same, get_put_ne, ofc_s, load_i, ofc_encXStep, ofc0_encXStep, st_XStep, fld_XStep_kind_, fld_XStep_name_, fld_XStep_index_, fld_XStep_value_, prt_XStep_kind_, prt_XStep_name_, prt_XStep_index_, prt_XStep_value_, len_22, ia_22, q]
    unfold pathB; rw [all_end ha (by omega), Bool.and_true]
theorem e14 {p : List XStep} (hp : p.length ≤ 140737488351232) (ox : ∀ x ∈ p, okXStep x) {d : Nat} {σ : AS} {K : AV → AS → Prop} : oC T0 d 14 [.lst (p.map encXStep)] σ K = K (.b (pathB p)) σ := (c14 p hp ox).eq d σ K
end Go.Proofs.YtmfhmlhaofpeiaaGreatDoor.Ev
