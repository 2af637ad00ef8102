/- How far a name goes: the program's and the reference's; digits. -/
import Derived.Test.YtmfhmlhaofpeiaaGreatDoorV16
namespace Go.Proofs.YtmfhmlhaofpeiaaGreatDoor.Ev
open Go Go.RowKit
set_option linter.unusedSimpArgs false
set_option linter.unusedVariables false
set_option maxRecDepth 100000

def nmC (c : UInt8) : Bool := nameI c.toNat
def nmL (s : List UInt8) : Nat := (s.takeWhile nmC).length
theorem tw_end {α : Type} {q : α → Bool} {l : List α} (h : l.all q = true) : l.takeWhile q = l := by
  induction l with
  | nil => rfl
  | cons x l ih => simp only [List.all_cons, Bool.and_eq_true] at h; rw [List.takeWhile_cons_of_pos h.1, ih h.2]
theorem tw_at {α : Type} {q : α → Bool} : ∀ {l : List α} {j : Nat} {d : α}, (l.take j).all q = true → j < l.length → q (l.getD j d) = false → (l.takeWhile q).length = j
  | [], j, d, _, hj, _ => absurd hj (Nat.not_lt_zero j)
  | x :: l, 0, d, _, _, h => by
    have h' : ¬ q x = true := by
      have : q x = false := h
      rw [this]; exact Bool.false_ne_true
    rw [List.takeWhile_cons_of_neg h']; rfl
  | x :: l, j + 1, d, ha, hj, h => by
    rw [List.take_succ_cons, List.all_cons, Bool.and_eq_true] at ha
    rw [List.takeWhile_cons_of_pos ha.1, List.length_cons]
    rw [tw_at (l := l) (j := j) (d := d) ha.2 (by simpa using hj) h]
theorem nmL_le (s : List UInt8) : nmL s ≤ s.length := (List.takeWhile_sublist nmC).length_le
theorem c39 (s : List UInt8) (hl : s.length ≤ 140737488351232) : R T0 39 [.s s] (.i .i64 (nmL s : Nat)) := by
  refine r39 _ rfl rfl ?_
  unfold w39
  dsimp only [prims]
  rw [rng_9, oE_some, oN_eq]
  refine loop2 (X := Nat) (fun _ => .s s) (fun _ => .ptr 0 0) (fun j σ => j ≤ s.length ∧ σ.h.get 0 = some (.siter s j) ∧ (s.take j).all nmC = true) (fun j => s.length - j) ?_ 0 _ ⟨Nat.zero_le _, rfl, rfl⟩
  rintro R j ⟨h, n⟩ ⟨hj, hg, ha⟩ hR
  dsimp only at hg
  by_cases hj' : j < s.length
  · rcases Nat.lt_or_ge (s.getD j 0).toNat 128 with hc | hc
    · rw [next_lt hg hj' hc, oM_some]
      cases hq : nameI ((s.getD j 0).toNat : Nat)
      · have e : nmL s = j := tw_at (d := 0) ha hj' hq
        simp (disch := first | omega | assumption | exact scell | exact clen_XStep | (simp only [clen_XStep]; omega)) only [Nat.zero_add, oV_some', oN_eq, oM_some, oH_some, oD_some, oE_some, oS_eq, oT_true, oI_true, oI_false, pick_t, pick_f, un_not, oI_not, decide_not, toNat_sub1, toNat_add1, decide_true, decide_false, not_true, not_false_eq_true, Bool.not_true, Bool.not_false, Bool.not_not, oZ_b, oZ_i, oZ_s, oZ_l, slen_map, wr64, Int.toNat_natCast, Int.toNat_zero, ne_eq, ext_t, List.getElem?_cons_zero, List.getElem?_cons_succ, len_9, e66, hq, e]
      · simp (disch := first | omega | assumption | exact scell | exact clen_XStep | (simp only [clen_XStep]; omega)) only [Nat.zero_add, oV_some', oN_eq, oM_some, oH_some, oD_some, oE_some, oS_eq, oT_true, oI_true, oI_false, pick_t, pick_f, un_not, oI_not, decide_not, toNat_sub1, toNat_add1, decide_true, decide_false, not_true, not_false_eq_true, Bool.not_true, Bool.not_false, Bool.not_not, oZ_b, oZ_i, oZ_s, oZ_l, slen_map, wr64, Int.toNat_natCast, Int.toNat_zero, ne_eq, ext_t, List.getElem?_cons_zero, List.getElem?_cons_succ, len_9, e66, hq]
        exact hR (j + 1) _ ⟨by omega, get_put_same _ _ _, all_take_succ (d := 0) ha hj' hq⟩ (by omega)
    · obtain ⟨r, w, hr, he⟩ := next_ge (n := n) hg hj' hc
      have e : nmL s = j := tw_at (d := 0) ha hj' (show nameI _ = false from nameI_ge (by omega))
      rw [he, oM_some]
      simp (disch := first | omega | assumption | exact scell | exact clen_XStep | (simp only [clen_XStep]; omega)) only [Nat.zero_add, oV_some', oN_eq, oM_some, oH_some, oD_some, oE_some, oS_eq, oT_true, oI_true, oI_false, pick_t, pick_f, un_not, oI_not, decide_not, toNat_sub1, toNat_add1, decide_true, decide_false, not_true, not_false_eq_true, Bool.not_true, Bool.not_false, Bool.not_not, oZ_b, oZ_i, oZ_s, oZ_l, slen_map, wr64, Int.toNat_natCast, Int.toNat_zero, ne_eq, ext_t, List.getElem?_cons_zero, List.getElem?_cons_succ, len_9, e66, nameI_ge (show (128 : Int) ≤ (r : Nat) by omega), e]
  · rw [next_no hg (by omega), oM_some]
    have e : nmL s = s.length := by unfold nmL; rw [tw_end (all_end ha (by omega))]
    simp (disch := first | omega | assumption | exact scell | exact clen_XStep | (simp only [clen_XStep]; omega)) only [Nat.zero_add, oV_some', oN_eq, oM_some, oH_some, oD_some, oE_some, oS_eq, oT_true, oI_true, oI_false, pick_t, pick_f, un_not, oI_not, decide_not, toNat_sub1, toNat_add1, decide_true, decide_false, not_true, not_false_eq_true, Bool.not_true, Bool.not_false, Bool.not_not, oZ_b, oZ_i, oZ_s, oZ_l, slen_map, wr64, Int.toNat_natCast, Int.toNat_zero, ne_eq, ext_t, List.getElem?_cons_zero, List.getElem?_cons_succ, len_9, e]
theorem e39 {s : List UInt8} (hl : s.length ≤ 140737488351232) {d : Nat} {σ : AS} {K : AV → AS → Prop} : oC T0 d 39 [.s s] σ K = K (.i .i64 (nmL s : Nat)) σ := (c39 s hl).eq d σ K
theorem c68 (s : List UInt8) (i : Nat) (hi : i ≤ s.length) (hl : s.length ≤ 140737488351232) : R T0 68 [.s s, .i .i64 (i : Nat)] (.i .i64 (i + nmL (s.drop i) : Nat)) := by
  refine r68 _ _ rfl rfl ?_
  unfold w68
  dsimp only [prims]
  refine loop2 (X := Nat) (fun k => .i .i64 (i + k : Nat)) (fun _ => .s s) (fun k σ => k ≤ (s.drop i).length ∧ ((s.drop i).take k).all nmC = true) (fun k => (s.drop i).length - k) ?_ 0 _ ⟨Nat.zero_le _, rfl⟩
  rintro R k σ ⟨hk, ha⟩ hR
  have hdl : (s.drop i).length = s.length - i := List.length_drop
  have hgd : (s.drop i).getD k 0 = s.getD (i + k) 0 := by
    simp only [List.getD_eq_getElem?_getD, List.getElem?_drop]
  by_cases hk' : i + k < s.length
  · have d1 : decide (((i + k : Nat) : Int) < (s.length : Nat)) = true := decide_eq_true (by omega)
    have e1 : ((i + k : Nat) : Int) + 1 = ((i + (k + 1) : Nat) : Int) := by omega
    cases hq : nameI ((s.getD (i + k) 0).toNat : Nat)
    · have e : nmL (s.drop i) = k := tw_at (d := 0) ha (by omega) (by rw [hgd]; exact hq)
      simp (disch := first | omega | assumption | exact scell | exact clen_XStep | (simp only [clen_XStep]; omega)) only [Nat.zero_add, oV_some', oN_eq, oM_some, oH_some, oD_some, oE_some, oS_eq, oT_true, oI_true, oI_false, pick_t, pick_f, un_not, oI_not, decide_not, toNat_sub1, toNat_add1, decide_true, decide_false, not_true, not_false_eq_true, Bool.not_true, Bool.not_false, Bool.not_not, oZ_b, oZ_i, oZ_s, oZ_l, slen_map, wr64, Int.toNat_natCast, Int.toNat_zero, ne_eq, bin_lt, bin_slt, bin_add, len_9, idx_9, gtt_4, gff_4, gtf_4, gft_4, gvv_4, gnt_4, gnf_4, e93, hq, Int.toNat_natCast, d1, e]
    · simp (disch := first | omega | assumption | exact scell | exact clen_XStep | (simp only [clen_XStep]; omega)) only [Nat.zero_add, oV_some', oN_eq, oM_some, oH_some, oD_some, oE_some, oS_eq, oT_true, oI_true, oI_false, pick_t, pick_f, un_not, oI_not, decide_not, toNat_sub1, toNat_add1, decide_true, decide_false, not_true, not_false_eq_true, Bool.not_true, Bool.not_false, Bool.not_not, oZ_b, oZ_i, oZ_s, oZ_l, slen_map, wr64, Int.toNat_natCast, Int.toNat_zero, ne_eq, bin_lt, bin_slt, bin_add, len_9, idx_9, gtt_4, gff_4, gtf_4, gft_4, gvv_4, gnt_4, gnf_4, e93, hq, Int.toNat_natCast, d1, e1]
      exact hR (k + 1) _ ⟨by omega, all_take_succ (d := 0) ha (by omega) (by rw [hgd]; exact hq)⟩ (by omega)
  · have d1 : decide (((i + k : Nat) : Int) < (s.length : Nat)) = false := decide_eq_false (by omega)
    have e : nmL (s.drop i) = k := by unfold nmL; rw [tw_end (all_end ha (by omega))]; omega
    simp (disch := first | omega | assumption | exact scell | exact clen_XStep | (simp only [clen_XStep]; omega)) only [Nat.zero_add, oV_some', oN_eq, oM_some, oH_some, oD_some, oE_some, oS_eq, oT_true, oI_true, oI_false, pick_t, pick_f, un_not, oI_not, decide_not, toNat_sub1, toNat_add1, decide_true, decide_false, not_true, not_false_eq_true, Bool.not_true, Bool.not_false, Bool.not_not, oZ_b, oZ_i, oZ_s, oZ_l, slen_map, wr64, Int.toNat_natCast, Int.toNat_zero, ne_eq, bin_lt, bin_slt, bin_add, len_9, idx_9, gtt_4, gff_4, gtf_4, gft_4, gvv_4, gnt_4, gnf_4, d1, e]
theorem e68 {s : List UInt8} {i : Nat} (hi : i ≤ s.length) (hl : s.length ≤ 140737488351232) {d : Nat} {σ : AS} {K : AV → AS → Prop} : oC T0 d 68 [.s s, .i .i64 (i : Nat)] σ K = K (.i .i64 (i + nmL (s.drop i) : Nat)) σ := (c68 s i hi hl).eq d σ K
end Go.Proofs.YtmfhmlhaofpeiaaGreatDoor.Ev
