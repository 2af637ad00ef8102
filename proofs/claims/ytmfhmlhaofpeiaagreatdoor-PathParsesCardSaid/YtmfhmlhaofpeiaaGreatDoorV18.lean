/- Numbers in brackets: canonical digits, value at most 65; the reference's number and canonical; what Atoi says at digits. -/
import Derived.Test.YtmfhmlhaofpeiaaGreatDoorV17
namespace Go.Proofs.YtmfhmlhaofpeiaaGreatDoor.Ev
open Go Go.RowKit
set_option linter.unusedSimpArgs false
set_option linter.unusedVariables false
set_option maxRecDepth 100000

def digC (c : UInt8) : Bool := decide (48 ≤ c.toNat ∧ c.toNat ≤ 57)
def canB (s : List UInt8) : Bool := s.all digC && (decide (s.length = 1) || (decide (1 < s.length) && !decide ((s.getD 0 0).toNat = 48)))
def valF (a : Nat) (c : UInt8) : Nat := a * 10 + (c.toNat - 48)
def numG (a : Nat) (c : UInt8) : Nat := if a < 65 then 10 * a + (c.toNat + 208) % 256 else a
def valD (a : Nat) (l : List UInt8) : Nat := l.foldl valF a
def numF (a : Nat) (l : List UInt8) : Nat := l.foldl numG a
def numC (s : List UInt8) : Nat := min (numF 0 s) 65
theorem valD_cons (a : Nat) (c : UInt8) (r : List UInt8) : valD a (c :: r) = valD (valF a c) r := List.foldl_cons
theorem numF_cons (a : Nat) (c : UInt8) (r : List UInt8) : numF a (c :: r) = numF (numG a c) r := List.foldl_cons
theorem valF_eq (a : Nat) (c : UInt8) : valF a c = a * 10 + (c.toNat - 48) := rfl
theorem valD_ge (l : List UInt8) : ∀ a : Nat, a ≤ valD a l := by
  induction l with
  | nil => intro a; exact Nat.le_refl _
  | cons c r ih =>
    intro a
    rw [valD_cons]
    have h := ih (valF a c)
    have h2 := valF_eq a c
    generalize valD (valF a c) r = v at h ⊢
    omega
theorem numF_big (l : List UInt8) : ∀ a : Nat, 65 ≤ a → numF a l = a := by
  induction l with
  | nil => intro a _; rfl
  | cons c r ih =>
    intro a ha
    rw [numF_cons]
    have : numG a c = a := by unfold numG; rw [if_neg (by omega)]
    rw [this, ih a ha]
theorem numF_val (l : List UInt8) : ∀ a : Nat, l.all digC = true → min (numF a l) 65 = min (valD a l) 65 := by
  induction l with
  | nil => intro a _; rfl
  | cons c r ih =>
    intro a h
    rw [List.all_cons, Bool.and_eq_true] at h
    have hd : 48 ≤ c.toNat ∧ c.toNat ≤ 57 := of_decide_eq_true h.1
    by_cases ha : a < 65
    · have : numG a c = valF a c := by unfold numG; rw [if_pos ha, valF_eq]; omega
      rw [numF_cons, valD_cons, this, ih _ h.2]
    · rw [numF_big _ a (by omega)]
      have h := valD_ge (c :: r) a
      generalize valD a (c :: r) = v at h ⊢
      omega
theorem pu_dig (l : List UInt8) : ∀ a : Nat, l.all digC = true → (Lib.parseUint10 a l = .ok (valD a l)) ∨ (Lib.parseUint10 a l = .range ∧ 18446744073709551616 ≤ valD a l) := by
  induction l with
  | nil => intro a _; exact .inl rfl
  | cons c r ih =>
    intro a h
    rw [List.all_cons, Bool.and_eq_true] at h
    have hd : 48 ≤ c.toNat ∧ c.toNat ≤ 57 := of_decide_eq_true h.1
    have hg := valD_ge r (valF a c)
    have ih' := ih (valF a c) h.2
    have hv := valF_eq a c
    rw [Lib.parseUint10, if_pos hd, valD_cons, ← valF_eq]
    generalize valD (valF a c) r = v at hg ih' ⊢
    by_cases h1 : 1844674407370955162 ≤ a
    · rw [if_pos h1]; exact .inr ⟨rfl, by omega⟩
    · rw [if_neg h1]
      by_cases h2 : 18446744073709551616 ≤ valF a c
      · rw [if_pos h2]; exact .inr ⟨rfl, by omega⟩
      · rw [if_neg h2]; exact ih'
theorem atoi_dig {s : List UInt8} (hne : s ≠ []) (h : s.all digC = true) : (Lib.atoiAll s = .ok (valD 0 s : Nat) ∧ valD 0 s < 9223372036854775808) ∨ (Lib.atoiAll s = .range ∧ 9223372036854775808 ≤ valD 0 s) := by
  match s, hne with
  | c :: r, _ =>
    have h0 := h
    rw [List.all_cons, Bool.and_eq_true] at h
    have hd : 48 ≤ c.toNat ∧ c.toNat ≤ 57 := of_decide_eq_true h.1
    have hp : Lib.parseMag (c :: r) = Lib.parseUint10 0 (c :: r) := if_neg (by simp)
    have hc : ¬ (c.toNat = 43 ∨ c.toNat = 45) := by omega
    have hn : ¬ c.toNat = 45 := by omega
    unfold Lib.atoiAll
    simp only []
    rw [if_neg hc, hp]
    rcases pu_dig (c :: r) 0 h0 with e | ⟨e, hv⟩
    · rw [e]; simp only []
      by_cases hv : 9223372036854775808 ≤ valD 0 (c :: r)
      · rw [if_pos ⟨hn, hv⟩]; exact .inr ⟨rfl, hv⟩
      · rw [if_neg (fun q => hv q.2), if_neg (fun q => hn q.1), if_neg hn]; exact .inl ⟨rfl, by omega⟩
    · rw [e]; exact .inr ⟨rfl, by omega⟩
theorem can_no {s : List UInt8} {j : Nat} (hj : j < s.length) (h : digC (s.getD j 0) = false) : canB s = false := by
  unfold canB; rw [all_false_at (p := digC) (d := 0) hj h]; rfl
theorem c96 (s : List UInt8) (hl : s.length ≤ 140737488351232) : R T0 96 [.s s] (.b (canB s)) := by
  refine r96 _ rfl rfl ?_
  unfold w96
  dsimp only [prims]
  refine loop2 (X := Nat) (fun _ => .s s) (fun j => .i .i64 (j : Nat)) (fun j σ => j ≤ s.length ∧ (s.take j).all digC = true) (fun j => s.length - j) ?_ 0 _ ⟨Nat.zero_le _, rfl⟩
  rintro R j σ ⟨hj, ha⟩ hR
  simp (disch := first | omega | assumption | exact scell | exact clen_XStep | (simp only [clen_XStep]; omega)) only [oV_some', len_9, bin_lt]
  refine oI_decd (fun h => ?_) (fun h => ?_)
  · have hj' : j < s.length := by omega
    by_cases q1 : 48 ≤ (s.getD j 0).toNat
    · have q1' : decide ((((s.getD j 0).toNat : Nat) : Int) < 48) = false := decide_eq_false (by omega)
      by_cases q2 : (s.getD j 0).toNat ≤ 57
      · have q2' : decide ((57 : Int) < (((s.getD j 0).toNat : Nat) : Int)) = false := decide_eq_false (by omega)
        simp (disch := first | omega | assumption | exact scell | exact clen_XStep | (simp only [clen_XStep]; omega)) only [Nat.zero_add, oV_some', oN_eq, oM_some, oH_some, oD_some, oE_some, oS_eq, oT_true, oI_true, oI_false, pick_t, pick_f, un_not, oI_not, decide_not, toNat_sub1, toNat_add1, decide_true, decide_false, not_true, not_false_eq_true, Bool.not_true, Bool.not_false, Bool.not_not, oZ_b, oZ_i, oZ_s, oZ_l, slen_map, wr64, Int.toNat_natCast, Int.toNat_zero, ne_eq, bin_lt, bin_slt, bin_gt, b_sgt, bin_eq, b_snil, beq_4, bin_ne, b_snnil, bne_4, bin_add, len_9, idx_9, ofc_encXStep, ofc0_encXStep, st_XStep, fld_XStep_kind_, fld_XStep_name_, fld_XStep_index_, fld_XStep_value_, prt_XStep_kind_, prt_XStep_name_, prt_XStep_index_, prt_XStep_value_, gtt_1, gff_1, gtf_1, gft_1, gvv_1, gnt_1, gnf_1, gtt_3, gff_3, gtf_3, gft_3, gvv_3, gnt_3, gnf_3, gtt_4, gff_4, gtf_4, gft_4, gvv_4, gnt_4, gnf_4, Int.toNat_natCast, q1', q2']
        exact hR (j + 1) _ ⟨by omega, all_take_succ (d := 0) ha hj' (decide_eq_true ⟨q1, q2⟩)⟩ (by omega)
      · have q2' : decide ((57 : Int) < (((s.getD j 0).toNat : Nat) : Int)) = true := decide_eq_true (by omega)
        simp (disch := first | omega | assumption | exact scell | exact clen_XStep | (simp only [clen_XStep]; omega)) only [Nat.zero_add, oV_some', oN_eq, oM_some, oH_some, oD_some, oE_some, oS_eq, oT_true, oI_true, oI_false, pick_t, pick_f, un_not, oI_not, decide_not, toNat_sub1, toNat_add1, decide_true, decide_false, not_true, not_false_eq_true, Bool.not_true, Bool.not_false, Bool.not_not, oZ_b, oZ_i, oZ_s, oZ_l, slen_map, wr64, Int.toNat_natCast, Int.toNat_zero, ne_eq, bin_lt, bin_slt, bin_gt, b_sgt, bin_eq, b_snil, beq_4, bin_ne, b_snnil, bne_4, bin_add, len_9, idx_9, ofc_encXStep, ofc0_encXStep, st_XStep, fld_XStep_kind_, fld_XStep_name_, fld_XStep_index_, fld_XStep_value_, prt_XStep_kind_, prt_XStep_name_, prt_XStep_index_, prt_XStep_value_, gtt_1, gff_1, gtf_1, gft_1, gvv_1, gnt_1, gnf_1, gtt_3, gff_3, gtf_3, gft_3, gvv_3, gnt_3, gnf_3, gtt_4, gff_4, gtf_4, gft_4, gvv_4, gnt_4, gnf_4, Int.toNat_natCast, q1', q2', can_no hj' (decide_eq_false (fun q => q2 q.2))]
    · have q1' : decide ((((s.getD j 0).toNat : Nat) : Int) < 48) = true := decide_eq_true (by omega)
      simp (disch := first | omega | assumption | exact scell | exact clen_XStep | (simp only [clen_XStep]; omega)) only [Nat.zero_add, oV_some', oN_eq, oM_some, oH_some, oD_some, oE_some, oS_eq, oT_true, oI_true, oI_false, pick_t, pick_f, un_not, oI_not, decide_not, toNat_sub1, toNat_add1, decide_true, decide_false, not_true, not_false_eq_true, Bool.not_true, Bool.not_false, Bool.not_not, oZ_b, oZ_i, oZ_s, oZ_l, slen_map, wr64, Int.toNat_natCast, Int.toNat_zero, ne_eq, bin_lt, bin_slt, bin_gt, b_sgt, bin_eq, b_snil, beq_4, bin_ne, b_snnil, bne_4, bin_add, len_9, idx_9, ofc_encXStep, ofc0_encXStep, st_XStep, fld_XStep_kind_, fld_XStep_name_, fld_XStep_index_, fld_XStep_value_, prt_XStep_kind_, prt_XStep_name_, prt_XStep_index_, prt_XStep_value_, gtt_1, gff_1, gtf_1, gft_1, gvv_1, gnt_1, gnf_1, gtt_3, gff_3, gtf_3, gft_3, gvv_3, gnt_3, gnf_3, gtt_4, gff_4, gtf_4, gft_4, gvv_4, gnt_4, gnf_4, Int.toNat_natCast, q1', can_no hj' (decide_eq_false (fun q => q1 q.1))]
  · have hall := all_end ha (by omega)
    unfold canB; rw [hall, Bool.true_and]
    by_cases l1 : s.length = 1
    · have l1' : decide (((s.length : Nat) : Int) = 1) = true := decide_eq_true (by omega)
      simp (disch := first | omega | assumption | exact scell | exact clen_XStep | (simp only [clen_XStep]; omega)) only [Nat.zero_add, oV_some', oN_eq, oM_some, oH_some, oD_some, oE_some, oS_eq, oT_true, oI_true, oI_false, pick_t, pick_f, un_not, oI_not, decide_not, toNat_sub1, toNat_add1, decide_true, decide_false, not_true, not_false_eq_true, Bool.not_true, Bool.not_false, Bool.not_not, oZ_b, oZ_i, oZ_s, oZ_l, slen_map, wr64, Int.toNat_natCast, Int.toNat_zero, ne_eq, bin_lt, bin_slt, bin_gt, b_sgt, bin_eq, b_snil, beq_4, bin_ne, b_snnil, bne_4, bin_add, len_9, idx_9, ofc_encXStep, ofc0_encXStep, st_XStep, fld_XStep_kind_, fld_XStep_name_, fld_XStep_index_, fld_XStep_value_, prt_XStep_kind_, prt_XStep_name_, prt_XStep_index_, prt_XStep_value_, gtt_1, gff_1, gtf_1, gft_1, gvv_1, gnt_1, gnf_1, gtt_3, gff_3, gtf_3, gft_3, gvv_3, gnt_3, gnf_3, gtt_4, gff_4, gtf_4, gft_4, gvv_4, gnt_4, gnf_4, l1', decide_eq_true l1, Bool.true_or]
    · have l1' : decide (((s.length : Nat) : Int) = 1) = false := decide_eq_false (by omega)
      by_cases l2 : 1 < s.length
      · have l2' : decide ((1 : Int) < ((s.length : Nat) : Int)) = true := decide_eq_true (by omega)
        have e0 : evIndex T0 9 (.s s) (.i .i64 0) = some (.i .u8 (s.getD 0 0).toNat) := idx_9 (k := .i64) (n := 0) (by omega) (by omega)
        have q : ((((s.getD 0 0).toNat : Nat) : Int) = 48) ↔ (s.getD 0 0).toNat = 48 := by omega
        simp (disch := first | omega | assumption | exact scell | exact clen_XStep | (simp only [clen_XStep]; omega)) only [Nat.zero_add, oV_some', oN_eq, oM_some, oH_some, oD_some, oE_some, oS_eq, oT_true, oI_true, oI_false, pick_t, pick_f, un_not, oI_not, decide_not, toNat_sub1, toNat_add1, decide_true, decide_false, not_true, not_false_eq_true, Bool.not_true, Bool.not_false, Bool.not_not, oZ_b, oZ_i, oZ_s, oZ_l, slen_map, wr64, Int.toNat_natCast, Int.toNat_zero, ne_eq, bin_lt, bin_slt, bin_gt, b_sgt, bin_eq, b_snil, beq_4, bin_ne, b_snnil, bne_4, bin_add, len_9, idx_9, ofc_encXStep, ofc0_encXStep, st_XStep, fld_XStep_kind_, fld_XStep_name_, fld_XStep_index_, fld_XStep_value_, prt_XStep_kind_, prt_XStep_name_, prt_XStep_index_, prt_XStep_value_, gtt_1, gff_1, gtf_1, gft_1, gvv_1, gnt_1, gnf_1, gtt_3, gff_3, gtf_3, gft_3, gvv_3, gnt_3, gnf_3, gtt_4, gff_4, gtf_4, gft_4, gvv_4, gnt_4, gnf_4, l1', l2', e0, q, decide_eq_false l1, decide_eq_true l2, Bool.false_or, Bool.true_and]
      · have l2' : decide ((1 : Int) < ((s.length : Nat) : Int)) = false := decide_eq_false (by omega)
        simp (disch := first | omega | assumption | exact scell | exact clen_XStep | (simp only [clen_XStep]; omega)) only [Nat.zero_add, oV_some', oN_eq, oM_some, oH_some, oD_some, oE_some, oS_eq, oT_true, oI_true, oI_false, pick_t, pick_f, un_not, oI_not, decide_not, toNat_sub1, toNat_add1, decide_true, decide_false, not_true, not_false_eq_true, Bool.not_true, Bool.not_false, Bool.not_not, oZ_b, oZ_i, oZ_s, oZ_l, slen_map, wr64, Int.toNat_natCast, Int.toNat_zero, ne_eq, bin_lt, bin_slt, bin_gt, b_sgt, bin_eq, b_snil, beq_4, bin_ne, b_snnil, bne_4, bin_add, len_9, idx_9, ofc_encXStep, ofc0_encXStep, st_XStep, fld_XStep_kind_, fld_XStep_name_, fld_XStep_index_, fld_XStep_value_, prt_XStep_kind_, prt_XStep_name_, prt_XStep_index_, prt_XStep_value_, gtt_1, gff_1, gtf_1, gft_1, gvv_1, gnt_1, gnf_1, gtt_3, gff_3, gtf_3, gft_3, gvv_3, gnt_3, gnf_3, gtt_4, gff_4, gtf_4, gft_4, gvv_4, gnt_4, gnf_4, l1', l2', decide_eq_false l1, decide_eq_false l2, Bool.false_or, Bool.false_and]
theorem e96 {s : List UInt8} (hl : s.length ≤ 140737488351232) {d : Nat} {σ : AS} {K : AV → AS → Prop} : oC T0 d 96 [.s s] σ K = K (.b (canB s)) σ := (c96 s hl).eq d σ K
end Go.Proofs.YtmfhmlhaofpeiaaGreatDoor.Ev
