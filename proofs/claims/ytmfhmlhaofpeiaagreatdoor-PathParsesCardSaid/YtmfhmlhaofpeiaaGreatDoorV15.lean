/- Print: the spec, the reference's and the program's. -/
import Derived.Test.YtmfhmlhaofpeiaaGreatDoorV14
namespace Go.Proofs.YtmfhmlhaofpeiaaGreatDoor.Ev
open Go Go.RowKit
set_option linter.unusedSimpArgs false
set_option linter.unusedVariables false
set_option maxRecDepth 100000

def stP (j : Nat) (x : XStep) : List UInt8 := if x.kind_ = 2 then [91] ++ dec x.index_.toNat ++ [93] else if x.kind_ = 3 then [91] ++ x.name_ ++ [61] ++ quS x.value_ ++ [93] else if j = 0 then x.name_ else [46] ++ x.name_
def prT (p : List XStep) : Nat → List UInt8
  | 0 => []
  | j + 1 => prT p j ++ stP j (p.getD j default)
theorem step_facts {x : XStep} (h : stepB x = true) : (x.kind_ = 1 ∨ x.kind_ = 2 ∨ x.kind_ = 3) ∧ x.name_.length ≤ 40 ∧ x.value_.length ≤ 200 ∧ (∀ c ∈ x.value_, c.toNat < 128) ∧ (x.kind_ = 2 → 0 ≤ x.index_ ∧ x.index_ ≤ 64) := by
  have nm : nmB x.name_ = true → x.name_.length ≤ 40 := fun h => by
    unfold nmB at h; simp only [Bool.and_eq_true, decide_eq_true_eq] at h; exact h.2
  unfold stepB at h
  split at h
  · rename_i k
    simp only [Bool.and_eq_true, decide_eq_true_eq] at h
    exact ⟨.inl k, nm h.1.1, by omega, fun c hc => (by rw [List.length_eq_zero_iff.mp h.2] at hc; cases hc), fun q => by omega⟩
  · split at h
    · rename_i k
      simp only [Bool.and_eq_true, decide_eq_true_eq] at h
      exact ⟨.inr (.inl k), by omega, by omega, fun c hc => (by rw [List.length_eq_zero_iff.mp h.2] at hc; cases hc), fun q => by omega⟩
    · split at h
      · rename_i k1 k2 k
        simp only [Bool.and_eq_true, decide_eq_true_eq] at h
        have ht := h.2
        unfold txB at ht
        simp only [Bool.and_eq_true, decide_eq_true_eq, List.all_eq_true] at ht
        exact ⟨.inr (.inr k), nm h.1.1, ht.2, fun c hc => by
          have := ht.1 c hc
          unfold textI at this
          simp only [decide_eq_true_eq] at this
          omega, fun q => absurd q k2⟩
      · cases h
theorem dec_len (n : Nat) : (dec n).length ≤ 2 := by unfold dec; split <;> simp
theorem quS_len (s : List UInt8) : (quS s).length ≤ 2 * s.length + 2 := by
  have := flat_len s
  unfold quS; simp only [List.length_append, List.length_cons, List.length_nil]; omega
theorem stP_len {j : Nat} {x : XStep} (h : stepB x = true) : (stP j x).length ≤ 500 := by
  obtain ⟨-, h1, h2, -, -⟩ := step_facts h
  have := dec_len x.index_.toNat
  have := quS_len x.value_
  unfold stP; repeat' split
  all_goals (first | omega | (simp only [List.length_append, List.length_cons, List.length_nil]; omega))
theorem prT_len {p : List XStep} (h : ∀ x ∈ p, stepB x = true) : ∀ j, j ≤ p.length → (prT p j).length ≤ 500 * j
  | 0, _ => Nat.le_refl _
  | j + 1, hj => by
    have h1 := prT_len h j (by omega)
    have h2 := stP_len (j := j) (h _ (getD_mem (show j < p.length by omega)))
    rw [prT, List.length_append]; omega
theorem path_facts {p : List XStep} (h : pathB p = true) : p.length ≤ 16 ∧ ∀ x ∈ p, stepB x = true := by
  unfold pathB at h; simp only [Bool.and_eq_true, decide_eq_true_eq, List.all_eq_true] at h; exact h
theorem ozt {σ : AS} {K : AV → Prop} {a : List UInt8} {n : Int} : oZ T0 σ (.tup [.s a, .i .i64 n]) K = K (.tup [.s a, .i .i64 n]) := oZ_free rfl
def prR (p : List XStep) : AV := if pathB p = true then .tup [.s (prT p p.length), .i .i64 0] else .tup [.s [], .i .i64 1]
theorem sadd {a b : List UInt8} (ha : a.length ≤ 100000) (hb : b.length ≤ 100000) (t : Nat) (c : Bool) : evBin T0 .add t c (.s a) (.s b) = some (.s (a ++ b)) := bin_sadd (by omega) c
theorem dec_at {x : XStep} (h : 0 ≤ x.index_) (h2 : x.index_ ≤ 64) {d : Nat} {σ : AS} {K : AV → AS → Prop} : oC T0 d 46 [.i .i64 x.index_] σ K = K (.s (dec x.index_.toNat)) σ := by
  have e := @e46 x.index_.toNat (by omega) d σ K
  rw [Int.toNat_of_nonneg h] at e; exact e
theorem c21 (p : List XStep) (hp : p.length ≤ 140737488351232) (ox : ∀ x ∈ p, okXStep x) : R T0 21 [.lst (p.map encXStep)] (prR p) := by
  refine r21 _ rfl rfl ?_
  unfold w21
  dsimp only [prims]
  by_cases hb : pathB p = true
  · obtain ⟨hl, hv⟩ := path_facts hb
    rw [show prR p = .tup [.s (prT p p.length), .i .i64 0] from if_pos hb]
    rw [e14 hp ox, hb, un_not, oV_some', Bool.not_true, oI_false]
    refine loop3 (X := Nat) (fun j => .s (prT p j)) (fun _ => .lst (p.map encXStep)) (fun j => .i .i64 (j : Nat)) (fun j σ => j ≤ p.length) (fun j => p.length - j) ?_ 0 _ (Nat.zero_le _)
    rintro R j σ hj hR
    simp (disch := first | omega | assumption | exact scell | exact clen_XStep | (simp only [clen_XStep]; omega)) only [oV_some', len_22, slen_map, bin_lt]
    refine oI_decd (fun h => ?_) (fun h => ?_)
    · have hj' : j < p.length := by omega
      have hA := prT_len hv j hj
      obtain ⟨hk, hn, hq, hc, hi⟩ := step_facts (hv _ (getD_mem hj'))
      have hd := dec_len (p.getD j default).index_.toNat
      have hqs := quS_len (p.getD j default).value_
      have hR' := hR (j + 1)
      rw [show prT p (j + 1) = prT p j ++ stP j (p.getD j default) from rfl] at hR'
      have hAz : j = 0 → prT p j = [] := fun e => by subst e; rfl
      generalize prT p j = A at hA hAz hR' ⊢
      rcases hk with k | k | k
      · have d2 : decide ((p.getD j default).kind_ = 2) = false := decide_eq_false (by omega)
        have d3 : decide ((p.getD j default).kind_ = 3) = false := decide_eq_false (by omega)
        by_cases h0 : j = 0
        · subst h0
          have d0 : decide ((0 : Int) < ((0 : Nat) : Int)) = false := rfl
          rw [hAz rfl, List.nil_append] at hR'
          rw [show stP 0 (p.getD 0 default) = (p.getD 0 default).name_ by unfold stP; rw [if_neg (by omega), if_neg (by omega), if_pos rfl]] at hR'
          simp (disch := first | first | omega | assumption | exact scell | exact clen_XStep | (simp only [clen_XStep]; omega) | (simp only [List.length_append, List.length_cons, List.length_nil]; omega)) only [Nat.zero_add, oV_some', oN_eq, oM_some, oH_some, oD_some, oE_some, oS_eq, oT_true, oI_true, oI_false, pick_t, pick_f, un_not, oI_not, decide_not, toNat_sub1, toNat_add1, decide_true, decide_false, not_true, not_false_eq_true, Bool.not_true, Bool.not_false, Bool.not_not, oZ_b, oZ_i, oZ_s, oZ_l, slen_map, wr64, Int.toNat_natCast, Int.toNat_zero, ne_eq, bin_lt, bin_slt, bin_gt, b_sgt, bin_eq, b_snil, beq_4, bin_add, load_get, loadB_some, get_put_same, get_put_ne, ofc_s, load_i, off_i, off_p, ofc_encXStep, ofc0_encXStep, st_XStep, fld_XStep_kind_, fld_XStep_name_, fld_XStep_index_, fld_XStep_value_, prt_XStep_kind_, prt_XStep_name_, prt_XStep_index_, prt_XStep_value_, len_22, ia_22, join3_eq, Int.toNat_natCast, d2, d3, d0, sadd]
          exact hR' _ (show 0 + 1 ≤ p.length by omega) (by omega)
        · have d0 : decide ((0 : Int) < ((j : Nat) : Int)) = true := decide_eq_true (by omega)
          rw [show stP j (p.getD j default) = [46] ++ (p.getD j default).name_ by unfold stP; rw [if_neg (by omega), if_neg (by omega), if_neg h0], ← List.append_assoc] at hR'
          simp (disch := first | first | omega | assumption | exact scell | exact clen_XStep | (simp only [clen_XStep]; omega) | (simp only [List.length_append, List.length_cons, List.length_nil]; omega)) only [Nat.zero_add, oV_some', oN_eq, oM_some, oH_some, oD_some, oE_some, oS_eq, oT_true, oI_true, oI_false, pick_t, pick_f, un_not, oI_not, decide_not, toNat_sub1, toNat_add1, decide_true, decide_false, not_true, not_false_eq_true, Bool.not_true, Bool.not_false, Bool.not_not, oZ_b, oZ_i, oZ_s, oZ_l, slen_map, wr64, Int.toNat_natCast, Int.toNat_zero, ne_eq, bin_lt, bin_slt, bin_gt, b_sgt, bin_eq, b_snil, beq_4, bin_add, load_get, loadB_some, get_put_same, get_put_ne, ofc_s, load_i, off_i, off_p, ofc_encXStep, ofc0_encXStep, st_XStep, fld_XStep_kind_, fld_XStep_name_, fld_XStep_index_, fld_XStep_value_, prt_XStep_kind_, prt_XStep_name_, prt_XStep_index_, prt_XStep_value_, len_22, ia_22, join3_eq, Int.toNat_natCast, d2, d3, d0, sadd]
          exact hR' _ (show j + 1 ≤ p.length by omega) (by omega)
      · have d2 : decide ((p.getD j default).kind_ = 2) = true := decide_eq_true k
        rw [show stP j (p.getD j default) = [91] ++ dec (p.getD j default).index_.toNat ++ [93] from if_pos k, ← List.append_assoc, ← List.append_assoc] at hR'
        have ed := fun (d : Nat) (σ : AS) (K : AV → AS → Prop) => dec_at (hi k).1 (hi k).2 (d := d) (σ := σ) (K := K)
        simp (disch := first | first | omega | assumption | exact scell | exact clen_XStep | (simp only [clen_XStep]; omega) | (simp only [List.length_append, List.length_cons, List.length_nil]; omega)) only [Nat.zero_add, oV_some', oN_eq, oM_some, oH_some, oD_some, oE_some, oS_eq, oT_true, oI_true, oI_false, pick_t, pick_f, un_not, oI_not, decide_not, toNat_sub1, toNat_add1, decide_true, decide_false, not_true, not_false_eq_true, Bool.not_true, Bool.not_false, Bool.not_not, oZ_b, oZ_i, oZ_s, oZ_l, slen_map, wr64, Int.toNat_natCast, Int.toNat_zero, ne_eq, bin_lt, bin_slt, bin_gt, b_sgt, bin_eq, b_snil, beq_4, bin_add, load_get, loadB_some, get_put_same, get_put_ne, ofc_s, load_i, off_i, off_p, ofc_encXStep, ofc0_encXStep, st_XStep, fld_XStep_kind_, fld_XStep_name_, fld_XStep_index_, fld_XStep_value_, prt_XStep_kind_, prt_XStep_name_, prt_XStep_index_, prt_XStep_value_, len_22, ia_22, join3_eq, Int.toNat_natCast, d2, ed, sadd]
        exact hR' _ (show j + 1 ≤ p.length by omega) (by omega)
      · have d2 : decide ((p.getD j default).kind_ = 2) = false := decide_eq_false (by omega)
        have d3 : decide ((p.getD j default).kind_ = 3) = true := decide_eq_true (by omega)
        rw [show stP j (p.getD j default) = [91] ++ (p.getD j default).name_ ++ [61] ++ quS (p.getD j default).value_ ++ [93] by unfold stP; rw [if_neg (by omega), if_pos k], ← List.append_assoc, ← List.append_assoc, ← List.append_assoc, ← List.append_assoc] at hR'
        have eq := fun (d : Nat) (σ : AS) (K : AV → AS → Prop) => e47 (s := (p.getD j default).value_) (by omega) (d := d) (σ := σ) (K := K)
        simp (disch := first | first | omega | assumption | exact scell | exact clen_XStep | (simp only [clen_XStep]; omega) | (simp only [List.length_append, List.length_cons, List.length_nil]; omega)) only [Nat.zero_add, oV_some', oN_eq, oM_some, oH_some, oD_some, oE_some, oS_eq, oT_true, oI_true, oI_false, pick_t, pick_f, un_not, oI_not, decide_not, toNat_sub1, toNat_add1, decide_true, decide_false, not_true, not_false_eq_true, Bool.not_true, Bool.not_false, Bool.not_not, oZ_b, oZ_i, oZ_s, oZ_l, slen_map, wr64, Int.toNat_natCast, Int.toNat_zero, ne_eq, bin_lt, bin_slt, bin_gt, b_sgt, bin_eq, b_snil, beq_4, bin_add, load_get, loadB_some, get_put_same, get_put_ne, ofc_s, load_i, off_i, off_p, ofc_encXStep, ofc0_encXStep, st_XStep, fld_XStep_kind_, fld_XStep_name_, fld_XStep_index_, fld_XStep_value_, prt_XStep_kind_, prt_XStep_name_, prt_XStep_index_, prt_XStep_value_, len_22, ia_22, join3_eq, Int.toNat_natCast, d2, d3, eq, sadd]
        exact hR' _ (show j + 1 ≤ p.length by omega) (by omega)
    · have : j = p.length := by omega
      subst this
      rw [ozt]
  · rw [show prR p = .tup [.s [], .i .i64 1] from if_neg hb]
    rw [e14 hp ox, Bool.not_eq_true _ |>.mp hb, un_not, oV_some', Bool.not_false, oI_true, ozt]
end Go.Proofs.YtmfhmlhaofpeiaaGreatDoor.Ev
