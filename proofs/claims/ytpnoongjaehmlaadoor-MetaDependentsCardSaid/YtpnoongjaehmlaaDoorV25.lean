/- The law MetaDependents: children's names are valid, and differ for different numbers. -/
import Derived.Test.YtpnoongjaehmlaaDoorV24
import Derived.Test.YtpnoongjaehmlaaDoorV2
namespace Go.Proofs.YtpnoongjaehmlaaDoor.Ev
open Go Go.RowKit
set_option linter.unusedSimpArgs false
set_option linter.unusedVariables false
set_option maxRecDepth 100000

theorem nDigits_le : ∀ (k u : Nat), u < 10 ^ k → 0 < k → Lib.nDigits u ≤ k
  | 0, u, h, h0 => by omega
  | k + 1, u, h, _ => by
    by_cases q : u < 10
    · rw [Lib.nDigits_small q]; omega
    · rw [Lib.nDigits_big q]
      have hk : 0 < k := by
        rcases Nat.eq_zero_or_pos k with rfl | h'
        · simp at h; omega
        · exact h'
      have := nDigits_le k (u / 10) (by rw [Nat.pow_succ] at h; omega) hk
      omega
theorem dlen19 {u : Nat} (h : u ≤ 9223372036854775807) : (Lib.decDigits u).length ≤ 19 := by
  rw [Lib.decDigits_length]
  refine nDigits_le 19 u ?_ (by decide)
  have e : (10 : Nat) ^ 19 = 10000000000000000000 := by decide
  rw [e]; omega
theorem dig_nat {k : Nat} (h : k < 10) : (UInt8.ofNat (48 + k)).toNat = 48 + k := by
  simp [UInt8.toNat_ofNat']
  omega
theorem dec_all : ∀ (n u : Nat), u ≤ n → ∀ c ∈ Lib.decDigits u, 48 ≤ c.toNat ∧ c.toNat ≤ 57
  | n, u, hu, c, hc => by
    by_cases q : u < 10
    · rw [Lib.decDigits_one q] at hc
      simp only [List.mem_singleton] at hc
      subst hc
      rw [dig_nat q]; omega
    · rw [dstep q, List.mem_append] at hc
      rcases hc with hc | hc
      · match n with
        | 0 => omega
        | n + 1 => exact dec_all n (u / 10) (by omega) c hc
      · simp only [List.mem_singleton] at hc
        subst hc
        rw [dig_nat (by omega)]; omega
def dval (l : List UInt8) : Nat := l.foldl (fun a c => a * 10 + (c.toNat - 48)) 0
theorem dval_dec : ∀ (n u : Nat), u ≤ n → dval (Lib.decDigits u) = u
  | n, u, hu => by
    by_cases q : u < 10
    · rw [Lib.decDigits_one q]
      show 0 * 10 + ((UInt8.ofNat (48 + u)).toNat - 48) = u
      rw [dig_nat q]; omega
    · match n with
      | 0 => omega
      | n + 1 =>
        rw [dstep q]
        unfold dval
        rw [List.foldl_append]
        have := dval_dec n (u / 10) (by omega)
        unfold dval at this
        rw [this]
        show u / 10 * 10 + ((UInt8.ofNat (48 + u % 10)).toNat - 48) = u
        rw [dig_nat (by omega)]; omega
theorem dec_inj {a b : Nat} (h : Lib.decDigits a = Lib.decDigits b) : a = b := by
  rw [← dval_dec a a (Nat.le_refl _), ← dval_dec b b (Nat.le_refl _), h]
theorem vname_child {s : List UInt8} {n : Int} (h1 : n ≤ 9223372036854775807) (hv : vname s = true) : vname (vchild s n) = true := by
  have hd := dlen (u := n.toNat) (by omega)
  have ha := dec_all n.toNat n.toNat (Nat.le_refl _)
  unfold vname at hv ⊢
  simp only [Bool.and_eq_true, decide_eq_true_eq] at hv ⊢
  obtain ⟨q1, ⟨⟨q2, q3⟩, q4⟩, q5⟩ := hv
  generalize hD : Lib.decDigits n.toNat = D at hd ha
  have eV : vchild s n = s.take (min s.length (40 - (1 + D.length))) ++ ([45] ++ D) := by unfold vchild; rw [hD]
  rw [eV]
  have hk : (s.take (min s.length (40 - (1 + D.length)))).length = min s.length (40 - (1 + D.length)) := by rw [List.length_take]; omega
  have hlen : (s.take (min s.length (40 - (1 + D.length))) ++ ([45] ++ D)).length = min s.length (40 - (1 + D.length)) + (1 + D.length) := by
    rw [List.length_append, hk, List.length_append]; rfl
  refine ⟨?_, ⟨⟨?_, ?_⟩, ?_⟩, ?_⟩
  · rw [List.all_eq_true] at q1 ⊢
    intro c hc
    rw [List.mem_append, List.mem_append] at hc
    rcases hc with hc | hc | hc
    · exact q1 c (List.mem_of_mem_take hc)
    · simp only [List.mem_singleton] at hc; subst hc; decide
    · have := ha c hc
      unfold nameByte
      simp only [Bool.or_eq_true, Bool.and_eq_true, decide_eq_true_eq]
      omega
  · omega
  · omega
  · match s, q2, q4 with
    | c :: s', _, q4 =>
      have : min (c :: s').length (40 - (1 + D.length)) = min s'.length (40 - (1 + D.length) - 1) + 1 := by simp only [List.length_cons]; omega
      rw [this, List.take_succ_cons]
      exact q4
  · rw [hlen]
    rw [List.getD_eq_getElem?_getD, List.getElem?_append_right (by rw [hk]; omega), hk, List.getElem?_append_right (by simp; omega)]
    have e : min s.length (40 - (1 + D.length)) + (1 + D.length) - 1 - min s.length (40 - (1 + D.length)) - [(45 : UInt8)].length = D.length - 1 := by simp only [List.length_cons, List.length_nil]; omega
    rw [e, List.getElem?_eq_getElem (by omega), Option.getD_some]
    have := ha _ (List.getElem_mem (by omega : D.length - 1 < D.length))
    omega
theorem child_inj {s : List UInt8} {n m : Int} (hs : s.length ≤ 20) (h1 : n ≤ 9223372036854775807) (h2 : m ≤ 9223372036854775807) : (vchild s n == vchild s m) = decide (max n 0 = max m 0) := by
  have full : ∀ k : Int, k ≤ 9223372036854775807 → vchild s k = s ++ ([45] ++ Lib.decDigits k.toNat) := by
    intro k hk
    have := dlen19 (u := k.toNat) (by omega)
    unfold vchild
    rw [List.take_of_length_le (by omega)]
  rw [full n h1, full m h2]
  by_cases h : max n 0 = max m 0
  · have : n.toNat = m.toNat := by omega
    rw [this, decide_eq_true h, beq_self_eq_true]
  · rw [decide_eq_false h, beq_eq_false_iff_ne]
    intro e
    have e2 := List.append_cancel_left (List.append_cancel_left e)
    have := dec_inj e2
    omega
theorem law_MetaDependents (s : List UInt8) (n m : Int) (hs : s.length ≤ 140737488351232) (h1 : (Lit.int .i64 n).wf = true) (h2 : (Lit.int .i64 m).wf = true) : R T0 7 [.s s, .i .i64 n, .i .i64 m] (.b true) := by
  have b1 := (wf64 h1).2
  have b2 := (wf64 h2).2
  refine r7 _ _ _ rfl rfl ?_
  unfold w7
  dsimp only [prims]
  simp (disch := omega) only [oV_some', len_9, bin_gt]
  by_cases h : (300 : Int) < s.length
  · simp only [decide_eq_true h, gtf_3, oV_some', pick_t, oI_true, e10, oZ_b]
  simp (disch := omega) only [decide_eq_false h, gff_3, e13, oV_some', un_not, pick_f]
  cases hv : vname s
  · simp only [Bool.not_false, oI_true, e10, oZ_b]
  have hl : s.length ≤ 40 := by
    unfold vname at hv
    simp only [Bool.and_eq_true, decide_eq_true_eq] at hv
    exact hv.2.1.1.2
  have vl : ∀ k : Int, k ≤ 9223372036854775807 → (vchild s k).length ≤ 140737488351232 := by
    intro k hk
    have := dlen (u := k.toNat) (by omega)
    unfold vchild
    simp only [List.length_append, List.length_take, List.length_cons, List.length_nil]
    omega
  have c1 := fun d (σ : AS) K => (c22 s n (by omega) b1).eq d σ K
  have c2 := fun d (σ : AS) K => (c22 s m (by omega) b2).eq d σ K
  simp (disch := first | omega | exact vl _ ‹_›) only [Bool.not_true, oI_false, c1, c2, e13, vname_child b1 hv, vname_child b2 hv, oV_some', un_not, gff_3, pick_f, len_9, bin_gt]
  by_cases h3 : (20 : Int) < s.length
  · simp only [decide_eq_true h3, gtf_9, oV_some', pick_t, gtt_1, e10, oZ_b]
  · simp (disch := omega) only [decide_eq_false h3, gff_9, bin_seq, oV_some', max_i, bin_eq, beq_4, child_inj (by omega : s.length ≤ 20) b1 b2, beq_self_eq_true, pick_f, pick_t, gtt_1, e10, oZ_b]
end Go.Proofs.YtpnoongjaehmlaaDoor.Ev
