/- The reference's bracket. -/
import Derived.Test.YtmfhmlhaofpeiaaGreatDoorV26
namespace Go.Proofs.YtmfhmlhaofpeiaaGreatDoor.Ev
open Go Go.RowKit
set_option linter.unusedSimpArgs false
set_option linter.unusedVariables false
set_option maxRecDepth 100000

theorem unq_suf (n : Nat) : ∀ (acc t a r : List UInt8), t.length ≤ n → unqL acc t = .ok a r → ∃ k, r = t.drop k := by
  induction n with
  | zero =>
    intro acc t a r ht h
    obtain rfl : t = [] := List.eq_nil_of_length_eq_zero (by omega)
    rw [unqL] at h; cases h
  | succ n ih =>
    intro acc t a r ht h
    cases t with
    | nil => rw [unqL] at h; cases h
    | cons c t =>
      rw [List.length_cons] at ht
      rw [unqL.eq_def] at h
      simp only [] at h
      split at h
      · injection h with h1 h2; exact ⟨1, h2.symm⟩
      · split at h
        · cases h
        · split at h
          · obtain ⟨k, hk⟩ := ih _ t a r (by omega) h
            exact ⟨k + 1, hk⟩
          · cases t with
            | nil => simp only [] at h; cases h
            | cons d t =>
              rw [List.length_cons] at ht
              simp only [] at h
              split at h
              · obtain ⟨k, hk⟩ := ih _ t a r (by omega) h
                exact ⟨k + 2, hk⟩
              · split at h
                · obtain ⟨k, hk⟩ := ih _ t a r (by omega) h
                  exact ⟨k + 2, hk⟩
                · cases h
theorem drop_suf {s r : List UInt8} {k : Nat} (h : r = s.drop k) (hr : 0 < r.length) : r = s.drop (s.length - r.length) := by
  have hl := congrArg List.length h
  rw [List.length_drop] at hl
  rw [show s.length - r.length = k by omega]; exact h
theorem qu_suf {s a r : List UInt8} {j : Nat} (h : quL (s.drop j) = .ok a r) (hr : 0 < r.length) : r = s.drop (s.length - r.length) := by
  cases ht : s.drop j with
  | nil => rw [ht] at h; unfold quL at h; cases h
  | cons c t =>
    rw [ht, quL_c] at h
    split at h
    · obtain ⟨k, hk⟩ := unq_suf t.length [] t a r (Nat.le_refl _) h
      have e : t = s.drop (j + 1) := by
        have := congrArg (List.drop 1) ht
        rw [List.drop_drop] at this
        exact this.symm
      rw [e, List.drop_drop] at hk
      exact drop_suf hk hr
    · cases h
theorem drop_facts {s r : List UInt8} {d : UInt8} {j : Nat} (h : s.drop j = d :: r) : j < s.length ∧ s.getD j 0 = d ∧ s.drop (j + 1) = r ∧ j + r.length + 1 = s.length := by
  have hl := congrArg List.length h
  rw [List.length_drop, List.length_cons] at hl
  have hj : j < s.length := by omega
  have q := drop_at hj
  rw [h] at q
  injection q with q1 q2
  exact ⟨hj, q1.symm, q2.symm, by omega⟩
def encG (x : XStep) (i : Int) (b : Bool) : AV := .agg [.i .i64 x.kind_, .s x.name_, .i .i64 x.index_, .s x.value_, .i .i64 i, .b b]
theorem bldG0 : evBuild T0 60 [(2, .b true)] = some (encG x0 0 true) := by kernel_rfl
theorem bldG3 (x : XStep) (i : Int) (b : Bool) : evBuild T0 60 [(0, encXStep x), (1, .i .i64 i), (2, .b b)] = some (encG x i b) := by kernel_rfl
theorem bldG2 (x : XStep) (i : Int) : evBuild T0 60 [(0, encXStep x), (1, .i .i64 i)] = some (encG x i false) := by kernel_rfl
theorem enc_g0 : (AB.cells [.i .i64 0, .s [], .i .i64 0, .s [], .i .i64 0, .b false] 60 false) = .cells (encG x0 0 false).cells 60 false := rfl
theorem st60 {h : Tr AB} {y : XStep} {j : Int} {c : Bool} (x : XStep) (i : Int) (b : Bool) : evStore T0 (h.put 0 (some (.cells (encG y j c).cells 60 false))) 60 (.ptr 0 0) (encG x i b) = some ((h.put 0 (some (.cells (encG y j c).cells 60 false))).put 0 (some (.cells (encG x i b).cells 60 false))) := store_all sz_60 rfl rfl rfl
theorem ofG {x : XStep} {i : Int} {b : Bool} : ofCells T0 60 (List.drop 0 (encG x i b).cells) = some (encG x i b) := by rw [List.drop_zero, ofc_60]; rfl
theorem clG {x : XStep} {i : Int} {b : Bool} : (encG x i b).cells.length = 6 := rfl
theorem ozg {σ : AS} {K : AV → Prop} {x : XStep} {i : Int} {b : Bool} : oZ T0 σ (encG x i b) K = K (encG x i b) := oZ_free rfl
theorem num_can {s : List UInt8} (h : canB s = true) : numC s = min (valD 0 s) 65 := by
  unfold canB at h
  rw [Bool.and_eq_true] at h
  unfold numC
  exact numF_val s 0 h.1
theorem sl_e {s : List UInt8} {h : Tr AB} {i k : Nat} (hk : i + 1 + k ≤ s.length) : evSliceH T0 h 9 (.s s) (some (.i .i64 ((i + 1 : Nat) : Int))) (some (.i .i64 ((i + 1 + k : Nat) : Int))) none = some (.s ((s.drop (i + 1)).take k)) := by
  have := sls (s := s) (h := h) (l := i + 1) (r := i + 1 + k) (k1 := .i64) (k2 := .i64) (by omega) hk
  rwa [show i + 1 + k - (i + 1) = k by omega] at this
theorem c67_a (s : List UInt8) (i : Nat) (hl : s.length ≤ 100000) (hi : i < s.length) (k : Nat) (hk : nmL (s.drop (i + 1)) = k) (h0 : k = 0) (hd : i + 1 + k < s.length) : R T0 67 [.s s, .i .i64 (i : Nat)] (encG x0 0 true) := by
  have hk' := nmL_le (s.drop (i + 1))
  rw [List.length_drop, hk] at hk'
  have e68' := fun (d : Nat) (σ : AS) (K : AV → AS → Prop) => e68 (s := s) (i := i + 1) (by omega) (by omega) (d := d) (σ := σ) (K := K)
  rw [hk] at e68'
  have e1 : ((i : Nat) : Int) + 1 = ((i + 1 : Nat) : Int) := by omega
  have e2 : ((i + 1 + k : Nat) : Int) + 1 = ((i + 1 + k + 1 : Nat) : Int) := by omega
  refine r67 _ _ rfl rfl ?_
  unfold w67
  dsimp only [prims]
  simp (disch := first | first | omega | assumption | exact scell | exact clen_XStep | (simp only [clen_XStep]; omega) | (simp only [List.length_append, List.length_cons, List.length_nil]; omega)) only [Nat.zero_add, oV_some', oN_eq, oM_some, oH_some, oD_some, oE_some, oS_eq, oT_true, oI_true, oI_false, pick_t, pick_f, un_not, oI_not, decide_not, toNat_sub1, toNat_add1, decide_true, decide_false, not_true, not_false_eq_true, Bool.not_true, Bool.not_false, Bool.not_not, oZ_b, oZ_i, oZ_s, oZ_l, slen_map, wr64, Int.toNat_natCast, Int.toNat_zero, ne_eq, bin_ge, bin_sge, bin_eq, b_snil, beq_4, bin_ne, b_snnil, bne_4, bin_add, load_get, loadB_some, get_put_same, get_put_ne, ofc_s, load_i, ext_t, List.getElem?_cons_zero, List.getElem?_cons_succ, len_9, idx_9, ofc_encXStep, ofc0_encXStep, st_XStep, fld_XStep_kind_, fld_XStep_name_, fld_XStep_index_, fld_XStep_value_, prt_XStep_kind_, prt_XStep_name_, prt_XStep_index_, prt_XStep_value_, gtt_4, gff_4, gtf_4, gft_4, gvv_4, gnt_4, gnf_4, enc_g0, st60, ofG, clG, e68', e1, e2, bldG0, decT, decF, List.length_nil, ozg]
theorem c67_b (s : List UInt8) (i : Nat) (hl : s.length ≤ 100000) (hi : i < s.length) (k : Nat) (hk : nmL (s.drop (i + 1)) = k) (hd : s.length ≤ i + 1 + k) : R T0 67 [.s s, .i .i64 (i : Nat)] (encG x0 0 true) := by
  have hk' := nmL_le (s.drop (i + 1))
  rw [List.length_drop, hk] at hk'
  have e68' := fun (d : Nat) (σ : AS) (K : AV → AS → Prop) => e68 (s := s) (i := i + 1) (by omega) (by omega) (d := d) (σ := σ) (K := K)
  rw [hk] at e68'
  have e1 : ((i : Nat) : Int) + 1 = ((i + 1 : Nat) : Int) := by omega
  have e2 : ((i + 1 + k : Nat) : Int) + 1 = ((i + 1 + k + 1 : Nat) : Int) := by omega
  refine r67 _ _ rfl rfl ?_
  unfold w67
  dsimp only [prims]
  simp (disch := first | first | omega | assumption | exact scell | exact clen_XStep | (simp only [clen_XStep]; omega) | (simp only [List.length_append, List.length_cons, List.length_nil]; omega)) only [Nat.zero_add, oV_some', oN_eq, oM_some, oH_some, oD_some, oE_some, oS_eq, oT_true, oI_true, oI_false, pick_t, pick_f, un_not, oI_not, decide_not, toNat_sub1, toNat_add1, decide_true, decide_false, not_true, not_false_eq_true, Bool.not_true, Bool.not_false, Bool.not_not, oZ_b, oZ_i, oZ_s, oZ_l, slen_map, wr64, Int.toNat_natCast, Int.toNat_zero, ne_eq, bin_ge, bin_sge, bin_eq, b_snil, beq_4, bin_ne, b_snnil, bne_4, bin_add, load_get, loadB_some, get_put_same, get_put_ne, ofc_s, load_i, ext_t, List.getElem?_cons_zero, List.getElem?_cons_succ, len_9, idx_9, ofc_encXStep, ofc0_encXStep, st_XStep, fld_XStep_kind_, fld_XStep_name_, fld_XStep_index_, fld_XStep_value_, prt_XStep_kind_, prt_XStep_name_, prt_XStep_index_, prt_XStep_value_, gtt_4, gff_4, gtf_4, gft_4, gvv_4, gnt_4, gnf_4, enc_g0, st60, ofG, clG, e68', e1, e2, bldG0, decT, decF, List.length_nil, ozg]
theorem c67_c (s : List UInt8) (i : Nat) (hl : s.length ≤ 100000) (hi : i < s.length) (k : Nat) (hk : nmL (s.drop (i + 1)) = k) (h0 : ¬ k = 0) (d : UInt8) (r : List UInt8) (hd : s.drop (i + 1 + k) = d :: r) (h1 : d.toNat = 93) : R T0 67 [.s s, .i .i64 (i : Nat)] (encG ⟨2, [], (numC ((s.drop (i + 1)).take k) : Nat), []⟩ ((i + 1 + k + 1 : Nat)) (!canB ((s.drop (i + 1)).take k))) := by
  have hk' := nmL_le (s.drop (i + 1))
  rw [List.length_drop, hk] at hk'
  have e68' := fun (d : Nat) (σ : AS) (K : AV → AS → Prop) => e68 (s := s) (i := i + 1) (by omega) (by omega) (d := d) (σ := σ) (K := K)
  rw [hk] at e68'
  have e1 : ((i : Nat) : Int) + 1 = ((i + 1 : Nat) : Int) := by omega
  have e2 : ((i + 1 + k : Nat) : Int) + 1 = ((i + 1 + k + 1 : Nat) : Int) := by omega
  obtain ⟨f1, f2, f3, f4⟩ := drop_facts hd
  have sl := fun (h : Tr AB) => sl_e (s := s) (h := h) (i := i) (k := k) (by omega)
  have ht : ((s.drop (i + 1)).take k).length ≤ 140737488351232 := by rw [List.length_take, List.length_drop]; omega
  refine r67 _ _ rfl rfl ?_
  unfold w67
  dsimp only [prims]
  simp (disch := first | first | omega | assumption | exact scell | exact clen_XStep | (simp only [clen_XStep]; omega) | (simp only [List.length_append, List.length_cons, List.length_nil]; omega)) only [Nat.zero_add, oV_some', oN_eq, oM_some, oH_some, oD_some, oE_some, oS_eq, oT_true, oI_true, oI_false, pick_t, pick_f, un_not, oI_not, decide_not, toNat_sub1, toNat_add1, decide_true, decide_false, not_true, not_false_eq_true, Bool.not_true, Bool.not_false, Bool.not_not, oZ_b, oZ_i, oZ_s, oZ_l, slen_map, wr64, Int.toNat_natCast, Int.toNat_zero, ne_eq, bin_ge, bin_sge, bin_eq, b_snil, beq_4, bin_ne, b_snnil, bne_4, bin_add, load_get, loadB_some, get_put_same, get_put_ne, ofc_s, load_i, ext_t, List.getElem?_cons_zero, List.getElem?_cons_succ, len_9, idx_9, ofc_encXStep, ofc0_encXStep, st_XStep, fld_XStep_kind_, fld_XStep_name_, fld_XStep_index_, fld_XStep_value_, prt_XStep_kind_, prt_XStep_name_, prt_XStep_index_, prt_XStep_value_, gtt_4, gff_4, gtf_4, gft_4, gvv_4, gnt_4, gnf_4, enc_g0, st60, ofG, clG, e68', e1, e2, bldG0, decT, decF, f2, sl, e95 ht, e96 ht, bld_50i, bldG3, ozg]
theorem c67_e (s : List UInt8) (i : Nat) (hl : s.length ≤ 100000) (hi : i < s.length) (k : Nat) (hk : nmL (s.drop (i + 1)) = k) (h0 : ¬ k = 0) (d : UInt8) (r : List UInt8) (hd : s.drop (i + 1 + k) = d :: r) (h1 : ¬ d.toNat = 93) (h2 : ¬ d.toNat = 61) : R T0 67 [.s s, .i .i64 (i : Nat)] (encG x0 0 true) := by
  have hk' := nmL_le (s.drop (i + 1))
  rw [List.length_drop, hk] at hk'
  have e68' := fun (d : Nat) (σ : AS) (K : AV → AS → Prop) => e68 (s := s) (i := i + 1) (by omega) (by omega) (d := d) (σ := σ) (K := K)
  rw [hk] at e68'
  have e1 : ((i : Nat) : Int) + 1 = ((i + 1 : Nat) : Int) := by omega
  have e2 : ((i + 1 + k : Nat) : Int) + 1 = ((i + 1 + k + 1 : Nat) : Int) := by omega
  obtain ⟨f1, f2, f3, f4⟩ := drop_facts hd
  have sl := fun (h : Tr AB) => sl_e (s := s) (h := h) (i := i) (k := k) (by omega)
  refine r67 _ _ rfl rfl ?_
  unfold w67
  dsimp only [prims]
  simp (disch := first | first | omega | assumption | exact scell | exact clen_XStep | (simp only [clen_XStep]; omega) | (simp only [List.length_append, List.length_cons, List.length_nil]; omega)) only [Nat.zero_add, oV_some', oN_eq, oM_some, oH_some, oD_some, oE_some, oS_eq, oT_true, oI_true, oI_false, pick_t, pick_f, un_not, oI_not, decide_not, toNat_sub1, toNat_add1, decide_true, decide_false, not_true, not_false_eq_true, Bool.not_true, Bool.not_false, Bool.not_not, oZ_b, oZ_i, oZ_s, oZ_l, slen_map, wr64, Int.toNat_natCast, Int.toNat_zero, ne_eq, bin_ge, bin_sge, bin_eq, b_snil, beq_4, bin_ne, b_snnil, bne_4, bin_add, load_get, loadB_some, get_put_same, get_put_ne, ofc_s, load_i, ext_t, List.getElem?_cons_zero, List.getElem?_cons_succ, len_9, idx_9, ofc_encXStep, ofc0_encXStep, st_XStep, fld_XStep_kind_, fld_XStep_name_, fld_XStep_index_, fld_XStep_value_, prt_XStep_kind_, prt_XStep_name_, prt_XStep_index_, prt_XStep_value_, gtt_4, gff_4, gtf_4, gft_4, gvv_4, gnt_4, gnf_4, enc_g0, st60, ofG, clG, e68', e1, e2, bldG0, decT, decF, f2, sl, ozg]
theorem c67_f (s : List UInt8) (i : Nat) (hl : s.length ≤ 100000) (hi : i < s.length) (k : Nat) (hk : nmL (s.drop (i + 1)) = k) (h0 : ¬ k = 0) (d : UInt8) (r : List UInt8) (hd : s.drop (i + 1 + k) = d :: r) (h1 : ¬ d.toNat = 93) (h2 : d.toNat = 61) (hq : quL r = .bad) : R T0 67 [.s s, .i .i64 (i : Nat)] (encG x0 0 true) := by
  have hk' := nmL_le (s.drop (i + 1))
  rw [List.length_drop, hk] at hk'
  have e68' := fun (d : Nat) (σ : AS) (K : AV → AS → Prop) => e68 (s := s) (i := i + 1) (by omega) (by omega) (d := d) (σ := σ) (K := K)
  rw [hk] at e68'
  have e1 : ((i : Nat) : Int) + 1 = ((i + 1 : Nat) : Int) := by omega
  have e2 : ((i + 1 + k : Nat) : Int) + 1 = ((i + 1 + k + 1 : Nat) : Int) := by omega
  obtain ⟨f1, f2, f3, f4⟩ := drop_facts hd
  have sl := fun (h : Tr AB) => sl_e (s := s) (h := h) (i := i) (k := k) (by omega)
  have e97' := fun (d : Nat) (σ : AS) (K : AV → AS → Prop) => e97 (s := s) (i := i + 1 + k + 1) (by omega) (by omega) (d := d) (σ := σ) (K := K)
  rw [uqI_eq (by omega), f3, hq] at e97'
  refine r67 _ _ rfl rfl ?_
  unfold w67
  dsimp only [prims]
  simp (disch := first | first | omega | assumption | exact scell | exact clen_XStep | (simp only [clen_XStep]; omega) | (simp only [List.length_append, List.length_cons, List.length_nil]; omega)) only [Nat.zero_add, oV_some', oN_eq, oM_some, oH_some, oD_some, oE_some, oS_eq, oT_true, oI_true, oI_false, pick_t, pick_f, un_not, oI_not, decide_not, toNat_sub1, toNat_add1, decide_true, decide_false, not_true, not_false_eq_true, Bool.not_true, Bool.not_false, Bool.not_not, oZ_b, oZ_i, oZ_s, oZ_l, slen_map, wr64, Int.toNat_natCast, Int.toNat_zero, ne_eq, bin_ge, bin_sge, bin_eq, b_snil, beq_4, bin_ne, b_snnil, bne_4, bin_add, load_get, loadB_some, get_put_same, get_put_ne, ofc_s, load_i, ext_t, List.getElem?_cons_zero, List.getElem?_cons_succ, len_9, idx_9, ofc_encXStep, ofc0_encXStep, st_XStep, fld_XStep_kind_, fld_XStep_name_, fld_XStep_index_, fld_XStep_value_, prt_XStep_kind_, prt_XStep_name_, prt_XStep_index_, prt_XStep_value_, gtt_4, gff_4, gtf_4, gft_4, gvv_4, gnt_4, gnf_4, enc_g0, st60, ofG, clG, e68', e1, e2, bldG0, decT, decF, f2, sl, e97', uqR, ex0, ex1, ex2, ozg]
theorem c67_g (s : List UInt8) (i : Nat) (hl : s.length ≤ 100000) (hi : i < s.length) (k : Nat) (hk : nmL (s.drop (i + 1)) = k) (h0 : ¬ k = 0) (d : UInt8) (r : List UInt8) (hd : s.drop (i + 1 + k) = d :: r) (h1 : ¬ d.toNat = 93) (h2 : d.toNat = 61) (a : List UInt8) (hq : quL r = .op a) : R T0 67 [.s s, .i .i64 (i : Nat)] (encG x0 0 true) := by
  have hk' := nmL_le (s.drop (i + 1))
  rw [List.length_drop, hk] at hk'
  have e68' := fun (d : Nat) (σ : AS) (K : AV → AS → Prop) => e68 (s := s) (i := i + 1) (by omega) (by omega) (d := d) (σ := σ) (K := K)
  rw [hk] at e68'
  have e1 : ((i : Nat) : Int) + 1 = ((i + 1 : Nat) : Int) := by omega
  have e2 : ((i + 1 + k : Nat) : Int) + 1 = ((i + 1 + k + 1 : Nat) : Int) := by omega
  obtain ⟨f1, f2, f3, f4⟩ := drop_facts hd
  have sl := fun (h : Tr AB) => sl_e (s := s) (h := h) (i := i) (k := k) (by omega)
  have e97' := fun (d : Nat) (σ : AS) (K : AV → AS → Prop) => e97 (s := s) (i := i + 1 + k + 1) (by omega) (by omega) (d := d) (σ := σ) (K := K)
  rw [uqI_eq (by omega), f3, hq] at e97'
  refine r67 _ _ rfl rfl ?_
  unfold w67
  dsimp only [prims]
  simp (disch := first | first | omega | assumption | exact scell | exact clen_XStep | (simp only [clen_XStep]; omega) | (simp only [List.length_append, List.length_cons, List.length_nil]; omega)) only [Nat.zero_add, oV_some', oN_eq, oM_some, oH_some, oD_some, oE_some, oS_eq, oT_true, oI_true, oI_false, pick_t, pick_f, un_not, oI_not, decide_not, toNat_sub1, toNat_add1, decide_true, decide_false, not_true, not_false_eq_true, Bool.not_true, Bool.not_false, Bool.not_not, oZ_b, oZ_i, oZ_s, oZ_l, slen_map, wr64, Int.toNat_natCast, Int.toNat_zero, ne_eq, bin_ge, bin_sge, bin_eq, b_snil, beq_4, bin_ne, b_snnil, bne_4, bin_add, load_get, loadB_some, get_put_same, get_put_ne, ofc_s, load_i, ext_t, List.getElem?_cons_zero, List.getElem?_cons_succ, len_9, idx_9, ofc_encXStep, ofc0_encXStep, st_XStep, fld_XStep_kind_, fld_XStep_name_, fld_XStep_index_, fld_XStep_value_, prt_XStep_kind_, prt_XStep_name_, prt_XStep_index_, prt_XStep_value_, gtt_4, gff_4, gtf_4, gft_4, gvv_4, gnt_4, gnf_4, enc_g0, st60, ofG, clG, e68', e1, e2, bldG0, decT, decF, f2, sl, e97', uqR, ex0, ex1, ex2, ozg]
theorem c67_h (s : List UInt8) (i : Nat) (hl : s.length ≤ 100000) (hi : i < s.length) (k : Nat) (hk : nmL (s.drop (i + 1)) = k) (h0 : ¬ k = 0) (d : UInt8) (r : List UInt8) (hd : s.drop (i + 1 + k) = d :: r) (h1 : ¬ d.toNat = 93) (h2 : d.toNat = 61) (a : List UInt8) (hq : quL r = .ok a []) : R T0 67 [.s s, .i .i64 (i : Nat)] (encG x0 0 true) := by
  have hk' := nmL_le (s.drop (i + 1))
  rw [List.length_drop, hk] at hk'
  have e68' := fun (d : Nat) (σ : AS) (K : AV → AS → Prop) => e68 (s := s) (i := i + 1) (by omega) (by omega) (d := d) (σ := σ) (K := K)
  rw [hk] at e68'
  have e1 : ((i : Nat) : Int) + 1 = ((i + 1 : Nat) : Int) := by omega
  have e2 : ((i + 1 + k : Nat) : Int) + 1 = ((i + 1 + k + 1 : Nat) : Int) := by omega
  obtain ⟨f1, f2, f3, f4⟩ := drop_facts hd
  have sl := fun (h : Tr AB) => sl_e (s := s) (h := h) (i := i) (k := k) (by omega)
  have e97' := fun (d : Nat) (σ : AS) (K : AV → AS → Prop) => e97 (s := s) (i := i + 1 + k + 1) (by omega) (by omega) (d := d) (σ := σ) (K := K)
  rw [uqI_eq (by omega), f3, hq] at e97'
  refine r67 _ _ rfl rfl ?_
  unfold w67
  dsimp only [prims]
  simp (disch := first | first | omega | assumption | exact scell | exact clen_XStep | (simp only [clen_XStep]; omega) | (simp only [List.length_append, List.length_cons, List.length_nil]; omega)) only [Nat.zero_add, oV_some', oN_eq, oM_some, oH_some, oD_some, oE_some, oS_eq, oT_true, oI_true, oI_false, pick_t, pick_f, un_not, oI_not, decide_not, toNat_sub1, toNat_add1, decide_true, decide_false, not_true, not_false_eq_true, Bool.not_true, Bool.not_false, Bool.not_not, oZ_b, oZ_i, oZ_s, oZ_l, slen_map, wr64, Int.toNat_natCast, Int.toNat_zero, ne_eq, bin_ge, bin_sge, bin_eq, b_snil, beq_4, bin_ne, b_snnil, bne_4, bin_add, load_get, loadB_some, get_put_same, get_put_ne, ofc_s, load_i, ext_t, List.getElem?_cons_zero, List.getElem?_cons_succ, len_9, idx_9, ofc_encXStep, ofc0_encXStep, st_XStep, fld_XStep_kind_, fld_XStep_name_, fld_XStep_index_, fld_XStep_value_, prt_XStep_kind_, prt_XStep_name_, prt_XStep_index_, prt_XStep_value_, gtt_4, gff_4, gtf_4, gft_4, gvv_4, gnt_4, gnf_4, enc_g0, st60, ofG, clG, e68', e1, e2, bldG0, decT, decF, f2, sl, e97', uqR, ex0, ex1, ex2, List.length_nil, Nat.sub_zero, ozg]
theorem c67_i (s : List UInt8) (i : Nat) (hl : s.length ≤ 100000) (hi : i < s.length) (k : Nat) (hk : nmL (s.drop (i + 1)) = k) (h0 : ¬ k = 0) (d : UInt8) (r : List UInt8) (hd : s.drop (i + 1 + k) = d :: r) (h1 : ¬ d.toNat = 93) (h2 : d.toNat = 61) (a r2 : List UInt8) (c2 : UInt8) (hq : quL r = .ok a (c2 :: r2)) (h3 : c2.toNat = 93) : R T0 67 [.s s, .i .i64 (i : Nat)] (encG ⟨3, ((s.drop (i + 1)).take k), 0, a⟩ ((s.length - r2.length : Nat)) false) := by
  have hk' := nmL_le (s.drop (i + 1))
  rw [List.length_drop, hk] at hk'
  have e68' := fun (d : Nat) (σ : AS) (K : AV → AS → Prop) => e68 (s := s) (i := i + 1) (by omega) (by omega) (d := d) (σ := σ) (K := K)
  rw [hk] at e68'
  have e1 : ((i : Nat) : Int) + 1 = ((i + 1 : Nat) : Int) := by omega
  have e2 : ((i + 1 + k : Nat) : Int) + 1 = ((i + 1 + k + 1 : Nat) : Int) := by omega
  obtain ⟨f1, f2, f3, f4⟩ := drop_facts hd
  have sl := fun (h : Tr AB) => sl_e (s := s) (h := h) (i := i) (k := k) (by omega)
  have e97' := fun (d : Nat) (σ : AS) (K : AV → AS → Prop) => e97 (s := s) (i := i + 1 + k + 1) (by omega) (by omega) (d := d) (σ := σ) (K := K)
  rw [uqI_eq (by omega), f3, hq] at e97'
  simp only [uqR] at e97'
  have hq2 := hq
  rw [← f3] at hq2
  have hs := qu_suf hq2 (by rw [List.length_cons]; omega)
  have hql := qu_len hq
  obtain ⟨g1, g2, g3, g4⟩ := drop_facts hs.symm
  generalize hm : s.length - (c2 :: r2).length = m at g1 g2 g3 g4 e97'
  have e3 : ((m : Nat) : Int) + 1 = ((m + 1 : Nat) : Int) := by omega
  rw [show s.length - r2.length = m + 1 by omega]
  refine r67 _ _ rfl rfl ?_
  unfold w67
  dsimp only [prims]
  simp (disch := first | first | omega | assumption | exact scell | exact clen_XStep | (simp only [clen_XStep]; omega) | (simp only [List.length_append, List.length_cons, List.length_nil]; omega)) only [Nat.zero_add, oV_some', oN_eq, oM_some, oH_some, oD_some, oE_some, oS_eq, oT_true, oI_true, oI_false, pick_t, pick_f, un_not, oI_not, decide_not, toNat_sub1, toNat_add1, decide_true, decide_false, not_true, not_false_eq_true, Bool.not_true, Bool.not_false, Bool.not_not, oZ_b, oZ_i, oZ_s, oZ_l, slen_map, wr64, Int.toNat_natCast, Int.toNat_zero, ne_eq, bin_ge, bin_sge, bin_eq, b_snil, beq_4, bin_ne, b_snnil, bne_4, bin_add, load_get, loadB_some, get_put_same, get_put_ne, ofc_s, load_i, ext_t, List.getElem?_cons_zero, List.getElem?_cons_succ, len_9, idx_9, ofc_encXStep, ofc0_encXStep, st_XStep, fld_XStep_kind_, fld_XStep_name_, fld_XStep_index_, fld_XStep_value_, prt_XStep_kind_, prt_XStep_name_, prt_XStep_index_, prt_XStep_value_, gtt_4, gff_4, gtf_4, gft_4, gvv_4, gnt_4, gnf_4, enc_g0, st60, ofG, clG, e68', e1, e2, bldG0, decT, decF, f2, sl, e97', uqR, ex0, ex1, ex2, e3, g2, bld_50k, bldG2, ozg]
theorem c67_j (s : List UInt8) (i : Nat) (hl : s.length ≤ 100000) (hi : i < s.length) (k : Nat) (hk : nmL (s.drop (i + 1)) = k) (h0 : ¬ k = 0) (d : UInt8) (r : List UInt8) (hd : s.drop (i + 1 + k) = d :: r) (h1 : ¬ d.toNat = 93) (h2 : d.toNat = 61) (a r2 : List UInt8) (c2 : UInt8) (hq : quL r = .ok a (c2 :: r2)) (h3 : ¬ c2.toNat = 93) : R T0 67 [.s s, .i .i64 (i : Nat)] (encG x0 0 true) := by
  have hk' := nmL_le (s.drop (i + 1))
  rw [List.length_drop, hk] at hk'
  have e68' := fun (d : Nat) (σ : AS) (K : AV → AS → Prop) => e68 (s := s) (i := i + 1) (by omega) (by omega) (d := d) (σ := σ) (K := K)
  rw [hk] at e68'
  have e1 : ((i : Nat) : Int) + 1 = ((i + 1 : Nat) : Int) := by omega
  have e2 : ((i + 1 + k : Nat) : Int) + 1 = ((i + 1 + k + 1 : Nat) : Int) := by omega
  obtain ⟨f1, f2, f3, f4⟩ := drop_facts hd
  have sl := fun (h : Tr AB) => sl_e (s := s) (h := h) (i := i) (k := k) (by omega)
  have e97' := fun (d : Nat) (σ : AS) (K : AV → AS → Prop) => e97 (s := s) (i := i + 1 + k + 1) (by omega) (by omega) (d := d) (σ := σ) (K := K)
  rw [uqI_eq (by omega), f3, hq] at e97'
  simp only [uqR] at e97'
  have hq2 := hq
  rw [← f3] at hq2
  have hs := qu_suf hq2 (by rw [List.length_cons]; omega)
  have hql := qu_len hq
  obtain ⟨g1, g2, g3, g4⟩ := drop_facts hs.symm
  generalize hm : s.length - (c2 :: r2).length = m at g1 g2 g3 g4 e97'
  have e3 : ((m : Nat) : Int) + 1 = ((m + 1 : Nat) : Int) := by omega
  refine r67 _ _ rfl rfl ?_
  unfold w67
  dsimp only [prims]
  simp (disch := first | first | omega | assumption | exact scell | exact clen_XStep | (simp only [clen_XStep]; omega) | (simp only [List.length_append, List.length_cons, List.length_nil]; omega)) only [Nat.zero_add, oV_some', oN_eq, oM_some, oH_some, oD_some, oE_some, oS_eq, oT_true, oI_true, oI_false, pick_t, pick_f, un_not, oI_not, decide_not, toNat_sub1, toNat_add1, decide_true, decide_false, not_true, not_false_eq_true, Bool.not_true, Bool.not_false, Bool.not_not, oZ_b, oZ_i, oZ_s, oZ_l, slen_map, wr64, Int.toNat_natCast, Int.toNat_zero, ne_eq, bin_ge, bin_sge, bin_eq, b_snil, beq_4, bin_ne, b_snnil, bne_4, bin_add, load_get, loadB_some, get_put_same, get_put_ne, ofc_s, load_i, ext_t, List.getElem?_cons_zero, List.getElem?_cons_succ, len_9, idx_9, ofc_encXStep, ofc0_encXStep, st_XStep, fld_XStep_kind_, fld_XStep_name_, fld_XStep_index_, fld_XStep_value_, prt_XStep_kind_, prt_XStep_name_, prt_XStep_index_, prt_XStep_value_, gtt_4, gff_4, gtf_4, gft_4, gvv_4, gnt_4, gnf_4, enc_g0, st60, ofG, clG, e68', e1, e2, bldG0, decT, decF, f2, sl, e97', uqR, ex0, ex1, ex2, e3, g2, ozg]
def BrG (n : Nat) (o : Option (XStep × List UInt8)) (x : XStep) (i : Int) (b : Bool) : Prop := match o with
  | some p => x = p.1 ∧ i = (n - p.2.length : Nat) ∧ b = false
  | none => b = true
theorem c67 (s : List UInt8) (i : Nat) (hl : s.length ≤ 100000) (hi : i < s.length) : ∃ x j b, BrG s.length (brL (s.drop (i + 1))) x j b ∧ R T0 67 [.s s, .i .i64 (i : Nat)] (encG x j b) := by
  have hle := nmL_le (s.drop (i + 1))
  rw [List.length_drop] at hle
  have hdd : (s.drop (i + 1)).drop (nmL (s.drop (i + 1))) = s.drop (i + 1 + nmL (s.drop (i + 1))) := List.drop_drop ..
  by_cases h0 : nmL (s.drop (i + 1)) = 0
  · exact ⟨_, _, _, by rw [brL_0 h0]; rfl, (if hq : s.length ≤ i + 1 + nmL (s.drop (i + 1)) then c67_b s i hl hi _ rfl hq else c67_a s i hl hi _ rfl h0 (by omega))⟩
  · cases hd : s.drop (i + 1 + nmL (s.drop (i + 1))) with
    | nil =>
      have hl2 := congrArg List.length hd
      rw [List.length_drop, List.length_nil] at hl2
      exact ⟨_, _, _, by rw [brL_b h0 (by rw [hdd, hd])]; rfl, c67_b s i hl hi _ rfl (by omega)⟩
    | cons d r =>
      have hd' := hdd.trans hd
      obtain ⟨f1, f2, f3, f4⟩ := drop_facts hd
      by_cases h1 : d.toNat = 93
      · rw [brL_i h0 hd' h1]
        have q := c67_c s i hl hi _ rfl h0 d r hd h1
        by_cases hc : canB ((s.drop (i + 1)).take (nmL (s.drop (i + 1)))) = true
        · rw [num_can hc, hc] at q
          exact ⟨_, _, _, by rw [if_pos hc]; exact ⟨rfl, by dsimp only; omega, rfl⟩, q⟩
        · have hc' : canB ((s.drop (i + 1)).take (nmL (s.drop (i + 1)))) = false := by simpa using hc
          rw [hc'] at q
          exact ⟨_, _, _, by rw [if_neg hc]; rfl, q⟩
      · by_cases h2 : d.toNat = 61
        · rw [brL_q h0 hd' h1 h2]
          cases hq : quL r with
          | bad => exact ⟨_, _, _, rfl, c67_f s i hl hi _ rfl h0 d r hd h1 h2 hq⟩
          | op a => exact ⟨_, _, _, rfl, c67_g s i hl hi _ rfl h0 d r hd h1 h2 a hq⟩
          | ok a r' =>
            cases r' with
            | nil => exact ⟨_, _, _, rfl, c67_h s i hl hi _ rfl h0 d r hd h1 h2 a hq⟩
            | cons c2 r2 =>
              by_cases h3 : c2.toNat = 93
              · exact ⟨_, _, _, by simp only []; rw [if_pos h3]; exact ⟨rfl, rfl, rfl⟩, c67_i s i hl hi _ rfl h0 d r hd h1 h2 a r2 c2 hq h3⟩
              · exact ⟨_, _, _, by simp only []; rw [if_neg h3]; rfl, c67_j s i hl hi _ rfl h0 d r hd h1 h2 a r2 c2 hq h3⟩
        · exact ⟨_, _, _, by rw [brL_e h0 hd' h1 h2]; rfl, c67_e s i hl hi _ rfl h0 d r hd h1 h2⟩
end Go.Proofs.YtmfhmlhaofpeiaaGreatDoor.Ev
