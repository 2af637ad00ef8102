/- Brackets: the spec; the program's bracket. -/
import Derived.Test.YtmfhmlhaofpeiaaGreatDoorV25
import Derived.Test.YtmfhmlhaofpeiaaGreatDoorEvLg
namespace Go.Proofs.YtmfhmlhaofpeiaaGreatDoor.Ev
open Go Go.RowKit
set_option linter.unusedSimpArgs false
set_option linter.unusedVariables false
set_option maxRecDepth 100000

/-- A quoted string with its opening quote. -/
def quL : List UInt8 → UQ
  | [] => .bad
  | c :: r => if c.toNat = 34 then unqL [] r else .bad
theorem quL_c (c : UInt8) (r : List UInt8) : quL (c :: r) = if c.toNat = 34 then unqL [] r else .bad := rfl
theorem upI_eq (s : List UInt8) : upI s = upR (quL s) := by
  cases s with
  | nil => rfl
  | cons c r =>
    rw [quL_c]; unfold upI
    by_cases h : c.toNat = 34
    · rw [if_pos ⟨Nat.succ_pos _, h⟩, if_pos h]; rfl
    · rw [if_neg (fun q => h q.2), if_neg h]; rfl
theorem uqI_eq {s : List UInt8} {i : Nat} (h : i ≤ s.length) : uqI s i = uqR s.length (quL (s.drop i)) := by
  unfold uqI
  by_cases h1 : i < s.length
  · rw [drop_at h1, quL_c]
    by_cases h2 : (s.getD i 0).toNat = 34
    · rw [if_pos ⟨h1, h2⟩, if_pos h2]
    · rw [if_neg (fun q => h2 q.2), if_neg h2]; rfl
  · rw [if_neg (fun q => h1 q.1), List.drop_of_length_le (by omega)]; rfl
/-- What a bracket says: the text is what follows its opening. -/
def brL (t : List UInt8) : Option (XStep × List UInt8) :=
  if nmL t = 0 then none else
  match t.drop (nmL t) with
  | [] => none
  | d :: r => if d.toNat = 93 then (if canB (t.take (nmL t)) = true then some (⟨2, [], (min (valD 0 (t.take (nmL t))) 65 : Nat), []⟩, r) else none)
    else if d.toNat = 61 then
      match quL r with
      | .ok acc r' => match r' with
        | [] => none
        | c :: r'' => if c.toNat = 93 then some (⟨3, t.take (nmL t), 0, acc⟩, r'') else none
      | _ => none
    else none
def BrT (o : Option (XStep × List UInt8)) (x : XStep) (r : List UInt8) (b : Bool) : Prop := match o with
  | some p => x = p.1 ∧ r = p.2 ∧ b = true
  | none => b = false
theorem unq_len (n : Nat) : ∀ (acc t a r : List UInt8), t.length ≤ n → unqL acc t = .ok a r → r.length < t.length ∧ a.length + r.length ≤ acc.length + t.length := by
  induction n with
  | zero =>
    intro acc t a r ht h
    obtain rfl : t = [] := List.eq_nil_of_length_eq_zero (by omega)
    rw [unqL] at h; cases h
  | succ n ih =>
    intro acc t a r ht h
    cases t with
    | nil => rw [unqL] at h; cases h
    | cons c t =>
      rw [List.length_cons] at ht
      rw [unqL.eq_def] at h
      simp only [] at h
      split at h
      · injection h with h1 h2; subst h1; subst h2; rw [List.length_cons]; omega
      · split at h
        · cases h
        · split at h
          · have := ih _ t a r (by omega) h
            rw [List.length_append] at this
            simp only [List.length_cons, List.length_nil] at this ⊢
            omega
          · cases t with
            | nil => simp only [] at h; cases h
            | cons d t =>
              rw [List.length_cons] at ht
              simp only [] at h
              split at h
              · have := ih _ t a r (by omega) h
                rw [List.length_append] at this
                simp only [List.length_cons, List.length_nil] at this ⊢
                omega
              · split at h
                · have := ih _ t a r (by omega) h
                  rw [List.length_append] at this
                  simp only [List.length_cons, List.length_nil] at this ⊢
                  omega
                · cases h
theorem qu_len {t a r : List UInt8} (h : quL t = .ok a r) : r.length + 1 < t.length ∧ a.length + r.length < t.length := by
  cases t with
  | nil => unfold quL at h; cases h
  | cons c t =>
    rw [quL_c] at h
    split at h
    · have := unq_len t.length [] t a r (Nat.le_refl _) h
      simp only [List.length_cons, List.length_nil] at this ⊢; omega
    · cases h
theorem nm_drop {t r : List UInt8} {d : UInt8} (h : t.drop (nmL t) = d :: r) : nmL t + r.length + 1 = t.length := by
  have h1 := congrArg List.length h
  rw [List.length_drop, List.length_cons] at h1
  have := nmL_le t
  omega
theorem okI {n : Int} (h1 : -1000 ≤ n) (h2 : n ≤ 1000) : (Lit.int .i64 n).wf = true := by
  show (decide ((-9223372036854775808 : Int) ≤ n) && decide (n ≤ 9223372036854775807)) = true
  rw [decide_eq_true (by omega), decide_eq_true (by omega)]; rfl
theorem brL_ok {t r : List UInt8} {x : XStep} (hl : t.length ≤ 140737488351232) (h : brL t = some (x, r)) : r.length < t.length ∧ okXStep x := by
  unfold brL at h
  split at h
  · cases h
  · split at h
    · cases h
    · rename_i d r' hd
      have hn := nm_drop hd
      have ht : (t.take (nmL t)).length ≤ 140737488351232 := by rw [List.length_take]; omega
      split at h
      · split at h
        · injection h with h; injection h with h1 h2; subst h1; subst h2
          exact ⟨by omega, okI (by show (-1000 : Int) ≤ 2; omega) (by show (2 : Int) ≤ 1000; omega), Nat.zero_le _, okI (by show (-1000 : Int) ≤ (min (valD 0 (t.take (nmL t))) 65 : Nat); omega) (by show ((min (valD 0 (t.take (nmL t))) 65 : Nat) : Int) ≤ 1000; omega), Nat.zero_le _⟩
        · cases h
      · split at h
        · split at h
          · rename_i acc r2 hq
            have hq' := qu_len hq
            split at h
            · cases h
            · split at h
              · injection h with h; injection h with h1 h2; subst h1; subst h2
                simp only [List.length_cons] at hq'
                exact ⟨by omega, okI (by show (-1000 : Int) ≤ 3; omega) (by show (3 : Int) ≤ 1000; omega), ht, okI (by show (-1000 : Int) ≤ 0; omega) (by show (0 : Int) ≤ 1000; omega), by show acc.length ≤ _; omega⟩
              · cases h
          · cases h
        · cases h
theorem sl_c {c : UInt8} {t : List UInt8} {h : Tr AB} : evSliceH T0 h 9 (.s (c :: t)) (some (.i .i64 1)) none none = some (.s t) :=
  slH_of (slE (s := c :: t) (l := 1) (k := .i64) (by rw [List.length_cons]; omega))
theorem sl_ck {c : UInt8} {t : List UInt8} {h : Tr AB} {k : Nat} (hk : k ≤ t.length) : evSliceH T0 h 9 (.s (c :: t)) (some (.i .i64 1)) (some (.i .i64 ((k + 1 : Nat) : Int))) none = some (.s (t.take k)) :=
  sls (s := c :: t) (l := 1) (r := k + 1) (k1 := .i64) (k2 := .i64) (by omega) (by rw [List.length_cons]; omega)
theorem sl_cd {c : UInt8} {t : List UInt8} {h : Tr AB} {k : Nat} (hk : k ≤ t.length) : evSliceH T0 h 9 (.s (c :: t)) (some (.i .i64 ((k + 1 : Nat) : Int))) none none = some (.s (t.drop k)) :=
  slH_of (slE (s := c :: t) (l := k + 1) (k := .i64) (by rw [List.length_cons]; omega))
theorem bld_50i (n : Int) : evBuild T0 50 [(0, .i .i64 2), (2, .i .i64 n)] = some (encXStep ⟨2, [], n, []⟩) := by kernel_rfl
theorem bld_50k (a b : List UInt8) : evBuild T0 50 [(0, .i .i64 3), (1, .s a), (3, .s b)] = some (encXStep ⟨3, a, 0, b⟩) := by kernel_rfl
theorem bld_50f (a : List UInt8) : evBuild T0 50 [(0, .i .i64 1), (1, .s a)] = some (encXStep ⟨1, a, 0, []⟩) := by kernel_rfl
def x0 : XStep := ⟨0, [], 0, []⟩
theorem enc_x0 : (AB.cells [.i .i64 0, .s [], .i .i64 0, .s []] 50 false) = .cells (encXStep x0).cells 50 false := rfl
theorem ozxsb {σ : AS} {K : AV → Prop} {x : XStep} {c : List UInt8} {b : Bool} : oZ T0 σ (.tup [encXStep x, .s c, .b b]) K = K (.tup [encXStep x, .s c, .b b]) := oZ_free rfl
theorem st50 {h : Tr AB} {y : XStep} (x : XStep) : evStore T0 (h.put 0 (some (.cells (encXStep y).cells 50 false))) 50 (.ptr 0 0) (encXStep x) = some ((h.put 0 (some (.cells (encXStep y).cells 50 false))).put 0 (some (.cells (encXStep x).cells 50 false))) := store_all sz_50 rfl rfl rfl
theorem stA50 {h : Tr AB} {y : XStep} (x : XStep) : storeA T0 (h.put 0 (some (.cells (encXStep y).cells 50 false))) 50 (.ptr 0 0) (encXStep x) = some (0, .cells (encXStep x).cells 50 false) := by
  refine storeA_p (n := 4) sz_50 (get_put_same _ _ _) rfl rfl ?_
  rfl
theorem ld50 {h : Tr AB} {x : XStep} : evLoad T0 (h.put 0 (some (.cells (encXStep x).cells 50 false))) 50 (.ptr 0 0) = some (encXStep x) := by
  rw [load_get, get_put_same, loadB_some (Nat.zero_le _)]; exact ofc0_encXStep x
theorem rw_one {n : Nat} {L : List (List Nat)} {bs : List Nat} {i : Nat} {K : Prop} : oT (rdsOK n (befG L) bs [] i [] && wrsOK bs i []) K = K := by rw [show (rdsOK n (befG L) bs [] i [] && wrsOK bs i []) = true from rfl, oT_true]
theorem cl0 (a : UInt8) (l : List UInt8) : decide ((a :: l).length = 0) = false := rfl
theorem nl0 : decide (([] : List UInt8).length = 0) = true := rfl
theorem gd0 (a : UInt8) (l : List UInt8) (d : UInt8) : (a :: l).getD 0 d = a := rfl
theorem c38_a (c : UInt8) (t : List UInt8) (hl : t.length + 1 ≤ 100000) (h0 : nmL t = 0) : R T0 38 [.s (c :: t)] (.tup [encXStep x0, .s [], .b false]) := by
  have hk := nmL_le t
  have e39' := fun (d : Nat) (σ : AS) (K : AV → AS → Prop) => e39 (s := t) (by omega) (d := d) (σ := σ) (K := K)
  have e1 : (1 : Int) + (nmL t : Nat) = ((nmL t + 1 : Nat) : Int) := by omega
  have d0 : decide (((nmL t : Nat) : Int) = (0 : Int)) = true := decide_eq_true (by omega)
  refine r38 _ rfl rfl ?_
  unfold w38
  dsimp only [prims]
  simp (disch := first | first | omega | assumption | exact scell | exact clen_XStep | (simp only [clen_XStep]; omega) | (simp only [List.length_append, List.length_cons, List.length_nil]; omega)) only [Nat.zero_add, oV_some', oN_eq, oM_some, oH_some, oD_some, oE_some, oS_eq, oT_true, oI_true, oI_false, pick_t, pick_f, un_not, oI_not, decide_not, toNat_sub1, toNat_add1, decide_true, decide_false, not_true, not_false_eq_true, Bool.not_true, Bool.not_false, Bool.not_not, oZ_b, oZ_i, oZ_s, oZ_l, slen_map, wr64, Int.toNat_natCast, Int.toNat_zero, ne_eq, bin_eq, b_snil, beq_4, bin_ne, b_snnil, bne_4, bin_add, load_get, loadB_some, get_put_same, get_put_ne, ofc_s, load_i, ext_t, List.getElem?_cons_zero, List.getElem?_cons_succ, idx_9, ofc_encXStep, ofc0_encXStep, st_XStep, fld_XStep_kind_, fld_XStep_name_, fld_XStep_index_, fld_XStep_value_, prt_XStep_kind_, prt_XStep_name_, prt_XStep_index_, prt_XStep_value_, gtt_2, gff_2, gtf_2, gft_2, gvv_2, gnt_2, gnf_2, gtt_3, gff_3, gtf_3, gft_3, gvv_3, gnt_3, gnf_3, enc_x0, st50, ld50, sl_c, e39', e1, sl_ck, sl_cd, d0, ozxsb]
theorem c38_b (c : UInt8) (t : List UInt8) (hl : t.length + 1 ≤ 100000) (h0 : ¬ nmL t = 0) (hd : t.drop (nmL t) = []) : R T0 38 [.s (c :: t)] (.tup [encXStep x0, .s [], .b false]) := by
  have hk := nmL_le t
  have e39' := fun (d : Nat) (σ : AS) (K : AV → AS → Prop) => e39 (s := t) (by omega) (d := d) (σ := σ) (K := K)
  have e1 : (1 : Int) + (nmL t : Nat) = ((nmL t + 1 : Nat) : Int) := by omega
  have d0 : decide (((nmL t : Nat) : Int) = (0 : Int)) = false := decide_eq_false (by omega)
  refine r38 _ rfl rfl ?_
  unfold w38
  dsimp only [prims]
  simp (disch := first | first | omega | assumption | exact scell | exact clen_XStep | (simp only [clen_XStep]; omega) | (simp only [List.length_append, List.length_cons, List.length_nil]; omega)) only [Nat.zero_add, oV_some', oN_eq, oM_some, oH_some, oD_some, oE_some, oS_eq, oT_true, oI_true, oI_false, pick_t, pick_f, un_not, oI_not, decide_not, toNat_sub1, toNat_add1, decide_true, decide_false, not_true, not_false_eq_true, Bool.not_true, Bool.not_false, Bool.not_not, oZ_b, oZ_i, oZ_s, oZ_l, slen_map, wr64, Int.toNat_natCast, Int.toNat_zero, ne_eq, bin_eq, b_snil, beq_4, bin_ne, b_snnil, bne_4, bin_add, load_get, loadB_some, get_put_same, get_put_ne, ofc_s, load_i, ext_t, List.getElem?_cons_zero, List.getElem?_cons_succ, idx_9, ofc_encXStep, ofc0_encXStep, st_XStep, fld_XStep_kind_, fld_XStep_name_, fld_XStep_index_, fld_XStep_value_, prt_XStep_kind_, prt_XStep_name_, prt_XStep_index_, prt_XStep_value_, gtt_2, gff_2, gtf_2, gft_2, gvv_2, gnt_2, gnf_2, gtt_3, gff_3, gtf_3, gft_3, gvv_3, gnt_3, gnf_3, enc_x0, st50, ld50, sl_c, e39', e1, sl_ck, sl_cd, hd, d0, nl0, ozxsb]
theorem c38_c (c : UInt8) (t : List UInt8) (hl : t.length + 1 ≤ 100000) (h0 : ¬ nmL t = 0) (d : UInt8) (r : List UInt8) (hd : t.drop (nmL t) = d :: r) (h1 : d.toNat = 93) (hc : canB (t.take (nmL t)) = true) : R T0 38 [.s (c :: t)] (.tup [encXStep ⟨2, [], (min (valD 0 (t.take (nmL t))) 65 : Nat), []⟩, .s r, .b true]) := by
  have hk := nmL_le t
  have e39' := fun (d : Nat) (σ : AS) (K : AV → AS → Prop) => e39 (s := t) (by omega) (d := d) (σ := σ) (K := K)
  have e1 : (1 : Int) + (nmL t : Nat) = ((nmL t + 1 : Nat) : Int) := by omega
  have d0 : decide (((nmL t : Nat) : Int) = (0 : Int)) = false := decide_eq_false (by omega)
  have d1 : decide (((d.toNat : Nat) : Int) = 93) = true := decT (by omega)
  have ht : (t.take (nmL t)).length ≤ 1048576 := by rw [List.length_take]; omega
  refine r38 _ rfl rfl ?_
  unfold w38
  dsimp only [prims]
  simp (disch := first | first | omega | assumption | exact scell | exact clen_XStep | (simp only [clen_XStep]; omega) | (simp only [List.length_append, List.length_cons, List.length_nil]; omega)) only [Nat.zero_add, oV_some', oN_eq, oM_some, oH_some, oD_some, oE_some, oS_eq, oT_true, oI_true, oI_false, pick_t, pick_f, un_not, oI_not, decide_not, toNat_sub1, toNat_add1, decide_true, decide_false, not_true, not_false_eq_true, Bool.not_true, Bool.not_false, Bool.not_not, oZ_b, oZ_i, oZ_s, oZ_l, slen_map, wr64, Int.toNat_natCast, Int.toNat_zero, ne_eq, bin_eq, b_snil, beq_4, bin_ne, b_snnil, bne_4, bin_add, load_get, loadB_some, get_put_same, get_put_ne, ofc_s, load_i, ext_t, List.getElem?_cons_zero, List.getElem?_cons_succ, idx_9, ofc_encXStep, ofc0_encXStep, st_XStep, fld_XStep_kind_, fld_XStep_name_, fld_XStep_index_, fld_XStep_value_, prt_XStep_kind_, prt_XStep_name_, prt_XStep_index_, prt_XStep_value_, gtt_2, gff_2, gtf_2, gft_2, gvv_2, gnt_2, gnf_2, gtt_3, gff_3, gtf_3, gft_3, gvv_3, gnt_3, gnf_3, enc_x0, st50, ld50, sl_c, e39', e1, sl_ck, sl_cd, hd, d0, cl0, gd0, d1, e64 ht, ixR_yes hc, ex0, ex1, bld_50i, stA50, rw_one, ozxsb]
theorem c38_d (c : UInt8) (t : List UInt8) (hl : t.length + 1 ≤ 100000) (h0 : ¬ nmL t = 0) (d : UInt8) (r : List UInt8) (hd : t.drop (nmL t) = d :: r) (h1 : d.toNat = 93) (hc : canB (t.take (nmL t)) = false) : R T0 38 [.s (c :: t)] (.tup [encXStep ⟨2, [], 0, []⟩, .s r, .b false]) := by
  have hk := nmL_le t
  have e39' := fun (d : Nat) (σ : AS) (K : AV → AS → Prop) => e39 (s := t) (by omega) (d := d) (σ := σ) (K := K)
  have e1 : (1 : Int) + (nmL t : Nat) = ((nmL t + 1 : Nat) : Int) := by omega
  have d0 : decide (((nmL t : Nat) : Int) = (0 : Int)) = false := decide_eq_false (by omega)
  have d1 : decide (((d.toNat : Nat) : Int) = 93) = true := decT (by omega)
  have ht : (t.take (nmL t)).length ≤ 1048576 := by rw [List.length_take]; omega
  refine r38 _ rfl rfl ?_
  unfold w38
  dsimp only [prims]
  simp (disch := first | first | omega | assumption | exact scell | exact clen_XStep | (simp only [clen_XStep]; omega) | (simp only [List.length_append, List.length_cons, List.length_nil]; omega)) only [Nat.zero_add, oV_some', oN_eq, oM_some, oH_some, oD_some, oE_some, oS_eq, oT_true, oI_true, oI_false, pick_t, pick_f, un_not, oI_not, decide_not, toNat_sub1, toNat_add1, decide_true, decide_false, not_true, not_false_eq_true, Bool.not_true, Bool.not_false, Bool.not_not, oZ_b, oZ_i, oZ_s, oZ_l, slen_map, wr64, Int.toNat_natCast, Int.toNat_zero, ne_eq, bin_eq, b_snil, beq_4, bin_ne, b_snnil, bne_4, bin_add, load_get, loadB_some, get_put_same, get_put_ne, ofc_s, load_i, ext_t, List.getElem?_cons_zero, List.getElem?_cons_succ, idx_9, ofc_encXStep, ofc0_encXStep, st_XStep, fld_XStep_kind_, fld_XStep_name_, fld_XStep_index_, fld_XStep_value_, prt_XStep_kind_, prt_XStep_name_, prt_XStep_index_, prt_XStep_value_, gtt_2, gff_2, gtf_2, gft_2, gvv_2, gnt_2, gnf_2, gtt_3, gff_3, gtf_3, gft_3, gvv_3, gnt_3, gnf_3, enc_x0, st50, ld50, sl_c, e39', e1, sl_ck, sl_cd, hd, d0, cl0, gd0, d1, e64 ht, ixR_no hc, ex0, ex1, bld_50i, stA50, rw_one, ozxsb]
theorem c38_e (c : UInt8) (t : List UInt8) (hl : t.length + 1 ≤ 100000) (h0 : ¬ nmL t = 0) (d : UInt8) (r : List UInt8) (hd : t.drop (nmL t) = d :: r) (h1 : ¬ d.toNat = 93) (h2 : ¬ d.toNat = 61) : R T0 38 [.s (c :: t)] (.tup [encXStep x0, .s [], .b false]) := by
  have hk := nmL_le t
  have e39' := fun (d : Nat) (σ : AS) (K : AV → AS → Prop) => e39 (s := t) (by omega) (d := d) (σ := σ) (K := K)
  have e1 : (1 : Int) + (nmL t : Nat) = ((nmL t + 1 : Nat) : Int) := by omega
  have d0 : decide (((nmL t : Nat) : Int) = (0 : Int)) = false := decide_eq_false (by omega)
  have d1 : decide (((d.toNat : Nat) : Int) = 93) = false := decF (by omega)
  have d2 : decide (((d.toNat : Nat) : Int) = 61) = false := decF (by omega)
  refine r38 _ rfl rfl ?_
  unfold w38
  dsimp only [prims]
  simp (disch := first | first | omega | assumption | exact scell | exact clen_XStep | (simp only [clen_XStep]; omega) | (simp only [List.length_append, List.length_cons, List.length_nil]; omega)) only [Nat.zero_add, oV_some', oN_eq, oM_some, oH_some, oD_some, oE_some, oS_eq, oT_true, oI_true, oI_false, pick_t, pick_f, un_not, oI_not, decide_not, toNat_sub1, toNat_add1, decide_true, decide_false, not_true, not_false_eq_true, Bool.not_true, Bool.not_false, Bool.not_not, oZ_b, oZ_i, oZ_s, oZ_l, slen_map, wr64, Int.toNat_natCast, Int.toNat_zero, ne_eq, bin_eq, b_snil, beq_4, bin_ne, b_snnil, bne_4, bin_add, load_get, loadB_some, get_put_same, get_put_ne, ofc_s, load_i, ext_t, List.getElem?_cons_zero, List.getElem?_cons_succ, idx_9, ofc_encXStep, ofc0_encXStep, st_XStep, fld_XStep_kind_, fld_XStep_name_, fld_XStep_index_, fld_XStep_value_, prt_XStep_kind_, prt_XStep_name_, prt_XStep_index_, prt_XStep_value_, gtt_2, gff_2, gtf_2, gft_2, gvv_2, gnt_2, gnf_2, gtt_3, gff_3, gtf_3, gft_3, gvv_3, gnt_3, gnf_3, enc_x0, st50, ld50, sl_c, e39', e1, sl_ck, sl_cd, hd, d0, cl0, gd0, d1, d2, ozxsb]
theorem c38_f (c : UInt8) (t : List UInt8) (hl : t.length + 1 ≤ 100000) (h0 : ¬ nmL t = 0) (d : UInt8) (r : List UInt8) (hd : t.drop (nmL t) = d :: r) (h1 : ¬ d.toNat = 93) (h2 : d.toNat = 61) (hq : quL r = .bad) : R T0 38 [.s (c :: t)] (.tup [encXStep x0, .s [], .b false]) := by
  have hk := nmL_le t
  have e39' := fun (d : Nat) (σ : AS) (K : AV → AS → Prop) => e39 (s := t) (by omega) (d := d) (σ := σ) (K := K)
  have e1 : (1 : Int) + (nmL t : Nat) = ((nmL t + 1 : Nat) : Int) := by omega
  have d0 : decide (((nmL t : Nat) : Int) = (0 : Int)) = false := decide_eq_false (by omega)
  have d1 : decide (((d.toNat : Nat) : Int) = 93) = false := decF (by omega)
  have d2 : decide (((d.toNat : Nat) : Int) = 61) = true := decT (by omega)
  have hn := nm_drop hd
  have e65' := fun (d : Nat) (σ : AS) (K : AV → AS → Prop) => e65 (s := r) (by omega) (d := d) (σ := σ) (K := K)
  rw [upI_eq, hq] at e65'
  refine r38 _ rfl rfl ?_
  unfold w38
  dsimp only [prims]
  simp (disch := first | first | omega | assumption | exact scell | exact clen_XStep | (simp only [clen_XStep]; omega) | (simp only [List.length_append, List.length_cons, List.length_nil]; omega)) only [Nat.zero_add, oV_some', oN_eq, oM_some, oH_some, oD_some, oE_some, oS_eq, oT_true, oI_true, oI_false, pick_t, pick_f, un_not, oI_not, decide_not, toNat_sub1, toNat_add1, decide_true, decide_false, not_true, not_false_eq_true, Bool.not_true, Bool.not_false, Bool.not_not, oZ_b, oZ_i, oZ_s, oZ_l, slen_map, wr64, Int.toNat_natCast, Int.toNat_zero, ne_eq, bin_eq, b_snil, beq_4, bin_ne, b_snnil, bne_4, bin_add, load_get, loadB_some, get_put_same, get_put_ne, ofc_s, load_i, ext_t, List.getElem?_cons_zero, List.getElem?_cons_succ, idx_9, ofc_encXStep, ofc0_encXStep, st_XStep, fld_XStep_kind_, fld_XStep_name_, fld_XStep_index_, fld_XStep_value_, prt_XStep_kind_, prt_XStep_name_, prt_XStep_index_, prt_XStep_value_, gtt_2, gff_2, gtf_2, gft_2, gvv_2, gnt_2, gnf_2, gtt_3, gff_3, gtf_3, gft_3, gvv_3, gnt_3, gnf_3, enc_x0, st50, ld50, sl_c, e39', e1, sl_ck, sl_cd, hd, d0, cl0, gd0, d1, d2, e65', upR, ex0, ex1, ex2, nl0, ozxsb]
theorem c38_g (c : UInt8) (t : List UInt8) (hl : t.length + 1 ≤ 100000) (h0 : ¬ nmL t = 0) (d : UInt8) (r : List UInt8) (hd : t.drop (nmL t) = d :: r) (h1 : ¬ d.toNat = 93) (h2 : d.toNat = 61) (a : List UInt8) (hq : quL r = .op a) : R T0 38 [.s (c :: t)] (.tup [encXStep x0, .s [], .b false]) := by
  have hk := nmL_le t
  have e39' := fun (d : Nat) (σ : AS) (K : AV → AS → Prop) => e39 (s := t) (by omega) (d := d) (σ := σ) (K := K)
  have e1 : (1 : Int) + (nmL t : Nat) = ((nmL t + 1 : Nat) : Int) := by omega
  have d0 : decide (((nmL t : Nat) : Int) = (0 : Int)) = false := decide_eq_false (by omega)
  have d1 : decide (((d.toNat : Nat) : Int) = 93) = false := decF (by omega)
  have d2 : decide (((d.toNat : Nat) : Int) = 61) = true := decT (by omega)
  have hn := nm_drop hd
  have e65' := fun (d : Nat) (σ : AS) (K : AV → AS → Prop) => e65 (s := r) (by omega) (d := d) (σ := σ) (K := K)
  rw [upI_eq, hq] at e65'
  refine r38 _ rfl rfl ?_
  unfold w38
  dsimp only [prims]
  simp (disch := first | first | omega | assumption | exact scell | exact clen_XStep | (simp only [clen_XStep]; omega) | (simp only [List.length_append, List.length_cons, List.length_nil]; omega)) only [Nat.zero_add, oV_some', oN_eq, oM_some, oH_some, oD_some, oE_some, oS_eq, oT_true, oI_true, oI_false, pick_t, pick_f, un_not, oI_not, decide_not, toNat_sub1, toNat_add1, decide_true, decide_false, not_true, not_false_eq_true, Bool.not_true, Bool.not_false, Bool.not_not, oZ_b, oZ_i, oZ_s, oZ_l, slen_map, wr64, Int.toNat_natCast, Int.toNat_zero, ne_eq, bin_eq, b_snil, beq_4, bin_ne, b_snnil, bne_4, bin_add, load_get, loadB_some, get_put_same, get_put_ne, ofc_s, load_i, ext_t, List.getElem?_cons_zero, List.getElem?_cons_succ, idx_9, ofc_encXStep, ofc0_encXStep, st_XStep, fld_XStep_kind_, fld_XStep_name_, fld_XStep_index_, fld_XStep_value_, prt_XStep_kind_, prt_XStep_name_, prt_XStep_index_, prt_XStep_value_, gtt_2, gff_2, gtf_2, gft_2, gvv_2, gnt_2, gnf_2, gtt_3, gff_3, gtf_3, gft_3, gvv_3, gnt_3, gnf_3, enc_x0, st50, ld50, sl_c, e39', e1, sl_ck, sl_cd, hd, d0, cl0, gd0, d1, d2, e65', upR, ex0, ex1, ex2, nl0, ozxsb]
theorem c38_h (c : UInt8) (t : List UInt8) (hl : t.length + 1 ≤ 100000) (h0 : ¬ nmL t = 0) (d : UInt8) (r : List UInt8) (hd : t.drop (nmL t) = d :: r) (h1 : ¬ d.toNat = 93) (h2 : d.toNat = 61) (a : List UInt8) (hq : quL r = .ok a []) : R T0 38 [.s (c :: t)] (.tup [encXStep x0, .s [], .b false]) := by
  have hk := nmL_le t
  have e39' := fun (d : Nat) (σ : AS) (K : AV → AS → Prop) => e39 (s := t) (by omega) (d := d) (σ := σ) (K := K)
  have e1 : (1 : Int) + (nmL t : Nat) = ((nmL t + 1 : Nat) : Int) := by omega
  have d0 : decide (((nmL t : Nat) : Int) = (0 : Int)) = false := decide_eq_false (by omega)
  have d1 : decide (((d.toNat : Nat) : Int) = 93) = false := decF (by omega)
  have d2 : decide (((d.toNat : Nat) : Int) = 61) = true := decT (by omega)
  have hn := nm_drop hd
  have e65' := fun (d : Nat) (σ : AS) (K : AV → AS → Prop) => e65 (s := r) (by omega) (d := d) (σ := σ) (K := K)
  rw [upI_eq, hq] at e65'
  refine r38 _ rfl rfl ?_
  unfold w38
  dsimp only [prims]
  simp (disch := first | first | omega | assumption | exact scell | exact clen_XStep | (simp only [clen_XStep]; omega) | (simp only [List.length_append, List.length_cons, List.length_nil]; omega)) only [Nat.zero_add, oV_some', oN_eq, oM_some, oH_some, oD_some, oE_some, oS_eq, oT_true, oI_true, oI_false, pick_t, pick_f, un_not, oI_not, decide_not, toNat_sub1, toNat_add1, decide_true, decide_false, not_true, not_false_eq_true, Bool.not_true, Bool.not_false, Bool.not_not, oZ_b, oZ_i, oZ_s, oZ_l, slen_map, wr64, Int.toNat_natCast, Int.toNat_zero, ne_eq, bin_eq, b_snil, beq_4, bin_ne, b_snnil, bne_4, bin_add, load_get, loadB_some, get_put_same, get_put_ne, ofc_s, load_i, ext_t, List.getElem?_cons_zero, List.getElem?_cons_succ, idx_9, ofc_encXStep, ofc0_encXStep, st_XStep, fld_XStep_kind_, fld_XStep_name_, fld_XStep_index_, fld_XStep_value_, prt_XStep_kind_, prt_XStep_name_, prt_XStep_index_, prt_XStep_value_, gtt_2, gff_2, gtf_2, gft_2, gvv_2, gnt_2, gnf_2, gtt_3, gff_3, gtf_3, gft_3, gvv_3, gnt_3, gnf_3, enc_x0, st50, ld50, sl_c, e39', e1, sl_ck, sl_cd, hd, d0, cl0, gd0, d1, d2, e65', upR, ex0, ex1, ex2, nl0, ozxsb]
theorem c38_i (c : UInt8) (t : List UInt8) (hl : t.length + 1 ≤ 100000) (h0 : ¬ nmL t = 0) (d : UInt8) (r : List UInt8) (hd : t.drop (nmL t) = d :: r) (h1 : ¬ d.toNat = 93) (h2 : d.toNat = 61) (a r2 : List UInt8) (c2 : UInt8) (hq : quL r = .ok a (c2 :: r2)) (h3 : c2.toNat = 93) : R T0 38 [.s (c :: t)] (.tup [encXStep ⟨3, t.take (nmL t), 0, a⟩, .s r2, .b true]) := by
  have hk := nmL_le t
  have e39' := fun (d : Nat) (σ : AS) (K : AV → AS → Prop) => e39 (s := t) (by omega) (d := d) (σ := σ) (K := K)
  have e1 : (1 : Int) + (nmL t : Nat) = ((nmL t + 1 : Nat) : Int) := by omega
  have d0 : decide (((nmL t : Nat) : Int) = (0 : Int)) = false := decide_eq_false (by omega)
  have d1 : decide (((d.toNat : Nat) : Int) = 93) = false := decF (by omega)
  have d2 : decide (((d.toNat : Nat) : Int) = 61) = true := decT (by omega)
  have hn := nm_drop hd
  have e65' := fun (d : Nat) (σ : AS) (K : AV → AS → Prop) => e65 (s := r) (by omega) (d := d) (σ := σ) (K := K)
  rw [upI_eq, hq] at e65'
  have d3 : decide (((c2.toNat : Nat) : Int) = 93) = true := decT (by omega)
  refine r38 _ rfl rfl ?_
  unfold w38
  dsimp only [prims]
  simp (disch := first | first | omega | assumption | exact scell | exact clen_XStep | (simp only [clen_XStep]; omega) | (simp only [List.length_append, List.length_cons, List.length_nil]; omega)) only [Nat.zero_add, oV_some', oN_eq, oM_some, oH_some, oD_some, oE_some, oS_eq, oT_true, oI_true, oI_false, pick_t, pick_f, un_not, oI_not, decide_not, toNat_sub1, toNat_add1, decide_true, decide_false, not_true, not_false_eq_true, Bool.not_true, Bool.not_false, Bool.not_not, oZ_b, oZ_i, oZ_s, oZ_l, slen_map, wr64, Int.toNat_natCast, Int.toNat_zero, ne_eq, bin_eq, b_snil, beq_4, bin_ne, b_snnil, bne_4, bin_add, load_get, loadB_some, get_put_same, get_put_ne, ofc_s, load_i, ext_t, List.getElem?_cons_zero, List.getElem?_cons_succ, idx_9, ofc_encXStep, ofc0_encXStep, st_XStep, fld_XStep_kind_, fld_XStep_name_, fld_XStep_index_, fld_XStep_value_, prt_XStep_kind_, prt_XStep_name_, prt_XStep_index_, prt_XStep_value_, gtt_2, gff_2, gtf_2, gft_2, gvv_2, gnt_2, gnf_2, gtt_3, gff_3, gtf_3, gft_3, gvv_3, gnt_3, gnf_3, enc_x0, st50, ld50, sl_c, e39', e1, sl_ck, sl_cd, hd, d0, cl0, gd0, d1, d2, e65', upR, ex0, ex1, ex2, nl0, d3, bld_50k, stA50, rw_one, ozxsb]
theorem c38_j (c : UInt8) (t : List UInt8) (hl : t.length + 1 ≤ 100000) (h0 : ¬ nmL t = 0) (d : UInt8) (r : List UInt8) (hd : t.drop (nmL t) = d :: r) (h1 : ¬ d.toNat = 93) (h2 : d.toNat = 61) (a r2 : List UInt8) (c2 : UInt8) (hq : quL r = .ok a (c2 :: r2)) (h3 : ¬ c2.toNat = 93) : R T0 38 [.s (c :: t)] (.tup [encXStep x0, .s [], .b false]) := by
  have hk := nmL_le t
  have e39' := fun (d : Nat) (σ : AS) (K : AV → AS → Prop) => e39 (s := t) (by omega) (d := d) (σ := σ) (K := K)
  have e1 : (1 : Int) + (nmL t : Nat) = ((nmL t + 1 : Nat) : Int) := by omega
  have d0 : decide (((nmL t : Nat) : Int) = (0 : Int)) = false := decide_eq_false (by omega)
  have d1 : decide (((d.toNat : Nat) : Int) = 93) = false := decF (by omega)
  have d2 : decide (((d.toNat : Nat) : Int) = 61) = true := decT (by omega)
  have hn := nm_drop hd
  have e65' := fun (d : Nat) (σ : AS) (K : AV → AS → Prop) => e65 (s := r) (by omega) (d := d) (σ := σ) (K := K)
  rw [upI_eq, hq] at e65'
  have d3 : decide (((c2.toNat : Nat) : Int) = 93) = false := decF (by omega)
  refine r38 _ rfl rfl ?_
  unfold w38
  dsimp only [prims]
  simp (disch := first | first | omega | assumption | exact scell | exact clen_XStep | (simp only [clen_XStep]; omega) | (simp only [List.length_append, List.length_cons, List.length_nil]; omega)) only [Nat.zero_add, oV_some', oN_eq, oM_some, oH_some, oD_some, oE_some, oS_eq, oT_true, oI_true, oI_false, pick_t, pick_f, un_not, oI_not, decide_not, toNat_sub1, toNat_add1, decide_true, decide_false, not_true, not_false_eq_true, Bool.not_true, Bool.not_false, Bool.not_not, oZ_b, oZ_i, oZ_s, oZ_l, slen_map, wr64, Int.toNat_natCast, Int.toNat_zero, ne_eq, bin_eq, b_snil, beq_4, bin_ne, b_snnil, bne_4, bin_add, load_get, loadB_some, get_put_same, get_put_ne, ofc_s, load_i, ext_t, List.getElem?_cons_zero, List.getElem?_cons_succ, idx_9, ofc_encXStep, ofc0_encXStep, st_XStep, fld_XStep_kind_, fld_XStep_name_, fld_XStep_index_, fld_XStep_value_, prt_XStep_kind_, prt_XStep_name_, prt_XStep_index_, prt_XStep_value_, gtt_2, gff_2, gtf_2, gft_2, gvv_2, gnt_2, gnf_2, gtt_3, gff_3, gtf_3, gft_3, gvv_3, gnt_3, gnf_3, enc_x0, st50, ld50, sl_c, e39', e1, sl_ck, sl_cd, hd, d0, cl0, gd0, d1, d2, e65', upR, ex0, ex1, ex2, nl0, d3, ozxsb]
theorem brL_0 {t : List UInt8} (h0 : nmL t = 0) : brL t = none := by unfold brL; rw [if_pos h0]
theorem brL_b {t : List UInt8} (h0 : ¬ nmL t = 0) (hd : t.drop (nmL t) = []) : brL t = none := by unfold brL; rw [if_neg h0, hd]
theorem brL_i {t r : List UInt8} {d : UInt8} (h0 : ¬ nmL t = 0) (hd : t.drop (nmL t) = d :: r) (h1 : d.toNat = 93) : brL t = if canB (t.take (nmL t)) = true then some (⟨2, [], (min (valD 0 (t.take (nmL t))) 65 : Nat), []⟩, r) else none := by
  unfold brL; rw [if_neg h0, hd]; simp only []; rw [if_pos h1]
theorem brL_e {t r : List UInt8} {d : UInt8} (h0 : ¬ nmL t = 0) (hd : t.drop (nmL t) = d :: r) (h1 : ¬ d.toNat = 93) (h2 : ¬ d.toNat = 61) : brL t = none := by
  unfold brL; rw [if_neg h0, hd]; simp only []; rw [if_neg h1, if_neg h2]
theorem brL_q {t r : List UInt8} {d : UInt8} (h0 : ¬ nmL t = 0) (hd : t.drop (nmL t) = d :: r) (h1 : ¬ d.toNat = 93) (h2 : d.toNat = 61) : brL t = (match quL r with | .ok acc r' => (match r' with | [] => none | c :: r'' => if c.toNat = 93 then some (⟨3, t.take (nmL t), 0, acc⟩, r'') else none) | _ => none) := by
  conv => lhs; unfold brL
  rw [if_neg h0, hd]; simp only []; rw [if_neg h1, if_pos h2]
theorem c38 (c : UInt8) (t : List UInt8) (hl : t.length + 1 ≤ 100000) : ∃ x r b, BrT (brL t) x r b ∧ R T0 38 [.s (c :: t)] (.tup [encXStep x, .s r, .b b]) := by
  by_cases h0 : nmL t = 0
  · exact ⟨_, _, _, by rw [brL_0 h0]; rfl, c38_a c t hl h0⟩
  · cases hd : t.drop (nmL t) with
    | nil => exact ⟨_, _, _, by rw [brL_b h0 hd]; rfl, c38_b c t hl h0 hd⟩
    | cons d r =>
      by_cases h1 : d.toNat = 93
      · rw [brL_i h0 hd h1]
        by_cases hc : canB (t.take (nmL t)) = true
        · exact ⟨_, _, _, by rw [if_pos hc]; exact ⟨rfl, rfl, rfl⟩, c38_c c t hl h0 d r hd h1 hc⟩
        · exact ⟨_, _, _, by rw [if_neg hc]; rfl, c38_d c t hl h0 d r hd h1 (by simpa using hc)⟩
      · by_cases h2 : d.toNat = 61
        · rw [brL_q h0 hd h1 h2]
          cases hq : quL r with
          | bad => exact ⟨_, _, _, rfl, c38_f c t hl h0 d r hd h1 h2 hq⟩
          | op a => exact ⟨_, _, _, rfl, c38_g c t hl h0 d r hd h1 h2 a hq⟩
          | ok a r' =>
            cases r' with
            | nil => exact ⟨_, _, _, rfl, c38_h c t hl h0 d r hd h1 h2 a hq⟩
            | cons c2 r2 =>
              by_cases h3 : c2.toNat = 93
              · exact ⟨_, _, _, by simp only []; rw [if_pos h3]; exact ⟨rfl, rfl, rfl⟩, c38_i c t hl h0 d r hd h1 h2 a r2 c2 hq h3⟩
              · exact ⟨_, _, _, by simp only []; rw [if_neg h3]; rfl, c38_j c t hl h0 d r hd h1 h2 a r2 c2 hq h3⟩
        · exact ⟨_, _, _, by rw [brL_e h0 hd h1 h2]; rfl, c38_e c t hl h0 d r hd h1 h2⟩
end Go.Proofs.YtmfhmlhaofpeiaaGreatDoor.Ev
