/- Texts of this session's, one behind the other. -/
import Derived.Test.YtmfhmlhaofpeiaaGreatDoorEvFd
import Derived.Test.YtmfhmlhaofpeiaaGreatDoorEvLh
import Derived.Test.YtmfhmlhaofpeiaaGreatDoorEv1
import Derived.Test.YtmfhmlhaofpeiaaGreatDoorEv2
import Derived.Test.YtmfhmlhaofpeiaaGreatDoorEv3
import Derived.Test.YtmfhmlhaofpeiaaGreatDoorEv4
import Derived.Test.YtmfhmlhaofpeiaaGreatDoorSh
import Derived.Test.YtmfhmlhaofpeiaaGreatDoorEvX
import Derived.Test.YtmfhmlhaofpeiaaGreatDoorEvT
import Derived.Test.YtmfhmlhaofpeiaaGreatDoorEvTy
import Derived.Test.YtmfhmlhaofpeiaaGreatDoorEvF
import Derived.Test.YtmfhmlhaofpeiaaGreatDoorV0
import Derived.Test.YtmfhmlhaofpeiaaGreatDoorOp
import Derived.Test.YtmfhmlhaofpeiaaGreatDoorV6
import Derived.Test.YtmfhmlhaofpeiaaGreatDoorEvG
import Derived.Test.YtmfhmlhaofpeiaaGreatDoorEvLg
import Derived.Test.YtmfhmlhaofpeiaaGreatDoorEvFb
import Derived.Test.YtmfhmlhaofpeiaaGreatDoorEvFc
import Derived.Test.YtmfhmlhaofpeiaaGreatDoorW1
/- Few; Alike of a value and itself. -/
namespace Go.Proofs.YtmfhmlhaofpeiaaGreatDoor.Ev
open Go Go.RowKit
set_option linter.unusedSimpArgs false
set_option linter.unusedVariables false
set_option maxRecDepth 100000

mutual
def lfV : Val → Int → Int
  | .mk _ _ s l fs, m => lfFs fs (lfVs l (m - 1 - (s.length : Nat)))
def lfF : Fld → Int → Int
  | .mk nm v, m => lfV v (m - (nm.length : Nat))
def lfVs : List Val → Int → Int
  | [], m => m
  | v :: vs, m => lfVs vs (if 0 ≤ m then lfV v m else m)
def lfFs : List Fld → Int → Int
  | [], m => m
  | f :: fs, m => lfFs fs (if 0 ≤ m then lfF f m else m)
end
theorem lfV_eq (v : Val) (m : Int) : lfV v m = lfFs v.fields (lfVs v.list (m - 1 - (v.s.length : Nat))) := by cases v; rw [lfV]; rfl
theorem lfF_eq (f : Fld) (m : Int) : lfF f m = lfV f.v (m - (f.name.length : Nat)) := by cases f; rw [lfF]; rfl
theorem lfVs_app (a b : List Val) : ∀ m, lfVs (a ++ b) m = lfVs b (lfVs a m) := by
  induction a with
  | nil => intro m; rw [List.nil_append, lfVs]
  | cons x a ih => intro m; rw [List.cons_append, lfVs, lfVs, ih]
theorem lfFs_app (a b : List Fld) : ∀ m, lfFs (a ++ b) m = lfFs b (lfFs a m) := by
  induction a with
  | nil => intro m; rw [List.nil_append, lfFs]
  | cons x a ih => intro m; rw [List.cons_append, lfFs, lfFs, ih]
theorem lfVs_neg (l : List Val) : ∀ m, m < 0 → lfVs l m = m := by
  induction l with
  | nil => intro m _; rw [lfVs]
  | cons x a ih => intro m h; rw [lfVs, if_neg (by omega), ih m h]
theorem lfFs_neg (l : List Fld) : ∀ m, m < 0 → lfFs l m = m := by
  induction l with
  | nil => intro m _; rw [lfFs]
  | cons x a ih => intro m h; rw [lfFs, if_neg (by omega), ih m h]
theorem lfVs_take {l : List Val} {j : Nat} {m : Int} (hj : j < l.length) (h : 0 ≤ lfVs (l.take j) m) : lfVs (l.take (j + 1)) m = lfV (l.getD j default) (lfVs (l.take j) m) := by
  rw [take_snoc hj, lfVs_app, lfVs, lfVs, if_pos h]
theorem lfFs_take {l : List Fld} {j : Nat} {m : Int} (hj : j < l.length) (h : 0 ≤ lfFs (l.take j) m) : lfFs (l.take (j + 1)) m = lfV (l.getD j default).v (lfFs (l.take j) m - ((l.getD j default).name.length : Nat)) := by
  rw [take_snoc hj, lfFs_app, lfFs, lfFs, if_pos h, lfF_eq]
theorem lfVs_stop {l : List Val} {j : Nat} {m : Int} (h : lfVs (l.take j) m < 0) : lfVs l m = lfVs (l.take j) m := by
  conv => lhs; rw [← List.take_append_drop j l, lfVs_app, lfVs_neg _ _ h]
theorem lfFs_stop {l : List Fld} {j : Nat} {m : Int} (h : lfFs (l.take j) m < 0) : lfFs l m = lfFs (l.take j) m := by
  conv => lhs; rw [← List.take_append_drop j l, lfFs_app, lfFs_neg _ _ h]
theorem lf_bnd (k : Nat) : ∀ (v : Val) (m : Int), SizeOf.sizeOf v ≤ k → okV v → (-140737488360000 : Int) ≤ m → m ≤ 1000000 → (-300000000000000 : Int) ≤ lfV v m ∧ lfV v m ≤ 1000000 := by
  induction k with
  | zero => intro v m h; obtain ⟨_, _, _, _, _⟩ := v; simp only [Val.mk.sizeOf_spec] at h; omega
  | succ k ih =>
    intro v m hsz ov h1 h2
    obtain ⟨ls, ll, lf, ol, of_⟩ := okV_list ov
    rw [lfV_eq]
    have A : ∀ (l : List Val) (m : Int), (∀ x ∈ l, SizeOf.sizeOf x ≤ k ∧ okV x) → (-300000000000000 : Int) ≤ m → m ≤ 1000000 → (-300000000000000 : Int) ≤ lfVs l m ∧ lfVs l m ≤ 1000000 := by
      intro l
      induction l with
      | nil => intro m _ a b; rw [lfVs]; exact ⟨a, b⟩
      | cons x l il =>
        intro m hx a b
        rw [lfVs]
        by_cases h0 : 0 ≤ m
        · rw [if_pos h0]
          have hx1 := hx x (List.mem_cons_self ..)
          have := ih x m hx1.1 hx1.2 (by omega) b
          exact il _ (fun y hy => hx y (List.mem_cons_of_mem _ hy)) this.1 this.2
        · rw [if_neg h0]; exact il _ (fun y hy => hx y (List.mem_cons_of_mem _ hy)) a b
    have B : ∀ (l : List Fld) (m : Int), (∀ x ∈ l, SizeOf.sizeOf x.v ≤ k ∧ okF x) → (-300000000000000 : Int) ≤ m → m ≤ 1000000 → (-300000000000000 : Int) ≤ lfFs l m ∧ lfFs l m ≤ 1000000 := by
      intro l
      induction l with
      | nil => intro m _ a b; rw [lfFs]; exact ⟨a, b⟩
      | cons x l il =>
        intro m hx a b
        rw [lfFs]
        by_cases h0 : 0 ≤ m
        · rw [if_pos h0, lfF_eq]
          have hx1 := hx x (List.mem_cons_self ..)
          have hx2 := okF_v hx1.2
          have := ih x.v (m - (x.name.length : Nat)) hx1.1 hx2.2 (by omega) (by omega)
          exact il _ (fun y hy => hx y (List.mem_cons_of_mem _ hy)) this.1 this.2
        · rw [if_neg h0]; exact il _ (fun y hy => hx y (List.mem_cons_of_mem _ hy)) a b
    have a := A v.list (m - 1 - (v.s.length : Nat)) (fun x hx => ⟨by have := size_list v hx; omega, ol x hx⟩) (by omega) (by omega)
    exact B v.fields _ (fun x hx => ⟨by have := size_fields v hx; omega, of_ x hx⟩) a.1 a.2
theorem lfVs_bnd {v : Val} {m : Int} (ov : okV v) (h1 : (-140737488360000 : Int) ≤ m) (h2 : m ≤ 1000000) (j : Nat) : (-300000000000000 : Int) ≤ lfVs (v.list.take j) (m - 1 - (v.s.length : Nat)) ∧ lfVs (v.list.take j) (m - 1 - (v.s.length : Nat)) ≤ 1000000 := by
  obtain ⟨ls, ll, lf, ol, of_⟩ := okV_list ov
  have A : ∀ (l : List Val) (m : Int), (∀ x ∈ l, okV x) → (-300000000000000 : Int) ≤ m → m ≤ 1000000 → (-300000000000000 : Int) ≤ lfVs l m ∧ lfVs l m ≤ 1000000 := by
    intro l
    induction l with
    | nil => intro m _ a b; rw [lfVs]; exact ⟨a, b⟩
    | cons x l il =>
      intro m hx a b
      rw [lfVs]
      by_cases h0 : 0 ≤ m
      · rw [if_pos h0]
        have := lf_bnd _ x m (Nat.le_refl _) (hx x (List.mem_cons_self ..)) (by omega) b
        exact il _ (fun y hy => hx y (List.mem_cons_of_mem _ hy)) this.1 this.2
      · rw [if_neg h0]; exact il _ (fun y hy => hx y (List.mem_cons_of_mem _ hy)) a b
  exact A _ _ (fun x hx => ol x (List.mem_of_mem_take hx)) (by omega) (by omega)
theorem lfFs_bnd {v : Val} {m : Int} (ov : okV v) (h1 : (-300000000000000 : Int) ≤ m) (h2 : m ≤ 1000000) (j : Nat) : (-300000000000000 : Int) ≤ lfFs (v.fields.take j) m ∧ lfFs (v.fields.take j) m ≤ 1000000 := by
  obtain ⟨ls, ll, lf, ol, of_⟩ := okV_list ov
  have A : ∀ (l : List Fld) (m : Int), (∀ x ∈ l, okF x) → (-300000000000000 : Int) ≤ m → m ≤ 1000000 → (-300000000000000 : Int) ≤ lfFs l m ∧ lfFs l m ≤ 1000000 := by
    intro l
    induction l with
    | nil => intro m _ a b; rw [lfFs]; exact ⟨a, b⟩
    | cons x l il =>
      intro m hx a b
      rw [lfFs]
      by_cases h0 : 0 ≤ m
      · rw [if_pos h0, lfF_eq]
        have hx2 := okF_v (hx x (List.mem_cons_self ..))
        have := lf_bnd _ x.v (m - (x.name.length : Nat)) (Nat.le_refl _) hx2.2 (by omega) (by omega)
        exact il _ (fun y hy => hx y (List.mem_cons_of_mem _ hy)) this.1 this.2
      · rw [if_neg h0]; exact il _ (fun y hy => hx y (List.mem_cons_of_mem _ hy)) a b
  exact A _ _ (fun x hx => of_ x (List.mem_of_mem_take hx)) h1 h2
theorem c48 (k : Nat) : ∀ (v : Val) (m : Int), SizeOf.sizeOf v ≤ k → okV v → (-140737488360000 : Int) ≤ m → m ≤ 1000000 → R T0 48 [encV v, .i .i64 m] (.i .i64 (lfV v m)) := by
  induction k with
  | zero => intro v m h; obtain ⟨_, _, _, _, _⟩ := v; simp only [Val.mk.sizeOf_spec] at h; omega
  | succ k ih =>
    intro v m hsz ov h1 h2
    obtain ⟨ls, ll, lf, ol, of_⟩ := okV_list ov
    have bv := lfVs_bnd ov h1 h2
    refine r48 _ _ (idf_V2 v m) (nrm_V2 v m) ?_
    unfold w48
    dsimp only [prims]
    simp (disch := first | first | assumption | exact clen_V | exact clen_F | (simp only [clen_V, clen_F]; omega) | omega | assumption | exact scell | exact clen_XStep | (simp only [clen_XStep]; omega) | exact scell | (simp only [List.length_append, List.length_cons, List.length_nil]; omega)) only [Nat.zero_add, oV_some', oN_eq, oM_some, oH_some, oD_some, oE_some, oS_eq, oT_true, oI_true, oI_false, pick_t, pick_f, un_not, oI_not, decide_not, toNat_sub1, toNat_add1, decide_true, decide_false, not_true, not_false_eq_true, Bool.not_true, Bool.not_false, Bool.not_not, oZ_b, oZ_i, oZ_s, oZ_l, slen_map, wr64, Int.toNat_natCast, Int.toNat_zero, ne_eq, bin_lt, bin_slt, bin_ge, bin_sge, bin_add, bin_sub, load_get, loadB_some, get_put_same, get_put_ne, ofc_s, load_i, off_i, off_p, len_9, ofc_encXStep, ofc0_encXStep, st_XStep, fld_XStep_kind_, fld_XStep_name_, fld_XStep_index_, fld_XStep_value_, prt_XStep_kind_, prt_XStep_name_, prt_XStep_index_, prt_XStep_value_, len_32, len_33, ia_32, ia_33, gtt_2, gff_2, gtf_2, gft_2, gvv_2, gnt_2, gnf_2, fld_V_kind, fld_V_n, fld_V_s, fld_V_list, fld_V_fields, ofc_encV, ofc0_encV, fld_F_name, fld_F_v, ofc_encF, ofc0_encF, st_V0, st_F0, len_32, len_33, ia_32, ia_33]
    refine loop3 (X := Nat) (fun j => .i .i64 (lfVs (v.list.take j) (m - 1 - (v.s.length : Nat)))) (fun _ => .ptr 0 0) (fun j => .i .i64 (j : Nat))
      (fun j σ => j ≤ v.list.length ∧ σ.h.get 0 = some (.cells (encV v).cells 35 false)) (fun j => v.list.length - j) ?_ 0 _ ⟨Nat.zero_le _, get_put_same _ _ _⟩
    rintro R j σ ⟨hj, hg⟩ hR
    have hb := bv j
    by_cases hc : j < v.list.length ∧ 0 ≤ lfVs (v.list.take j) (m - 1 - (v.s.length : Nat))
    · obtain ⟨hj', h0⟩ := hc
      have hm := getD_mem hj'
      have ht := lfVs_take hj' h0
      have hR' := hR (j + 1)
      rw [ht] at hR'
      generalize lfVs (v.list.take j) (m - 1 - (v.s.length : Nat)) = x at h0 hb hR' ⊢
      have er : ∀ (d : Nat) (σ : AS) (K : AV → AS → Prop), oC T0 d 48 [encV (v.list.getD j default), .i .i64 x] σ K = K (.i .i64 (lfV (v.list.getD j default) x)) σ := fun d σ K => (ih _ x (by have := size_list v hm; omega) (ol _ hm) (by omega) hb.2).eq d σ K
      simp (disch := first | first | assumption | exact clen_V | exact clen_F | (simp only [clen_V, clen_F]; omega) | omega | assumption | exact scell | exact clen_XStep | (simp only [clen_XStep]; omega) | exact scell | (simp only [List.length_append, List.length_cons, List.length_nil]; omega)) only [Nat.zero_add, oV_some', oN_eq, oM_some, oH_some, oD_some, oE_some, oS_eq, oT_true, oI_true, oI_false, pick_t, pick_f, un_not, oI_not, decide_not, toNat_sub1, toNat_add1, decide_true, decide_false, not_true, not_false_eq_true, Bool.not_true, Bool.not_false, Bool.not_not, oZ_b, oZ_i, oZ_s, oZ_l, slen_map, wr64, Int.toNat_natCast, Int.toNat_zero, ne_eq, bin_lt, bin_slt, bin_ge, bin_sge, bin_add, bin_sub, load_get, loadB_some, get_put_same, get_put_ne, ofc_s, load_i, off_i, off_p, len_9, ofc_encXStep, ofc0_encXStep, st_XStep, fld_XStep_kind_, fld_XStep_name_, fld_XStep_index_, fld_XStep_value_, prt_XStep_kind_, prt_XStep_name_, prt_XStep_index_, prt_XStep_value_, len_32, len_33, ia_32, ia_33, gtt_2, gff_2, gtf_2, gft_2, gvv_2, gnt_2, gnf_2, fld_V_kind, fld_V_n, fld_V_s, fld_V_list, fld_V_fields, ofc_encV, ofc0_encV, fld_F_name, fld_F_v, ofc_encF, ofc0_encF, st_V0, st_F0, len_32, len_33, ia_32, ia_33, Int.toNat_natCast, hg, er, decT]
      exact hR' _ ⟨by omega, hg⟩ (by omega)
    · have hall : lfVs v.list (m - 1 - (v.s.length : Nat)) = lfVs (v.list.take j) (m - 1 - (v.s.length : Nat)) := by
        by_cases hj' : j < v.list.length
        · exact lfVs_stop (by omega)
        · rw [List.take_of_length_le (by omega)]
      rw [lfV_eq, hall]
      generalize lfVs (v.list.take j) (m - 1 - (v.s.length : Nat)) = x at hc hb ⊢
      clear hR
      have hcF : (decide (((j : Nat) : Int) < (v.list.length : Nat)) && decide (0 ≤ x)) = false := by
        rw [Bool.and_eq_false_iff, decide_eq_false_iff_not, decide_eq_false_iff_not]; omega
      simp (disch := first | first | assumption | exact clen_V | exact clen_F | (simp only [clen_V, clen_F]; omega) | omega | assumption | exact scell | exact clen_XStep | (simp only [clen_XStep]; omega) | exact scell | (simp only [List.length_append, List.length_cons, List.length_nil]; omega)) only [Nat.zero_add, oV_some', oN_eq, oM_some, oH_some, oD_some, oE_some, oS_eq, oT_true, oI_true, oI_false, pick_t, pick_f, un_not, oI_not, decide_not, toNat_sub1, toNat_add1, decide_true, decide_false, not_true, not_false_eq_true, Bool.not_true, Bool.not_false, Bool.not_not, oZ_b, oZ_i, oZ_s, oZ_l, slen_map, wr64, Int.toNat_natCast, Int.toNat_zero, ne_eq, bin_lt, bin_slt, bin_ge, bin_sge, bin_add, bin_sub, load_get, loadB_some, get_put_same, get_put_ne, ofc_s, load_i, off_i, off_p, len_9, ofc_encXStep, ofc0_encXStep, st_XStep, fld_XStep_kind_, fld_XStep_name_, fld_XStep_index_, fld_XStep_value_, prt_XStep_kind_, prt_XStep_name_, prt_XStep_index_, prt_XStep_value_, len_32, len_33, ia_32, ia_33, gtt_2, gff_2, gtf_2, gft_2, gvv_2, gnt_2, gnf_2, fld_V_kind, fld_V_n, fld_V_s, fld_V_list, fld_V_fields, ofc_encV, ofc0_encV, fld_F_name, fld_F_v, ofc_encF, ofc0_encF, st_V0, st_F0, len_32, len_33, ia_32, ia_33, cnd_true, cnd_false, Bool.true_and, guard1t, guard1f, guard2t, guard2f, guard3t, guard3f, guard4t, guard4f, guard5t, guard5f, guard6t, guard6f, guard7t, guard7f, guard8t, guard8f, guard9t, guard9f, guard10t, guard10f, guard11t, guard11f, guard12t, guard12f, gct_1, gcf_1, gct_2, gcf_2, gct_3, gcf_3, gct_4, gcf_4, gct_5, gcf_5, gct_6, gcf_6, gct_7, gcf_7, gct_8, gcf_8, gct_9, gcf_9, gct_10, gcf_10, gct_11, gcf_11, gct_12, gcf_12, gct_13, gcf_13, gct_14, gcf_14, pick_and, pick_or, pick_andn, pick_orn, nest_and, nest_or, nest_andn, nest_orn, nest_andt, nest_orf, nest_orx, nest_orfx, oZ_V, Int.toNat_natCast, hg, hcF]
      have bf := lfFs_bnd ov hb.1 hb.2
      refine loop3 (X := Nat) (fun j => .i .i64 (lfFs (v.fields.take j) x)) (fun _ => .ptr 0 0) (fun j => .i .i64 (j : Nat))
        (fun j σ => j ≤ v.fields.length ∧ σ.h.get 0 = some (.cells (encV v).cells 35 false)) (fun j => v.fields.length - j) ?_ 0 _ ⟨Nat.zero_le _, hg⟩
      clear hg hcF hb hc
      rintro R j σ ⟨hj, hg⟩ hR
      have hb := bf j
      by_cases hc : j < v.fields.length ∧ 0 ≤ lfFs (v.fields.take j) x
      · obtain ⟨hj', h0⟩ := hc
        have hm := getD_mem hj'
        have hR' := hR (j + 1)
        rw [lfFs_take hj' h0] at hR'
        generalize lfFs (v.fields.take j) x = y at h0 hb hR' ⊢
        have hF := okF_v (of_ _ hm)
        have er : ∀ (d : Nat) (σ : AS) (K : AV → AS → Prop), oC T0 d 48 [encV (v.fields.getD j default).v, .i .i64 (y - ((v.fields.getD j default).name.length : Nat))] σ K = K (.i .i64 (lfV (v.fields.getD j default).v (y - ((v.fields.getD j default).name.length : Nat)))) σ := fun d σ K => (ih _ _ (by have := size_fields v hm; omega) hF.2 (by omega) (by omega)).eq d σ K
        have hl := hF.1
        simp (disch := first | first | assumption | exact clen_V | exact clen_F | (simp only [clen_V, clen_F]; omega) | omega | assumption | exact scell | exact clen_XStep | (simp only [clen_XStep]; omega) | exact scell | (simp only [List.length_append, List.length_cons, List.length_nil]; omega)) only [Nat.zero_add, oV_some', oN_eq, oM_some, oH_some, oD_some, oE_some, oS_eq, oT_true, oI_true, oI_false, pick_t, pick_f, un_not, oI_not, decide_not, toNat_sub1, toNat_add1, decide_true, decide_false, not_true, not_false_eq_true, Bool.not_true, Bool.not_false, Bool.not_not, oZ_b, oZ_i, oZ_s, oZ_l, slen_map, wr64, Int.toNat_natCast, Int.toNat_zero, ne_eq, bin_lt, bin_slt, bin_ge, bin_sge, bin_add, bin_sub, load_get, loadB_some, get_put_same, get_put_ne, ofc_s, load_i, off_i, off_p, len_9, ofc_encXStep, ofc0_encXStep, st_XStep, fld_XStep_kind_, fld_XStep_name_, fld_XStep_index_, fld_XStep_value_, prt_XStep_kind_, prt_XStep_name_, prt_XStep_index_, prt_XStep_value_, len_32, len_33, ia_32, ia_33, gtt_2, gff_2, gtf_2, gft_2, gvv_2, gnt_2, gnf_2, fld_V_kind, fld_V_n, fld_V_s, fld_V_list, fld_V_fields, ofc_encV, ofc0_encV, fld_F_name, fld_F_v, ofc_encF, ofc0_encF, st_V0, st_F0, len_32, len_33, ia_32, ia_33, Int.toNat_natCast, hg, er, decT]
        exact hR' _ ⟨by omega, hg⟩ (by omega)
      · have hall : lfFs v.fields x = lfFs (v.fields.take j) x := by
          by_cases hj' : j < v.fields.length
          · exact lfFs_stop (by omega)
          · rw [List.take_of_length_le (by omega)]
        rw [hall]
        generalize lfFs (v.fields.take j) x = y at hc hb ⊢
        have hcF : (decide (((j : Nat) : Int) < (v.fields.length : Nat)) && decide (0 ≤ y)) = false := by
          rw [Bool.and_eq_false_iff, decide_eq_false_iff_not, decide_eq_false_iff_not]; omega
        simp (disch := first | first | assumption | exact clen_V | exact clen_F | (simp only [clen_V, clen_F]; omega) | omega | assumption | exact scell | exact clen_XStep | (simp only [clen_XStep]; omega) | exact scell | (simp only [List.length_append, List.length_cons, List.length_nil]; omega)) only [Nat.zero_add, oV_some', oN_eq, oM_some, oH_some, oD_some, oE_some, oS_eq, oT_true, oI_true, oI_false, pick_t, pick_f, un_not, oI_not, decide_not, toNat_sub1, toNat_add1, decide_true, decide_false, not_true, not_false_eq_true, Bool.not_true, Bool.not_false, Bool.not_not, oZ_b, oZ_i, oZ_s, oZ_l, slen_map, wr64, Int.toNat_natCast, Int.toNat_zero, ne_eq, bin_lt, bin_slt, bin_ge, bin_sge, bin_add, bin_sub, load_get, loadB_some, get_put_same, get_put_ne, ofc_s, load_i, off_i, off_p, len_9, ofc_encXStep, ofc0_encXStep, st_XStep, fld_XStep_kind_, fld_XStep_name_, fld_XStep_index_, fld_XStep_value_, prt_XStep_kind_, prt_XStep_name_, prt_XStep_index_, prt_XStep_value_, len_32, len_33, ia_32, ia_33, gtt_2, gff_2, gtf_2, gft_2, gvv_2, gnt_2, gnf_2, fld_V_kind, fld_V_n, fld_V_s, fld_V_list, fld_V_fields, ofc_encV, ofc0_encV, fld_F_name, fld_F_v, ofc_encF, ofc0_encF, st_V0, st_F0, len_32, len_33, ia_32, ia_33, cnd_true, cnd_false, Bool.true_and, guard1t, guard1f, guard2t, guard2f, guard3t, guard3f, guard4t, guard4f, guard5t, guard5f, guard6t, guard6f, guard7t, guard7f, guard8t, guard8f, guard9t, guard9f, guard10t, guard10f, guard11t, guard11f, guard12t, guard12f, gct_1, gcf_1, gct_2, gcf_2, gct_3, gcf_3, gct_4, gcf_4, gct_5, gcf_5, gct_6, gcf_6, gct_7, gcf_7, gct_8, gcf_8, gct_9, gcf_9, gct_10, gcf_10, gct_11, gcf_11, gct_12, gcf_12, gct_13, gcf_13, gct_14, gcf_14, pick_and, pick_or, pick_andn, pick_orn, nest_and, nest_or, nest_andn, nest_orn, nest_andt, nest_orf, nest_orx, nest_orfx, oZ_V, Int.toNat_natCast, hg, hcF]
theorem e48 {v : Val} {m : Int} (ov : okV v) (h1 : (-140737488360000 : Int) ≤ m) (h2 : m ≤ 1000000) {d : Nat} {σ : AS} {K : AV → AS → Prop} : oC T0 d 48 [encV v, .i .i64 m] σ K = K (.i .i64 (lfV v m)) σ := (c48 _ v m (Nat.le_refl _) ov h1 h2).eq d σ K
def fewV (v : Val) : Bool := decide (0 ≤ lfV v 2000)
theorem c22 (v : Val) (ov : okV v) : R T0 22 [encV v, .i .i64 2000] (.b (fewV v)) := by
  refine r22 _ _ (idf_V2 v 2000) (nrm_V2 v 2000) ?_
  unfold w22
  dsimp only [prims]
  simp (disch := first | first | assumption | exact clen_V | exact clen_F | (simp only [clen_V, clen_F]; omega) | omega | assumption | exact scell | exact clen_XStep | (simp only [clen_XStep]; omega) | exact scell | (simp only [List.length_append, List.length_cons, List.length_nil]; omega)) only [Nat.zero_add, oV_some', oN_eq, oM_some, oH_some, oD_some, oE_some, oS_eq, oT_true, oI_true, oI_false, pick_t, pick_f, un_not, oI_not, decide_not, toNat_sub1, toNat_add1, decide_true, decide_false, not_true, not_false_eq_true, Bool.not_true, Bool.not_false, Bool.not_not, oZ_b, oZ_i, oZ_s, oZ_l, slen_map, wr64, Int.toNat_natCast, Int.toNat_zero, ne_eq, bin_ge, bin_sge, load_get, loadB_some, get_put_same, get_put_ne, ofc_s, load_i, ofc_encXStep, ofc0_encXStep, st_XStep, fld_XStep_kind_, fld_XStep_name_, fld_XStep_index_, fld_XStep_value_, prt_XStep_kind_, prt_XStep_name_, prt_XStep_index_, prt_XStep_value_, fld_V_kind, fld_V_n, fld_V_s, fld_V_list, fld_V_fields, ofc_encV, ofc0_encV, fld_F_name, fld_F_v, ofc_encF, ofc0_encF, st_V0, st_F0, len_32, len_33, ia_32, ia_33, e48 ov (show (-140737488360000 : Int) ≤ 2000 by decide) (show (2000 : Int) ≤ 1000000 by decide)]
  rfl
theorem e22 {v : Val} (ov : okV v) {d : Nat} {σ : AS} {K : AV → AS → Prop} : oC T0 d 22 [encV v, .i .i64 2000] σ K = K (.b (fewV v)) σ := (c22 v ov).eq d σ K
end Go.Proofs.YtmfhmlhaofpeiaaGreatDoor.Ev
/- Small values; copies of a value. -/
namespace Go.Proofs.YtmfhmlhaofpeiaaGreatDoor.Ev
open Go Go.RowKit
set_option linter.unusedSimpArgs false
set_option linter.unusedVariables false
set_option maxRecDepth 100000

mutual
inductive smV : Val → Prop where
  | mk {k n : Int} {s : List UInt8} {l : List Val} {fs : List Fld} : (Lit.int .i64 k).wf = true → (Lit.int .i64 n).wf = true → s.length ≤ 100000 → l.length ≤ 100000 → fs.length ≤ 100000 → (∀ x ∈ l, smV x) → (∀ f ∈ fs, smF f) → smV (.mk k n s l fs)
inductive smF : Fld → Prop where
  | mk {nm : List UInt8} {v : Val} : nm.length ≤ 100000 → smV v → smF (.mk nm v)
end
theorem smV_facts {v : Val} (h : smV v) : ((Lit.int .i64 v.kind).wf = true ∧ (Lit.int .i64 v.n).wf = true) ∧ v.s.length ≤ 100000 ∧ v.list.length ≤ 100000 ∧ v.fields.length ≤ 100000 ∧ (∀ x ∈ v.list, smV x) ∧ (∀ f ∈ v.fields, smF f) := by
  cases h with
  | mk h1 h2 h3 h4 h5 h6 h7 => exact ⟨⟨h1, h2⟩, h3, h4, h5, h6, h7⟩
theorem smF_facts {f : Fld} (h : smF f) : f.name.length ≤ 100000 ∧ smV f.v := by
  cases h with
  | mk h1 h2 => exact ⟨h1, h2⟩
theorem smV.of {v : Val} (h1 : (Lit.int .i64 v.kind).wf = true ∧ (Lit.int .i64 v.n).wf = true) (h2 : v.s.length ≤ 100000) (h3 : v.list.length ≤ 100000) (h4 : v.fields.length ≤ 100000) (h5 : ∀ x ∈ v.list, smV x) (h6 : ∀ f ∈ v.fields, smF f) : smV v := by
  obtain ⟨k, n, s, l, fs⟩ := v
  exact .mk h1.1 h1.2 h2 h3 h4 h5 h6
theorem smF.of {f : Fld} (h1 : f.name.length ≤ 100000) (h2 : smV f.v) : smF f := by
  obtain ⟨nm, v⟩ := f
  exact .mk h1 h2
theorem okV_of (k : Nat) : ∀ v : Val, SizeOf.sizeOf v ≤ k → smV v → okV v := by
  induction k with
  | zero => intro v h; obtain ⟨_, _, _, _, _⟩ := v; simp only [Val.mk.sizeOf_spec] at h; omega
  | succ k ih =>
    intro v hsz h
    obtain ⟨h1, h2, h3, h4, h5, h6⟩ := smV_facts h
    have a : ∀ x ∈ v.list, okV x := fun x hx => ih x (by have := size_list v hx; omega) (h5 x hx)
    have b : ∀ f ∈ v.fields, okF f := fun f hf => by
      have g := smF_facts (h6 f hf)
      have q := ih f.v (by have := size_fields v hf; omega) g.2
      obtain ⟨nm, w⟩ := f
      exact .mk (by have := g.1; simp only [Fld.name] at this; omega) q
    obtain ⟨k, n, s, l, fs⟩ := v
    exact .mk h1.1 h1.2 (by simp only [Val.s] at h2; omega) (by simp only [Val.list] at h3; omega) (by simp only [Val.fields] at h4; omega) a b
theorem smV.ok {v : Val} (h : smV v) : okV v := okV_of _ v (Nat.le_refl _) h
theorem wf_okV {v : Val} (h : okV v) : (Lit.int .i64 v.kind).wf = true ∧ (Lit.int .i64 v.n).wf = true := by
  cases h with
  | mk h1 h2 => exact ⟨h1, h2⟩
theorem lf_le (k : Nat) : ∀ (v : Val) (m : Int), SizeOf.sizeOf v ≤ k → lfV v m ≤ m - 1 := by
  induction k with
  | zero => intro v m h; obtain ⟨_, _, _, _, _⟩ := v; simp only [Val.mk.sizeOf_spec] at h; omega
  | succ k ih =>
    intro v m hsz
    rw [lfV_eq]
    have A : ∀ (l : List Val) (m : Int), (∀ x ∈ l, SizeOf.sizeOf x ≤ k) → lfVs l m ≤ m := by
      intro l
      induction l with
      | nil => intro m _; rw [lfVs]; exact Int.le_refl _
      | cons x l il =>
        intro m hx
        rw [lfVs]
        have h1 := il (if 0 ≤ m then lfV x m else m) (fun y hy => hx y (List.mem_cons_of_mem _ hy))
        have := ih x m (hx x (List.mem_cons_self ..))
        by_cases h0 : 0 ≤ m
        · rw [if_pos h0] at h1 ⊢; omega
        · rw [if_neg h0] at h1 ⊢; exact h1
    have B : ∀ (l : List Fld) (m : Int), (∀ x ∈ l, SizeOf.sizeOf x.v ≤ k) → lfFs l m ≤ m := by
      intro l
      induction l with
      | nil => intro m _; rw [lfFs]; exact Int.le_refl _
      | cons x l il =>
        intro m hx
        rw [lfFs]
        have h1 := il (if 0 ≤ m then lfF x m else m) (fun y hy => hx y (List.mem_cons_of_mem _ hy))
        have := ih x.v (m - (x.name.length : Nat)) (hx x (List.mem_cons_self ..))
        by_cases h0 : 0 ≤ m
        · rw [if_pos h0, lfF_eq] at h1 ⊢; omega
        · rw [if_neg h0] at h1 ⊢; exact h1
    have a := A v.list (m - 1 - (v.s.length : Nat)) (fun x hx => by have := size_list v hx; omega)
    have b := B v.fields (lfVs v.list (m - 1 - (v.s.length : Nat))) (fun x hx => by have := size_fields v hx; omega)
    omega
theorem lfVs_pos : ∀ (l : List Val) (m : Int), 0 ≤ lfVs l m → 0 ≤ m ∧ lfVs l m + (l.length : Nat) ≤ m ∧ ∀ x ∈ l, ∃ m', m' ≤ m ∧ 0 ≤ lfV x m'
  | [], m, h => by rw [lfVs] at h ⊢; exact ⟨h, by simp, fun x hx => by cases hx⟩
  | x :: l, m, h => by
    rw [lfVs] at h ⊢
    by_cases h0 : 0 ≤ m
    · rw [if_pos h0] at h ⊢
      have ih := lfVs_pos l _ h
      have hx := lf_le _ x m (Nat.le_refl _)
      refine ⟨h0, by rw [List.length_cons]; omega, fun y hy => ?_⟩
      rcases List.mem_cons.1 hy with rfl | hy
      · exact ⟨m, Int.le_refl _, ih.1⟩
      · obtain ⟨m', g1, g2⟩ := ih.2.2 y hy; exact ⟨m', by omega, g2⟩
    · rw [if_neg h0, lfVs_neg _ _ (by omega)] at h; omega
theorem lfFs_pos : ∀ (l : List Fld) (m : Int), 0 ≤ lfFs l m → 0 ≤ m ∧ lfFs l m + (l.length : Nat) ≤ m ∧ ∀ x ∈ l, ∃ m', m' ≤ m ∧ 0 ≤ lfF x m'
  | [], m, h => by rw [lfFs] at h ⊢; exact ⟨h, by simp, fun x hx => by cases hx⟩
  | x :: l, m, h => by
    rw [lfFs] at h ⊢
    by_cases h0 : 0 ≤ m
    · rw [if_pos h0] at h ⊢
      have ih := lfFs_pos l _ h
      have hx := lf_le _ x.v (m - (x.name.length : Nat)) (Nat.le_refl _)
      rw [← lfF_eq] at hx
      refine ⟨h0, by rw [List.length_cons]; omega, fun y hy => ?_⟩
      rcases List.mem_cons.1 hy with rfl | hy
      · exact ⟨m, Int.le_refl _, ih.1⟩
      · obtain ⟨m', g1, g2⟩ := ih.2.2 y hy; exact ⟨m', by omega, g2⟩
    · rw [if_neg h0, lfFs_neg _ _ (by omega)] at h; omega
theorem few_sm (k : Nat) : ∀ (v : Val) (m : Int), SizeOf.sizeOf v ≤ k → okV v → 0 ≤ lfV v m → m ≤ 100000 → smV v := by
  induction k with
  | zero => intro v m h; obtain ⟨_, _, _, _, _⟩ := v; simp only [Val.mk.sizeOf_spec] at h; omega
  | succ k ih =>
    intro v m hsz ov h hm
    obtain ⟨ls, ll, lf, ol, of_⟩ := okV_list ov
    rw [lfV_eq] at h
    obtain ⟨b1, b2, b3⟩ := lfFs_pos _ _ h
    obtain ⟨a1, a2, a3⟩ := lfVs_pos _ _ b1
    refine .of (wf_okV ov) (by omega) (by omega) (by omega) (fun x hx => ?_) (fun f hf => ?_)
    · obtain ⟨m', g1, g2⟩ := a3 x hx
      exact ih x m' (by have := size_list v hx; omega) (ol x hx) g2 (by omega)
    · obtain ⟨m', g1, g2⟩ := b3 f hf
      rw [lfF_eq] at g2
      have hle := lf_le _ f.v (m' - (f.name.length : Nat)) (Nat.le_refl _)
      exact .of (by omega) (ih f.v _ (by have := size_fields v hf; omega) (okF_v (of_ f hf)).2 g2 (by omega))
theorem fewV_sm {v : Val} (ov : okV v) (h : fewV v = true) : smV v := few_sm _ v 2000 (Nat.le_refl _) ov (of_decide_eq_true h) (by decide)
theorem elV : El T0 encV 32 35 4 80 where
  ty := by kernel_rfl
  sz := by kernel_rfl
  bytes := by kernel_rfl
  zr := by kernel_rfl
  de := agg_of (by kernel_rfl)
  len := clen_V
  leaf := leafs_V
  free := frees_V
  nrm := norms_V
  agg := fun v => by rw [encV_eq]; rfl
theorem elF : El T0 encF 33 52 5 96 where
  ty := by kernel_rfl
  sz := by kernel_rfl
  bytes := by kernel_rfl
  zr := by kernel_rfl
  de := agg_of (by kernel_rfl)
  len := clen_F
  leaf := leafs_F
  free := fun f => by rw [encF_eq, encV_eq]; rfl
  nrm := fun f => by rw [encF_eq, encV_eq]; rfl
  agg := fun f => by rw [encF_eq]; rfl
theorem smallB {n b : Nat} (hb : b ≤ 1000) (h : n ≤ 1000000) : smallN n b = true := by
  unfold smallN
  have : n * b ≤ 1000000 * 1000 := Nat.mul_le_mul h hb
  rw [Nat.ble_eq_true_of_le (by omega), Nat.ble_eq_true_of_le (by omega), Nat.ble_eq_true_of_le (by omega)]; rfl
theorem a77 {l : List Val} (hl : l.length ≤ 1000000) {d n : Nat} {K : AV → Option AB → Prop} : oA T0 d 77 [.lst (l.map encV)] n K = K (rowV l n) (rowB encV 35 l) :=
  cloneI_oA (fn := Go.Proofs.Tryz.f77) elV (smallB (by decide) hl) (by kernel_rfl) (by kernel_rfl) (by kernel_rfl) (by kernel_rfl) (by kernel_rfl) (by kernel_rfl) (fun P a Q => by kernel_rfl) d n K
theorem a78 {l : List Fld} (hl : l.length ≤ 1000000) {d n : Nat} {K : AV → Option AB → Prop} : oA T0 d 78 [.lst (l.map encF)] n K = K (rowV l n) (rowB encF 52 l) :=
  cloneI_oA (fn := Go.Proofs.Tryz.f78) elF (smallB (by decide) hl) (by kernel_rfl) (by kernel_rfl) (by kernel_rfl) (by kernel_rfl) (by kernel_rfl) (by kernel_rfl) (fun P a Q => by kernel_rfl) d n K
theorem q77 {l : List Val} (hl : l.length ≤ 1000000) (σ : AS) : ∃ σ', (∀ d K, oC T0 d 77 [.lst (l.map encV)] σ K = K (rowV l σ.n) σ') ∧ (∀ j, j < σ.n → σ'.h.get j = σ.h.get j) ∧ σ.n ≤ σ'.n ∧ (l ≠ [] → σ.n < σ'.n) ∧ (∀ encD : Val → AV, RowAt encV encD 35 σ'.h l σ.n 0) :=
  clone_oC (fn := Go.Proofs.Tryz.f77) elV (smallB (by decide) hl) (by kernel_rfl) (by kernel_rfl) (by kernel_rfl) (by kernel_rfl) (by kernel_rfl) (by kernel_rfl) (fun P a Q => by kernel_rfl) σ
theorem q78 {l : List Fld} (hl : l.length ≤ 1000000) (σ : AS) : ∃ σ', (∀ d K, oC T0 d 78 [.lst (l.map encF)] σ K = K (rowV l σ.n) σ') ∧ (∀ j, j < σ.n → σ'.h.get j = σ.h.get j) ∧ σ.n ≤ σ'.n ∧ (l ≠ [] → σ.n < σ'.n) ∧ (∀ encD : Fld → AV, RowAt encF encD 52 σ'.h l σ.n 0) :=
  clone_oC (fn := Go.Proofs.Tryz.f78) elF (smallB (by decide) hl) (by kernel_rfl) (by kernel_rfl) (by kernel_rfl) (by kernel_rfl) (by kernel_rfl) (by kernel_rfl) (fun P a Q => by kernel_rfl) σ
/-- A value whose rows are other ones. -/
def cellsC (v : Val) (A B : AV) : List AV := [.i .i64 v.kind, .i .i64 v.n, .s v.s, A, B]
theorem cells_V (v : Val) : (encV v).cells = cellsC v (.lst (v.list.map encV)) (.lst (v.fields.map encF)) := by rw [encV_eq]; rfl
section
variable {h : Tr AB} {v : Val} {A B x : AV} {id e : Nat} {g : Bool}
theorem l3 (hg : h.get id = some (.cells (cellsC v A B) e g)) : evLoad T0 h 32 (.ptr id 3) = some A := by rw [load_p hg (show 3 ≤ 5 by decide)]; exact ofc_32 _ _
theorem l4 (hg : h.get id = some (.cells (cellsC v A B) e g)) : evLoad T0 h 33 (.ptr id 4) = some B := by rw [load_p hg (show 4 ≤ 5 by decide)]; exact ofc_33 _ _
theorem l5 (hg : h.get id = some (.cells (cellsC v A B) e g)) : evLoad T0 h 35 (.ptr id 0) = some (.agg (cellsC v A B)) := by rw [load_p hg (Nat.zero_le _), List.drop_zero, ofc_35]; rfl
theorem s3 (hg : h.get id = some (.cells (cellsC v A B) e g)) (hc : x.cells = [x]) (hl : x.leaf = true) : evStore T0 h 32 (.ptr id 3) x = some (h.put id (some (.cells (cellsC v x B) e g))) :=
  store_p sz_32 hg (by rw [hc]; rfl) (by rw [hc]; simp [allLeaf, hl]) (by rw [hc]; rfl)
theorem s4 (hg : h.get id = some (.cells (cellsC v A B) e g)) (hc : x.cells = [x]) (hl : x.leaf = true) : evStore T0 h 33 (.ptr id 4) x = some (h.put id (some (.cells (cellsC v A x) e g))) :=
  store_p sz_33 hg (by rw [hc]; rfl) (by rw [hc]; simp [allLeaf, hl]) (by rw [hc]; rfl)
theorem t3 (hg : h.get id = some (.cells (cellsC v A B) e g)) (hc : x.cells = [x]) (hl : x.leaf = true) : storeA T0 h 32 (.ptr id 3) x = some (id, .cells (cellsC v x B) e g) :=
  storeA_p sz_32 hg (by rw [hc]; rfl) (by rw [hc]; simp [allLeaf, hl]) (by rw [hc]; rfl)
theorem t4 (hg : h.get id = some (.cells (cellsC v A B) e g)) (hc : x.cells = [x]) (hl : x.leaf = true) : storeA T0 h 33 (.ptr id 4) x = some (id, .cells (cellsC v A x) e g) :=
  storeA_p sz_33 hg (by rw [hc]; rfl) (by rw [hc]; simp [allLeaf, hl]) (by rw [hc]; rfl)
end
theorem setN_full : ∀ (a b : List AV), a.length = b.length → setN a 0 b = some b := by
  intro a b
  induction b generalizing a with
  | nil => intro q; cases a with | nil => rfl | cons _ _ => simp at q
  | cons x b ih => intro q; cases a with | nil => simp at q | cons y a => simp [setN, ih a (by simpa using q)]
/-- An element is written by itself: the row stays. -/
theorem rowV_put {h : Tr AB} {l : List Val} {id j : Nat} (r : RowAt encV encV 35 h l id j) (hj : j < l.length) : storeA T0 h 35 (.ptr id (j * (4 + 1))) (encV (l.getD j default)) = some (id, .cells (mixRow encV encV l (j + 1)) 35 true) :=
  r.store (k := 0) clen_V hj sz_35 (clen_V _) (leafs_V _) (setN_full _ _ rfl)
theorem rowF_put {h : Tr AB} {l : List Fld} {id j : Nat} (r : RowAt encF encF 52 h l id j) (hj : j < l.length) : storeA T0 h 35 (.ptr id (j * (5 + 1) + 1)) (encV (l.getD j default).v) = some (id, .cells (mixRow encF encF l (j + 1)) 52 true) :=
  r.store (k := 1) clen_F hj sz_35 (clen_V _) (leafs_V _) (by
    rw [encF_eq]
    show setN (AV.s _ :: _) 1 _ = _
    have : ∀ (x : AV) (a b : List AV), setN (x :: a) 1 b = (setN a 0 b).map (x :: ·) := fun x a b => by cases b <;> rfl
    rw [this, setN_full _ _ rfl]; rfl)
theorem fz_copy {h : Tr AB} {v : Val} {a b i j : Nat} (ra : RowAt encV encV 35 h v.list a i) (hi : v.list.length ≤ i) (rb : RowAt encF encF 52 h v.fields b j) (hj : v.fields.length ≤ j) : fz T0 h 4 (.agg (cellsC v (rowV v.list a) (rowV v.fields b))) = some (encV v) := by
  have g1 := RowAt.fz elV clen_V elV.free elV.nrm ra hi
  have g2 := RowAt.fz elF clen_F elF.free elF.nrm rb hj
  rw [fz_agg 2]
  have m : mapO (fz T0 h 3) (cellsC v (rowV v.list a) (rowV v.fields b)) = some (encV v).cells := by
    rw [cells_V]
    exact mapO_cons (fz_free 2 rfl) (mapO_cons (fz_free 2 rfl) (mapO_cons (fz_free 2 rfl) (mapO_cons g1 (mapO_cons g2 rfl))))
  rw [m, encV_eq]; rfl
theorem st_cc {h : Tr AB} {id e : Nat} {g : Bool} {A B : AV} {v : Val} {cs : List AV} (hc : cs.length = 5) (hg : h.get id = some (.cells cs e g)) (hA : A.leaf = true) (hB : B.leaf = true) : evStore T0 h 35 (.ptr id 0) (.agg (cellsC v A B)) = some (h.put id (some (.cells (cellsC v A B) e g))) :=
  store_p sz_35 hg rfl (by show allLeaf [.i .i64 v.kind, .i .i64 v.n, .s v.s, A, B] = true; rw [show allLeaf [.i .i64 v.kind, .i .i64 v.n, .s v.s, A, B] = allLeaf [A, B] from rfl]; simp only [allLeaf, hA, hB]) (setN_full _ _ hc)
end Go.Proofs.YtmfhmlhaofpeiaaGreatDoor.Ev
/- Both copies of a value answer the value. -/
namespace Go.Proofs.YtmfhmlhaofpeiaaGreatDoor.Ev
open Go Go.RowKit
set_option linter.unusedSimpArgs false
set_option linter.unusedVariables false
set_option maxRecDepth 100000

theorem frA {v : Val} : freeArgs [encV v] = true := idf_V1 v
theorem r107 (a0 : AV) {r : AV} (hi : AV.idfree.idfrees [a0] = true) (hn : AV.norm.norms [a0] = [a0]) (h : w107 (prims T0) a0 (fun r1 s1 => oZ T0 s1 r1 (fun r2 => r2 = r))) : R T0 107 [a0] r :=
  R.mkH (by kernel_rfl) (by kernel_rfl) (show T0.fn 107 = some Go.Proofs.Tryz.f107 by kernel_rfl) (by kernel_rfl) (by kernel_rfl) (by kernel_rfl) hi hn (by rw [w107_eq] at h; exact h)
theorem c107 (k : Nat) : ∀ v : Val, SizeOf.sizeOf v ≤ k → smV v → R T0 107 [encV v] (encV v) := by
  induction k with
  | zero => intro v h; obtain ⟨_, _, _, _, _⟩ := v; simp only [Val.mk.sizeOf_spec] at h; omega
  | succ k ih =>
    intro v hsz sm
    obtain ⟨-, ls, ll, lf, ol, of_⟩ := smV_facts sm
    refine r107 _ (idf_V1 v) (nrm_V1 v) ?_
    unfold w107
    dsimp only [prims]
    simp (disch := first | first | omega | assumption | exact scell | exact clen_XStep | (simp only [clen_XStep]; omega) | exact scell | (simp only [List.length_append, List.length_cons, List.length_nil]; omega)) only [oN_eq, off_p, Nat.zero_add, oV_some']
    have h0 : ((Tr.nil.put 0 (some (.cells (encV v).cells 35 false))).put 1 (some (.cells [.i .i64 0, .i .i64 0, .s [], .nilz true, .nilz true] 35 false)) : Tr AB).get 0 = some (.cells (cellsC v (.lst (v.list.map encV)) (.lst (v.fields.map encF))) 35 false) := by
      rw [get_put_ne _ _ (by decide), get_put_same, cells_V]
    rw [l3 h0, oV_some']
    obtain ⟨σ3, q1, q2, q3, q4, q5⟩ := q77 (l := v.list) (by omega) ⟨((Tr.nil.put 0 (some (.cells (encV v).cells 35 false))).put 1 (some (.cells [.i .i64 0, .i .i64 0, .s [], .nilz true, .nilz true] 35 false)) : Tr AB), 2⟩
    dsimp only at q1 q2 q3 q4 q5
    have g0 := (q2 0 (by decide)).trans h0
    have g1 := (q2 1 (by decide)).trans (get_put_same _ _ _)
    have q5 := q5 encV
    rw [q1, s3 g0 rowV_cells rowV_leaf, oH_some]
    simp (disch := first | first | omega | assumption | exact scell | exact clen_XStep | (simp only [clen_XStep]; omega) | exact scell | (simp only [List.length_append, List.length_cons, List.length_nil]; omega)) only [oV_some', l3 (get_put_same _ _ _), rowV_len elV.ty]
    refine loop5 (X := Nat) (fun _ => .ptr 1 0) (fun _ => .ptr 0 0) (fun _ => rowV v.list 2) (fun _ => .i .i64 (v.list.length : Nat)) (fun j => .i .i64 (j : Nat))
      (fun j σ => j ≤ v.list.length ∧ 2 ≤ σ.n ∧ (v.list ≠ [] → 2 < σ.n) ∧ σ.h.get 0 = some (.cells (cellsC v (rowV v.list 2) (.lst (v.fields.map encF))) 35 false) ∧ σ.h.get 1 = some (.cells [.i .i64 0, .i .i64 0, .s [], .nilz true, .nilz true] 35 false) ∧ RowAt encV encV 35 σ.h v.list 2 j) (fun j => v.list.length - j) ?_ 0 _
      ⟨Nat.zero_le _, q3, q4, get_put_same _ _ _, (get_put_ne _ _ (by decide)).trans g1, q5.same (get_put_ne _ _ (by decide))⟩
    clear q1 q2 q3 q4 q5 g0 g1 h0
    rintro R j σ ⟨hj, hn, hn2, b0, b1, hr⟩ hR
    simp only [oV_some', bin_lt]
    refine oI_decd (fun h => ?_) (fun h => ?_)
    · have hj' : j < v.list.length := by omega
      have hne : v.list ≠ [] := fun q => by rw [q] at hj'; cases hj'
      have hn2 := hn2 hne
      have hm := getD_mem hj'
      have er := fun (d : Nat) (σ : AS) (K : AV → AS → Prop) => (ih _ (by have := size_list v hm; omega) (ol _ hm)).eq d σ K
      rw [rowV_ia elV.ty elV.sz hj', oV_some', hr.load elV clen_V hj', oV_some']
      have e1 : ((σ.h.put σ.n (some (.cells [.i .i64 0, .i .i64 0, .s [], .nilz true, .nilz true] 35 false))).put σ.n (some (.cells (encV (v.list.getD j default)).cells 35 false))).get 0 = some (.cells (cellsC v (rowV v.list 2) (.lst (v.fields.map encF))) 35 false) := by rw [get_put_ne _ _ (by omega), get_put_ne _ _ (by omega)]; exact b0
      have e2 : RowAt encV encV 35 ((σ.h.put σ.n (some (.cells [.i .i64 0, .i .i64 0, .s [], .nilz true, .nilz true] 35 false))).put σ.n (some (.cells (encV (v.list.getD j default)).cells 35 false))) v.list 2 j := hr.same (by rw [get_put_ne _ _ (by omega), get_put_ne _ _ (by omega)])
      simp (disch := first | first | omega | assumption | exact scell | exact clen_XStep | (simp only [clen_XStep]; omega) | exact scell | (simp only [List.length_append, List.length_cons, List.length_nil]; omega)) only [oN_eq, st_V0, oH_some, off_p, Nat.zero_add, oV_some', l3 e1, load_get, get_put_same, loadB_some, ofc0_encV, frA, oT_true, er, rowV_ia elV.ty elV.sz hj', rowV_put e2 hj', oD_some]
      rw [oT_wr rfl rfl, oS_eq]
      simp (disch := first | first | omega | assumption | exact scell | exact clen_XStep | (simp only [clen_XStep]; omega) | exact scell | (simp only [List.length_append, List.length_cons, List.length_nil]; omega)) only [oV_some', bin_add, wr64]
      refine hR (j + 1) ⟨_, _⟩ ?_ (by omega)
      refine ⟨by omega, by dsimp only; omega, fun _ => by dsimp only; omega, ?_, ?_, fun _ => get_put_same _ _ _⟩
      · dsimp only; rw [get_put_ne _ _ (by decide)]; exact e1
      · dsimp only; rw [get_put_ne _ _ (by decide), get_put_ne _ _ (by omega), get_put_ne _ _ (by omega)]; exact b1
    · clear hR
      have hall : v.list.length ≤ j := by omega
      simp (disch := first | first | omega | assumption | exact scell | exact clen_XStep | (simp only [clen_XStep]; omega) | exact scell | (simp only [List.length_append, List.length_cons, List.length_nil]; omega)) only [off_p, Nat.zero_add, oV_some', l4 b0]
      obtain ⟨σ3, q1, q2, q3, q4, q5⟩ := q78 (l := v.fields) (by omega) σ
      have q5 := q5 encF
      obtain ⟨m, hm⟩ : ∃ m, m = σ.n := ⟨_, rfl⟩
      rw [← hm] at q1 q2 q3 q4 q5 hn hn2
      have g0 := (q2 0 (by omega)).trans b0
      have g1 := (q2 1 (by omega)).trans b1
      have hr : RowAt encV encV 35 σ3.h v.list 2 j := fun hne => (q2 2 (hn2 hne)).trans (hr hne)
      rw [q1, s4 g0 rowV_cells rowV_leaf, oH_some]
      simp (disch := first | first | omega | assumption | exact scell | exact clen_XStep | (simp only [clen_XStep]; omega) | exact scell | (simp only [List.length_append, List.length_cons, List.length_nil]; omega)) only [oV_some', l4 (get_put_same _ _ _), rowV_len elF.ty]
      refine loop5 (X := Nat) (fun _ => .ptr 1 0) (fun _ => .ptr 0 0) (fun _ => rowV v.fields m) (fun _ => .i .i64 (v.fields.length : Nat)) (fun j => .i .i64 (j : Nat))
        (fun i σ => i ≤ v.fields.length ∧ m ≤ σ.n ∧ (v.fields ≠ [] → m < σ.n) ∧ σ.h.get 0 = some (.cells (cellsC v (rowV v.list 2) (rowV v.fields m)) 35 false) ∧ σ.h.get 1 = some (.cells [.i .i64 0, .i .i64 0, .s [], .nilz true, .nilz true] 35 false) ∧ RowAt encV encV 35 σ.h v.list 2 j ∧ RowAt encF encF 52 σ.h v.fields m i) (fun i => v.fields.length - i) ?_ 0 _
        ⟨Nat.zero_le _, q3, q4, get_put_same _ _ _, (get_put_ne _ _ (by decide)).trans g1, hr.same (get_put_ne _ _ (by decide)), q5.same (get_put_ne _ _ (by omega))⟩
      clear q1 q2 q3 q4 q5 g0 g1 hr b0 b1 h
      rintro R i σ ⟨hi, hm3, hm4, b0, b1, hr, hf⟩ hR
      simp only [oV_some', bin_lt]
      refine oI_decd (fun h => ?_) (fun h => ?_)
      · have hi' : i < v.fields.length := by omega
        have hne : v.fields ≠ [] := fun q => by rw [q] at hi'; cases hi'
        have hm4 := hm4 hne
        have hmm := getD_mem hi'
        have er := fun (d : Nat) (σ : AS) (K : AV → AS → Prop) => (ih _ (by have := size_fields v hmm; omega) (smF_facts (of_ _ hmm)).2).eq d σ K
        rw [rowV_ia elF.ty elF.sz hi', oV_some', hf.load elF clen_F hi', oV_some']
        have e1 : ((σ.h.put σ.n (some (.cells [.s [], .i .i64 0, .i .i64 0, .s [], .nilz true, .nilz true] 52 false))).put σ.n (some (.cells (encF (v.fields.getD i default)).cells 52 false))).get 0 = some (.cells (cellsC v (rowV v.list 2) (rowV v.fields m)) 35 false) := by rw [get_put_ne _ _ (by omega), get_put_ne _ _ (by omega)]; exact b0
        have e2 : RowAt encF encF 52 ((σ.h.put σ.n (some (.cells [.s [], .i .i64 0, .i .i64 0, .s [], .nilz true, .nilz true] 52 false))).put σ.n (some (.cells (encF (v.fields.getD i default)).cells 52 false))) v.fields m i := hf.same (by rw [get_put_ne _ _ (by omega), get_put_ne _ _ (by omega)])
        have c1 : 1 ≤ (encF (v.fields.getD i default)).cells.length := by rw [clen_F]; decide
        simp (disch := first | first | omega | assumption | exact scell | exact clen_XStep | (simp only [clen_XStep]; omega) | exact scell | (simp only [List.length_append, List.length_cons, List.length_nil]; omega)) only [oN_eq, st_F0, oH_some, off_p, Nat.zero_add, oV_some', l4 e1, load_get, get_put_same, loadB_some c1, fld_F_v, frA, oT_true, er, rowV_ia elF.ty elF.sz hi', rowF_put e2 hi', oD_some]
        rw [oT_wr rfl rfl, oS_eq]
        simp (disch := first | first | omega | assumption | exact scell | exact clen_XStep | (simp only [clen_XStep]; omega) | exact scell | (simp only [List.length_append, List.length_cons, List.length_nil]; omega)) only [oV_some', bin_add, wr64]
        refine hR (i + 1) ⟨_, _⟩ ?_ (by omega)
        refine ⟨by omega, by dsimp only; omega, fun _ => by dsimp only; omega, ?_, ?_, ?_, fun _ => get_put_same _ _ _⟩
        · dsimp only; rw [get_put_ne _ _ (by omega)]; exact e1
        · dsimp only; rw [get_put_ne _ _ (by omega), get_put_ne _ _ (by omega), get_put_ne _ _ (by omega)]; exact b1
        · dsimp only
          intro hne
          have := hn2 hne
          rw [get_put_ne _ _ (by omega), get_put_ne _ _ (by omega), get_put_ne _ _ (by omega)]; exact hr hne
      · clear hR
        simp (disch := first | first | omega | assumption | exact scell | exact clen_XStep | (simp only [clen_XStep]; omega) | exact scell | (simp only [List.length_append, List.length_cons, List.length_nil]; omega)) only [oV_some', l5 b0]
        rw [st_cc rfl b1 rowV_leaf rowV_leaf, oH_some]
        rw [l5 (get_put_same _ _ _), oV_some']
        exact ⟨4, _, fz_copy (hr.same (get_put_ne _ _ (by decide))) hall (hf.same (get_put_ne _ _ (by omega))) (by omega), rfl⟩
theorem e107 {v : Val} (sm : smV v) {d : Nat} {σ : AS} {K : AV → AS → Prop} : oC T0 d 107 [encV v] σ K = K (encV v) σ := (c107 _ v (Nat.le_refl _) sm).eq d σ K
end Go.Proofs.YtmfhmlhaofpeiaaGreatDoor.Ev
/- The path package's copy of a value. -/
namespace Go.Proofs.YtmfhmlhaofpeiaaGreatDoor.Ev
open Go Go.RowKit
set_option linter.unusedSimpArgs false
set_option linter.unusedVariables false
set_option maxRecDepth 100000

theorem c50 (k : Nat) : ∀ v : Val, SizeOf.sizeOf v ≤ k → smV v → R T0 50 [encV v] (encV v) := by
  induction k with
  | zero => intro v h; obtain ⟨_, _, _, _, _⟩ := v; simp only [Val.mk.sizeOf_spec] at h; omega
  | succ k ih =>
    intro v hsz sm
    obtain ⟨-, ls, ll, lf, ol, of_⟩ := smV_facts sm
    refine r50 _ (idf_V1 v) (nrm_V1 v) ?_
    unfold w50
    dsimp only [prims]
    simp (disch := first | first | omega | assumption | exact scell | exact clen_XStep | (simp only [clen_XStep]; omega) | exact scell | (simp only [List.length_append, List.length_cons, List.length_nil]; omega)) only [oN_eq, off_p, Nat.zero_add, oV_some']
    have h0 : ((Tr.nil.put 0 (some (.cells (encV v).cells 35 false))).put 1 (some (.cells [.i .i64 0, .i .i64 0, .s [], .nilz true, .nilz true] 35 false)) : Tr AB).get 0 = some (.cells (cellsC v (.lst (v.list.map encV)) (.lst (v.fields.map encF))) 35 false) := by
      rw [get_put_ne _ _ (by decide), get_put_same, cells_V]
    have h1 : ((Tr.nil.put 0 (some (.cells (encV v).cells 35 false))).put 1 (some (.cells [.i .i64 0, .i .i64 0, .s [], .nilz true, .nilz true] 35 false)) : Tr AB).get 1 = some (.cells [.i .i64 0, .i .i64 0, .s [], .nilz true, .nilz true] 35 false) := get_put_same _ _ _
    generalize ((Tr.nil.put 0 (some (.cells (encV v).cells 35 false))).put 1 (some (.cells [.i .i64 0, .i .i64 0, .s [], .nilz true, .nilz true] 35 false)) : Tr AB) = h at h0 h1
    rw [l3 h0, oV_some', a77 (by omega), oT_rd1 rfl, l4 h0, oV_some', oT_rd rfl, a78 (by omega), oT_rd rfl]
    have h2 : ((h.put (1 + 1) (rowB encV 35 v.list)).put (1 + 1 + 1) (rowB encF 52 v.fields)).get 0 = some (.cells (cellsC v (.lst (v.list.map encV)) (.lst (v.fields.map encF))) 35 false) := by
      rw [get_put_ne _ _ (by decide), get_put_ne _ _ (by decide)]; exact h0
    rw [t3 h2 rowV_cells rowV_leaf, oD_some, oT_wr rfl rfl, oT_rd rfl, t4 (get_put_same _ _ _) rowV_cells rowV_leaf, oD_some, oT_wr rfl rfl, oS_eq]
    rw [l3 (get_put_same _ _ _), oV_some', rowV_len elV.ty, oV_some']
    refine loop4 (X := Nat) (fun _ => .ptr 1 0) (fun _ => .ptr 0 0) (fun _ => .i .i64 (v.list.length : Nat)) (fun j => .i .i64 (j : Nat))
      (fun j σ => j ≤ v.list.length ∧ σ.h.get 0 = some (.cells (cellsC v (rowV v.list 2) (rowV v.fields 3)) 35 false) ∧ σ.h.get 1 = some (.cells [.i .i64 0, .i .i64 0, .s [], .nilz true, .nilz true] 35 false) ∧ RowAt encV encV 35 σ.h v.list 2 j ∧ RowAt encF encF 52 σ.h v.fields 3 0) (fun j => v.list.length - j) ?_ 0 _
      ⟨Nat.zero_le _, get_put_same _ _ _, by dsimp only; rw [get_put_ne _ _ (by decide), get_put_ne _ _ (by decide), get_put_ne _ _ (by decide), get_put_ne _ _ (by decide)]; exact h1, RowAt.new (by dsimp only; rw [get_put_ne _ _ (by decide), get_put_ne _ _ (by decide), get_put_ne _ _ (by decide), get_put_same]), RowAt.new (by dsimp only; rw [get_put_ne _ _ (by decide), get_put_ne _ _ (by decide), get_put_same])⟩
    clear h0 h1 h2 h
    rintro R j σ ⟨hj, b0, b1, hr, hf⟩ hR
    simp only [oV_some', bin_lt]
    refine oI_decd (fun h => ?_) (fun h => ?_)
    · have hj' : j < v.list.length := by omega
      have hm := getD_mem hj'
      have er := fun (d : Nat) (σ : AS) (K : AV → AS → Prop) => (ih _ (by have := size_list v hm; omega) (ol _ hm)).eq d σ K
      simp (disch := first | first | omega | assumption | exact scell | exact clen_XStep | (simp only [clen_XStep]; omega) | exact scell | (simp only [List.length_append, List.length_cons, List.length_nil]; omega)) only [off_p, Nat.zero_add, oV_some', l3 b0, rowV_ia elV.ty elV.sz hj', hr.load elV clen_V hj', er, rowV_put hr hj', oD_some]
      rw [oT_wr rfl rfl, oS_eq]
      simp (disch := first | first | omega | assumption | exact scell | exact clen_XStep | (simp only [clen_XStep]; omega) | exact scell | (simp only [List.length_append, List.length_cons, List.length_nil]; omega)) only [oV_some', bin_add, wr64]
      refine hR (j + 1) ⟨_, _⟩ ?_ (by omega)
      refine ⟨by omega, ?_, ?_, fun _ => get_put_same _ _ _, hf.same (get_put_ne _ _ (by decide))⟩
      · dsimp only; rw [get_put_ne _ _ (by decide)]; exact b0
      · dsimp only; rw [get_put_ne _ _ (by decide)]; exact b1
    · clear hR
      have hall : v.list.length ≤ j := by omega
      simp (disch := first | first | omega | assumption | exact scell | exact clen_XStep | (simp only [clen_XStep]; omega) | exact scell | (simp only [List.length_append, List.length_cons, List.length_nil]; omega)) only [off_p, Nat.zero_add, oV_some', l4 b0, rowV_len elF.ty]
      refine loop4 (X := Nat) (fun _ => .ptr 1 0) (fun _ => .ptr 0 0) (fun _ => .i .i64 (v.fields.length : Nat)) (fun j => .i .i64 (j : Nat))
        (fun i σ => i ≤ v.fields.length ∧ σ.h.get 0 = some (.cells (cellsC v (rowV v.list 2) (rowV v.fields 3)) 35 false) ∧ σ.h.get 1 = some (.cells [.i .i64 0, .i .i64 0, .s [], .nilz true, .nilz true] 35 false) ∧ RowAt encV encV 35 σ.h v.list 2 j ∧ RowAt encF encF 52 σ.h v.fields 3 i) (fun i => v.fields.length - i) ?_ 0 _
        ⟨Nat.zero_le _, b0, b1, hr, hf⟩
      clear b0 b1 hr hf h
      rintro R i σ ⟨hi, b0, b1, hr, hf⟩ hR
      simp only [oV_some', bin_lt]
      refine oI_decd (fun h => ?_) (fun h => ?_)
      · have hi' : i < v.fields.length := by omega
        have hmm := getD_mem hi'
        have er := fun (d : Nat) (σ : AS) (K : AV → AS → Prop) => (ih _ (by have := size_fields v hmm; omega) (smF_facts (of_ _ hmm)).2).eq d σ K
        have ld : evLoad T0 σ.h 35 (.ptr 3 (i * (5 + 1) + 1)) = some (encV (v.fields.getD i default).v) := by
          rw [load_p (hf.get hi') (by rw [mix_len clen_F clen_F]; omega), ← List.drop_drop, mix_drop clen_F hi']
          rw [encF_eq]
          show ofCells T0 35 ((encV (v.fields.getD i default).v).cells ++ _) = _
          rw [encV_eq, ofc_35]; rfl
        simp (disch := first | first | omega | assumption | exact scell | exact clen_XStep | (simp only [clen_XStep]; omega) | exact scell | (simp only [List.length_append, List.length_cons, List.length_nil]; omega)) only [off_p, Nat.zero_add, oV_some', l4 b0, rowV_ia elF.ty elF.sz hi', ld, er, rowF_put hf hi', oD_some]
        rw [oT_wr rfl rfl, oS_eq]
        simp (disch := first | first | omega | assumption | exact scell | exact clen_XStep | (simp only [clen_XStep]; omega) | exact scell | (simp only [List.length_append, List.length_cons, List.length_nil]; omega)) only [oV_some', bin_add, wr64]
        refine hR (i + 1) ⟨_, _⟩ ?_ (by omega)
        refine ⟨by omega, ?_, ?_, hr.same (get_put_ne _ _ (by decide)), fun _ => get_put_same _ _ _⟩
        · dsimp only; rw [get_put_ne _ _ (by decide)]; exact b0
        · dsimp only; rw [get_put_ne _ _ (by decide)]; exact b1
      · clear hR
        simp (disch := first | first | omega | assumption | exact scell | exact clen_XStep | (simp only [clen_XStep]; omega) | exact scell | (simp only [List.length_append, List.length_cons, List.length_nil]; omega)) only [oV_some', l5 b0]
        rw [st_cc rfl b1 rowV_leaf rowV_leaf, oH_some]
        rw [l5 (get_put_same _ _ _), oV_some']
        exact ⟨4, _, fz_copy (hr.same (get_put_ne _ _ (by decide))) hall (hf.same (get_put_ne _ _ (by decide))) (by omega), rfl⟩
theorem e50 {v : Val} (sm : smV v) {d : Nat} {σ : AS} {K : AV → AS → Prop} : oC T0 d 50 [encV v] σ K = K (encV v) σ := (c50 _ v (Nat.le_refl _) sm).eq d σ K
end Go.Proofs.YtmfhmlhaofpeiaaGreatDoor.Ev
/- Where a step leads: the program's child, the reference's Find. -/
namespace Go.Proofs.YtmfhmlhaofpeiaaGreatDoor.Ev
open Go Go.RowKit
set_option linter.unusedSimpArgs false
set_option linter.unusedVariables false
set_option maxRecDepth 100000

/-- The place of a field; the value of a field. -/
def fldI (v : Val) (nm : List UInt8) : Int := if v.kind = 5 then idxB (fun f : Fld => f.name == nm) v.fields else -1
def getF (v : Val) (nm : List UInt8) : Option Val := if 0 ≤ fldI v nm then some (v.fields.getD (fldI v nm).toNat default).v else none
def mtB (v : Val) (nm s : List UInt8) : Bool := match getF v nm with
  | some w => decide (w.kind = 3) && (w.s == s)
  | none => false
def chI (v : Val) (x : XStep) : Int :=
  if x.kind_ = 1 ∧ v.kind = 5 then idxB (fun f : Fld => f.name == x.name_) v.fields
  else if x.kind_ = 2 ∧ v.kind = 4 ∧ x.index_ < (v.list.length : Nat) then x.index_
  else if x.kind_ = 3 ∧ v.kind = 4 then idxB (fun e : Val => mtB e x.name_ x.value_) v.list else -1
theorem idxB_bnd {α : Type} (q : α → Bool) (l : List α) : -1 ≤ idxB q l ∧ idxB q l < (l.length : Nat) := by
  unfold idxB
  by_cases h : l.findIdx q < l.length
  · rw [if_pos h]; omega
  · rw [if_neg h]; omega
theorem fldI_bnd (v : Val) (nm : List UInt8) : -1 ≤ fldI v nm ∧ fldI v nm < (v.fields.length : Nat) := by
  unfold fldI
  by_cases h : v.kind = 5
  · rw [if_pos h]; exact idxB_bnd _ _
  · rw [if_neg h]; omega
def gtR : Option Val → AV
  | some w => .tup [encV w, .b true]
  | none => .tup [encV default, .b false]
theorem bld35 : evBuild T0 35 [] = some (.agg [.i .i64 0, .i .i64 0, .s [], .nilz true, .nilz true]) := by kernel_rfl
theorem ozz {σ : AS} {K : AV → Prop} {b : Bool} : oZ T0 σ (.tup [.agg [.i .i64 0, .i .i64 0, .s [], .nilz true, .nilz true], .b b]) K = K (.tup [encV default, .b b]) := oZ_free rfl
theorem ozvb {σ : AS} {K : AV → Prop} {w : Val} {b : Bool} : oZ T0 σ (.tup [encV w, .b b]) K = K (.tup [encV w, .b b]) := by
  rw [oZ_free (by show AV.idfree.idfrees [encV w, .b b] = true; rw [encV_eq]; rfl)]
  rw [encV_eq]; rfl
theorem st_cv {h : Tr AB} {id e : Nat} {g : Bool} {cs : List AV} (hc : cs.length = 5) (hg : h.get id = some (.cells cs e g)) (w : Val) : evStore T0 h 35 (.ptr id 0) (encV w) = some (h.put id (some (.cells (encV w).cells e g))) :=
  store_p sz_35 hg (clen_V w) (leafs_V w) (setN_full _ _ (by rw [hc, clen_V]))
theorem st_cz {h : Tr AB} {id e : Nat} {g : Bool} {cs : List AV} (hc : cs.length = 5) (hg : h.get id = some (.cells cs e g)) : evStore T0 h 35 (.ptr id 0) (.agg [.i .i64 0, .i .i64 0, .s [], .nilz true, .nilz true]) = some (h.put id (some (.cells [.i .i64 0, .i .i64 0, .s [], .nilz true, .nilz true] e g))) :=
  store_p sz_35 hg rfl rfl (setN_full _ _ hc)
theorem ld_z {h : Tr AB} {id e : Nat} {g : Bool} : evLoad T0 (h.put id (some (.cells [.i .i64 0, .i .i64 0, .s [], .nilz true, .nilz true] e g))) 35 (.ptr id 0) = some (.agg [.i .i64 0, .i .i64 0, .s [], .nilz true, .nilz true]) := by
  rw [load_get, get_put_same, loadB_some (Nat.zero_le _), List.drop_zero, ofc_35]; rfl
theorem ofz : ofCells T0 35 (List.drop 0 [.i .i64 0, .i .i64 0, .s [], .nilz true, .nilz true]) = some (.agg [.i .i64 0, .i .i64 0, .s [], .nilz true, .nilz true]) := by rw [List.drop_zero, ofc_35]; rfl
theorem ld_v {h : Tr AB} {id e : Nat} {g : Bool} {w : Val} : evLoad T0 (h.put id (some (.cells (encV w).cells e g))) 35 (.ptr id 0) = some (encV w) := by
  rw [load_get, get_put_same, loadB_some (Nat.zero_le _)]; exact ofc0_encV w
theorem getF_some {v : Val} {nm : List UInt8} {j : Nat} (hk : v.kind = 5) (h : fldI v nm = (j : Nat)) : getF v nm = some (v.fields.getD j default).v := by
  unfold getF; rw [h, if_pos (by omega)]; rfl
theorem getF_none {v : Val} {nm : List UInt8} (h : fldI v nm = -1) : getF v nm = none := by
  unfold getF; rw [h, if_neg (by omega)]
theorem c101 (v : Val) (nm : List UInt8) (sm : smV v) : R T0 101 [encV v, .s nm] (gtR (getF v nm)) := by
  obtain ⟨-, ls, ll, lf, ol, of_⟩ := smV_facts sm
  refine r101 _ _ (by rw [encV_eq]; rfl) (by rw [encV_eq]; rfl) ?_
  unfold w101
  dsimp only [prims]
  by_cases hk : v.kind = 5
  · simp (disch := first | first | assumption | exact clen_V | exact clen_F | (simp only [clen_V, clen_F]; omega) | omega | assumption | exact scell | exact clen_XStep | (simp only [clen_XStep]; omega) | exact scell | (simp only [List.length_append, List.length_cons, List.length_nil]; omega)) only [Nat.zero_add, oV_some', oN_eq, oM_some, oH_some, oD_some, oE_some, oS_eq, oT_true, oI_true, oI_false, pick_t, pick_f, un_not, oI_not, decide_not, toNat_sub1, toNat_add1, decide_true, decide_false, not_true, not_false_eq_true, Bool.not_true, Bool.not_false, Bool.not_not, oZ_b, oZ_i, oZ_s, oZ_l, slen_map, wr64, Int.toNat_natCast, Int.toNat_zero, ne_eq, bin_lt, bin_slt, bin_eq, b_snil, beq_4, bin_add, load_get, loadB_some, get_put_same, get_put_ne, ofc_s, load_i, off_i, off_p, ofc_encXStep, ofc0_encXStep, st_XStep, fld_XStep_kind_, fld_XStep_name_, fld_XStep_index_, fld_XStep_value_, prt_XStep_kind_, prt_XStep_name_, prt_XStep_index_, prt_XStep_value_, len_33, ia_33, join1_eq, fld_V_kind, fld_V_n, fld_V_s, fld_V_list, fld_V_fields, ofc_encV, ofc0_encV, fld_F_name, fld_F_v, ofc_encF, ofc0_encF, st_V0, st_F0, len_32, len_33, ia_32, ia_33, bin_seq, ofz, hk, decT]
    refine loop5 (X := Nat) (fun _ => .ptr 1 0) (fun _ => .s nm) (fun _ => .lst (v.fields.map encF)) (fun _ => .i .i64 (v.fields.length : Nat)) (fun j => .i .i64 (j : Nat))
      (fun j σ => j ≤ v.fields.length ∧ 2 ≤ σ.n ∧ σ.h.get 1 = some (.cells [.i .i64 0, .i .i64 0, .s [], .nilz true, .nilz true] 35 false) ∧ (v.fields.take j).all (fun f => !(f.name == nm)) = true) (fun j => v.fields.length - j) ?_ 0 _ ⟨Nat.zero_le _, Nat.le_refl _, get_put_same _ _ _, rfl⟩
    rintro R j σ ⟨hj, hn, b1, ha⟩ hR
    simp only [oV_some', bin_lt]
    refine oI_decd (fun h => ?_) (fun h => ?_)
    · have hj' : j < v.fields.length := by omega
      have smf := (smF_facts (of_ _ (getD_mem hj'))).2
      have c1 : 1 ≤ (encF (v.fields.getD j default)).cells.length := by rw [clen_F]; decide
      have b2 : ((σ.h.put σ.n (some (.cells [.s [], .i .i64 0, .i .i64 0, .s [], .nilz true, .nilz true] 52 false))).put σ.n (some (.cells (encF (v.fields.getD j default)).cells 52 false))).get 1 = some (.cells [.i .i64 0, .i .i64 0, .s [], .nilz true, .nilz true] 35 false) := by rw [get_put_ne _ _ (by omega), get_put_ne _ _ (by omega)]; exact b1
      cases hs : ((v.fields.getD j default).name == nm)
      · simp (disch := first | first | assumption | exact clen_V | exact clen_F | (simp only [clen_V, clen_F]; omega) | omega | assumption | exact scell | exact clen_XStep | (simp only [clen_XStep]; omega) | exact scell | (simp only [List.length_append, List.length_cons, List.length_nil]; omega)) only [Nat.zero_add, oV_some', oN_eq, oM_some, oH_some, oD_some, oE_some, oS_eq, oT_true, oI_true, oI_false, pick_t, pick_f, un_not, oI_not, decide_not, toNat_sub1, toNat_add1, decide_true, decide_false, not_true, not_false_eq_true, Bool.not_true, Bool.not_false, Bool.not_not, oZ_b, oZ_i, oZ_s, oZ_l, slen_map, wr64, Int.toNat_natCast, Int.toNat_zero, ne_eq, bin_lt, bin_slt, bin_eq, b_snil, beq_4, bin_add, load_get, loadB_some, get_put_same, get_put_ne, ofc_s, load_i, off_i, off_p, ofc_encXStep, ofc0_encXStep, st_XStep, fld_XStep_kind_, fld_XStep_name_, fld_XStep_index_, fld_XStep_value_, prt_XStep_kind_, prt_XStep_name_, prt_XStep_index_, prt_XStep_value_, len_33, ia_33, join1_eq, fld_V_kind, fld_V_n, fld_V_s, fld_V_list, fld_V_fields, ofc_encV, ofc0_encV, fld_F_name, fld_F_v, ofc_encF, ofc0_encF, st_V0, st_F0, len_32, len_33, ia_32, ia_33, bin_seq, ofz, Int.toNat_natCast, hs]
        refine hR (j + 1) ⟨_, _⟩ ?_ (by omega)
        exact ⟨by omega, by dsimp only; omega, b2, all_take_succ (d := default) ha hj' (by rw [hs]; rfl)⟩
      · rw [getF_some (j := j) hk (by unfold fldI; rw [if_pos hk]; exact idxB_at (d := default) ha hj' hs)]
        simp (disch := first | first | assumption | exact clen_V | exact clen_F | (simp only [clen_V, clen_F]; omega) | omega | assumption | exact scell | exact clen_XStep | (simp only [clen_XStep]; omega) | exact scell | (simp only [List.length_append, List.length_cons, List.length_nil]; omega)) only [Nat.zero_add, oV_some', oN_eq, oM_some, oH_some, oD_some, oE_some, oS_eq, oT_true, oI_true, oI_false, pick_t, pick_f, un_not, oI_not, decide_not, toNat_sub1, toNat_add1, decide_true, decide_false, not_true, not_false_eq_true, Bool.not_true, Bool.not_false, Bool.not_not, oZ_b, oZ_i, oZ_s, oZ_l, slen_map, wr64, Int.toNat_natCast, Int.toNat_zero, ne_eq, bin_lt, bin_slt, bin_eq, b_snil, beq_4, bin_add, load_get, loadB_some, get_put_same, get_put_ne, ofc_s, load_i, off_i, off_p, ofc_encXStep, ofc0_encXStep, st_XStep, fld_XStep_kind_, fld_XStep_name_, fld_XStep_index_, fld_XStep_value_, prt_XStep_kind_, prt_XStep_name_, prt_XStep_index_, prt_XStep_value_, len_33, ia_33, join1_eq, fld_V_kind, fld_V_n, fld_V_s, fld_V_list, fld_V_fields, ofc_encV, ofc0_encV, fld_F_name, fld_F_v, ofc_encF, ofc0_encF, st_V0, st_F0, len_32, len_33, ia_32, ia_33, bin_seq, ofz, Int.toNat_natCast, hs, loadB_some c1, e107 smf, st_cv rfl b2, ld_v, ozvb, gtR]
    · rw [getF_none (by unfold fldI; rw [if_pos hk]; exact idxB_no (all_end ha (by omega)))]
      simp (disch := first | first | assumption | exact clen_V | exact clen_F | (simp only [clen_V, clen_F]; omega) | omega | assumption | exact scell | exact clen_XStep | (simp only [clen_XStep]; omega) | exact scell | (simp only [List.length_append, List.length_cons, List.length_nil]; omega)) only [oV_some', oH_some, bld35, st_cz rfl b1, ld_z, ozz, gtR]
  · rw [getF_none (by unfold fldI; rw [if_neg hk])]
    have b1 : ((Tr.nil.put 0 (some (.cells (encV v).cells 35 false))).put 1 (some (.cells [.i .i64 0, .i .i64 0, .s [], .nilz true, .nilz true] 35 false)) : Tr AB).get 1 = some (.cells [.i .i64 0, .i .i64 0, .s [], .nilz true, .nilz true] 35 false) := get_put_same _ _ _
    simp (disch := first | first | assumption | exact clen_V | exact clen_F | (simp only [clen_V, clen_F]; omega) | omega | assumption | exact scell | exact clen_XStep | (simp only [clen_XStep]; omega) | exact scell | (simp only [List.length_append, List.length_cons, List.length_nil]; omega)) only [Nat.zero_add, oV_some', oN_eq, oM_some, oH_some, oD_some, oE_some, oS_eq, oT_true, oI_true, oI_false, pick_t, pick_f, un_not, oI_not, decide_not, toNat_sub1, toNat_add1, decide_true, decide_false, not_true, not_false_eq_true, Bool.not_true, Bool.not_false, Bool.not_not, oZ_b, oZ_i, oZ_s, oZ_l, slen_map, wr64, Int.toNat_natCast, Int.toNat_zero, ne_eq, bin_lt, bin_slt, bin_eq, b_snil, beq_4, bin_add, load_get, loadB_some, get_put_same, get_put_ne, ofc_s, load_i, off_i, off_p, ofc_encXStep, ofc0_encXStep, st_XStep, fld_XStep_kind_, fld_XStep_name_, fld_XStep_index_, fld_XStep_value_, prt_XStep_kind_, prt_XStep_name_, prt_XStep_index_, prt_XStep_value_, len_33, ia_33, join1_eq, fld_V_kind, fld_V_n, fld_V_s, fld_V_list, fld_V_fields, ofc_encV, ofc0_encV, fld_F_name, fld_F_v, ofc_encF, ofc0_encF, st_V0, st_F0, len_32, len_33, ia_32, ia_33, bin_seq, ofz, hk, decF, bld35, st_cz rfl b1, ld_z, ozz, gtR]
theorem e101 {v : Val} {nm : List UInt8} (sm : smV v) {d : Nat} {σ : AS} {K : AV → AS → Prop} : oC T0 d 101 [encV v, .s nm] σ K = K (gtR (getF v nm)) σ := (c101 v nm sm).eq d σ K
theorem c76 (v : Val) (x : XStep) (sm : smV v) : R T0 76 [encV v, encXStep x] (.b (mtB v x.name_ x.value_)) := by
  refine r76 _ _ (by rw [encV_eq]; rfl) (by rw [encV_eq]; rfl) ?_
  unfold w76
  dsimp only [prims]
  unfold mtB
  have e := fun (d : Nat) (σ : AS) (K : AV → AS → Prop) => e101 (nm := x.name_) sm (d := d) (σ := σ) (K := K)
  cases hg : getF v x.name_ with
  | none =>
    rw [hg] at e
    simp (disch := first | first | assumption | exact clen_V | exact clen_F | (simp only [clen_V, clen_F]; omega) | omega | assumption | exact scell | exact clen_XStep | (simp only [clen_XStep]; omega) | exact scell | (simp only [List.length_append, List.length_cons, List.length_nil]; omega)) only [Nat.zero_add, oV_some', oN_eq, oM_some, oH_some, oD_some, oE_some, oS_eq, oT_true, oI_true, oI_false, pick_t, pick_f, un_not, oI_not, decide_not, toNat_sub1, toNat_add1, decide_true, decide_false, not_true, not_false_eq_true, Bool.not_true, Bool.not_false, Bool.not_not, oZ_b, oZ_i, oZ_s, oZ_l, slen_map, wr64, Int.toNat_natCast, Int.toNat_zero, ne_eq, bin_eq, b_snil, beq_4, load_get, loadB_some, get_put_same, get_put_ne, ofc_s, load_i, off_i, off_p, ext_t, List.getElem?_cons_zero, List.getElem?_cons_succ, ofc_encXStep, ofc0_encXStep, st_XStep, fld_XStep_kind_, fld_XStep_name_, fld_XStep_index_, fld_XStep_value_, prt_XStep_kind_, prt_XStep_name_, prt_XStep_index_, prt_XStep_value_, gtt_3, gff_3, gtf_3, gft_3, gvv_3, gnt_3, gnf_3, gtt_5, gff_5, gtf_5, gft_5, gvv_5, gnt_5, gnf_5, fld_V_kind, fld_V_n, fld_V_s, fld_V_list, fld_V_fields, ofc_encV, ofc0_encV, fld_F_name, fld_F_v, ofc_encF, ofc0_encF, st_V0, st_F0, len_32, len_33, ia_32, ia_33, bin_seq, ofz, e, gtR, ex0, ex1]
  | some w =>
    rw [hg] at e
    simp only [gtR] at e
    simp only []
    by_cases hk : w.kind = 3
    · rw [decide_eq_true hk, Bool.true_and]
      simp (disch := first | first | assumption | exact clen_V | exact clen_F | (simp only [clen_V, clen_F]; omega) | omega | assumption | exact scell | exact clen_XStep | (simp only [clen_XStep]; omega) | exact scell | (simp only [List.length_append, List.length_cons, List.length_nil]; omega)) only [Nat.zero_add, oV_some', oN_eq, oM_some, oH_some, oD_some, oE_some, oS_eq, oT_true, oI_true, oI_false, pick_t, pick_f, un_not, oI_not, decide_not, toNat_sub1, toNat_add1, decide_true, decide_false, not_true, not_false_eq_true, Bool.not_true, Bool.not_false, Bool.not_not, oZ_b, oZ_i, oZ_s, oZ_l, slen_map, wr64, Int.toNat_natCast, Int.toNat_zero, ne_eq, bin_eq, b_snil, beq_4, load_get, loadB_some, get_put_same, get_put_ne, ofc_s, load_i, off_i, off_p, ext_t, List.getElem?_cons_zero, List.getElem?_cons_succ, ofc_encXStep, ofc0_encXStep, st_XStep, fld_XStep_kind_, fld_XStep_name_, fld_XStep_index_, fld_XStep_value_, prt_XStep_kind_, prt_XStep_name_, prt_XStep_index_, prt_XStep_value_, gtt_3, gff_3, gtf_3, gft_3, gvv_3, gnt_3, gnf_3, gtt_5, gff_5, gtf_5, gft_5, gvv_5, gnt_5, gnf_5, fld_V_kind, fld_V_n, fld_V_s, fld_V_list, fld_V_fields, ofc_encV, ofc0_encV, fld_F_name, fld_F_v, ofc_encF, ofc0_encF, st_V0, st_F0, len_32, len_33, ia_32, ia_33, bin_seq, ofz, e, ex0, ex1, decT]
    · rw [decide_eq_false hk, Bool.false_and]
      simp (disch := first | first | assumption | exact clen_V | exact clen_F | (simp only [clen_V, clen_F]; omega) | omega | assumption | exact scell | exact clen_XStep | (simp only [clen_XStep]; omega) | exact scell | (simp only [List.length_append, List.length_cons, List.length_nil]; omega)) only [Nat.zero_add, oV_some', oN_eq, oM_some, oH_some, oD_some, oE_some, oS_eq, oT_true, oI_true, oI_false, pick_t, pick_f, un_not, oI_not, decide_not, toNat_sub1, toNat_add1, decide_true, decide_false, not_true, not_false_eq_true, Bool.not_true, Bool.not_false, Bool.not_not, oZ_b, oZ_i, oZ_s, oZ_l, slen_map, wr64, Int.toNat_natCast, Int.toNat_zero, ne_eq, bin_eq, b_snil, beq_4, load_get, loadB_some, get_put_same, get_put_ne, ofc_s, load_i, off_i, off_p, ext_t, List.getElem?_cons_zero, List.getElem?_cons_succ, ofc_encXStep, ofc0_encXStep, st_XStep, fld_XStep_kind_, fld_XStep_name_, fld_XStep_index_, fld_XStep_value_, prt_XStep_kind_, prt_XStep_name_, prt_XStep_index_, prt_XStep_value_, gtt_3, gff_3, gtf_3, gft_3, gvv_3, gnt_3, gnf_3, gtt_5, gff_5, gtf_5, gft_5, gvv_5, gnt_5, gnf_5, fld_V_kind, fld_V_n, fld_V_s, fld_V_list, fld_V_fields, ofc_encV, ofc0_encV, fld_F_name, fld_F_v, ofc_encF, ofc0_encF, st_V0, st_F0, len_32, len_33, ia_32, ia_33, bin_seq, ofz, e, ex0, ex1, decF]
theorem e76 {v : Val} {x : XStep} (sm : smV v) {d : Nat} {σ : AS} {K : AV → AS → Prop} : oC T0 d 76 [encV v, encXStep x] σ K = K (.b (mtB v x.name_ x.value_)) σ := (c76 v x sm).eq d σ K
theorem c75 (v : Val) (x : XStep) (sm : smV v) : R T0 75 [encV v, .iptr (encXStep x).cells] (.b (mtB v x.name_ x.value_)) := by
  refine r75 _ _ (by rw [encV_eq]; rfl) (by rw [encV_eq]; rfl) ?_
  unfold w75
  dsimp only [prims]
  simp (disch := first | first | assumption | exact clen_V | exact clen_F | (simp only [clen_V, clen_F]; omega) | omega | assumption | exact scell | exact clen_XStep | (simp only [clen_XStep]; omega) | exact scell | (simp only [List.length_append, List.length_cons, List.length_nil]; omega)) only [Nat.zero_add, oV_some', oN_eq, oM_some, oH_some, oD_some, oE_some, oS_eq, oT_true, oI_true, oI_false, pick_t, pick_f, un_not, oI_not, decide_not, toNat_sub1, toNat_add1, decide_true, decide_false, not_true, not_false_eq_true, Bool.not_true, Bool.not_false, Bool.not_not, oZ_b, oZ_i, oZ_s, oZ_l, slen_map, wr64, Int.toNat_natCast, Int.toNat_zero, ne_eq, load_get, loadB_some, get_put_same, get_put_ne, ofc_s, load_i, ofc_encXStep, ofc0_encXStep, st_XStep, fld_XStep_kind_, fld_XStep_name_, fld_XStep_index_, fld_XStep_value_, prt_XStep_kind_, prt_XStep_name_, prt_XStep_index_, prt_XStep_value_, fld_V_kind, fld_V_n, fld_V_s, fld_V_list, fld_V_fields, ofc_encV, ofc0_encV, fld_F_name, fld_F_v, ofc_encF, ofc0_encF, st_V0, st_F0, len_32, len_33, ia_32, ia_33, bin_seq, ofz, load_i, ofc_encXStep, e76 sm]
theorem e75 {v : Val} {x : XStep} (sm : smV v) {d : Nat} {σ : AS} {K : AV → AS → Prop} : oC T0 d 75 [encV v, .iptr (encXStep x).cells] σ K = K (.b (mtB v x.name_ x.value_)) σ := (c75 v x sm).eq d σ K
theorem c73 (f : Fld) (x : XStep) : R T0 73 [encF f, .iptr (encXStep x).cells] (.b (f.name == x.name_)) := by
  refine r73 _ _ (by rw [encF_eq, encV_eq]; rfl) (by rw [encF_eq, encV_eq]; rfl) ?_
  unfold w73
  dsimp only [prims]
  simp (disch := first | first | assumption | exact clen_V | exact clen_F | (simp only [clen_V, clen_F]; omega) | omega | assumption | exact scell | exact clen_XStep | (simp only [clen_XStep]; omega) | exact scell | (simp only [List.length_append, List.length_cons, List.length_nil]; omega)) only [Nat.zero_add, oV_some', oN_eq, oM_some, oH_some, oD_some, oE_some, oS_eq, oT_true, oI_true, oI_false, pick_t, pick_f, un_not, oI_not, decide_not, toNat_sub1, toNat_add1, decide_true, decide_false, not_true, not_false_eq_true, Bool.not_true, Bool.not_false, Bool.not_not, oZ_b, oZ_i, oZ_s, oZ_l, slen_map, wr64, Int.toNat_natCast, Int.toNat_zero, ne_eq, bin_eq, b_snil, beq_4, load_get, loadB_some, get_put_same, get_put_ne, ofc_s, load_i, off_i, off_p, fld_V_kind, fld_V_n, fld_V_s, fld_V_list, fld_V_fields, ofc_encV, ofc0_encV, fld_F_name, fld_F_v, ofc_encF, ofc0_encF, st_V0, st_F0, len_32, len_33, ia_32, ia_33, bin_seq, ofz, off_i, load_i, fld_XStep_name_]
theorem e73 {f : Fld} {x : XStep} {d : Nat} {σ : AS} {K : AV → AS → Prop} : oC T0 d 73 [encF f, .iptr (encXStep x).cells] σ K = K (.b (f.name == x.name_)) σ := (c73 f x).eq d σ K
theorem c74 (l : List Val) (x : XStep) (hl : l.length ≤ 100000) (sm : ∀ v ∈ l, smV v) : R T0 74 [.lst (l.map encV), .fn 75 [] [.iptr (encXStep x).cells]] (.i .i64 (idxB (fun e => mtB e x.name_ x.value_) l)) := by
  refine r74 _ _ rfl rfl ?_
  unfold w74
  dsimp only [prims]
  simp (disch := first | first | assumption | exact clen_V | exact clen_F | (simp only [clen_V, clen_F]; omega) | omega | assumption | exact scell | exact clen_XStep | (simp only [clen_XStep]; omega) | exact scell | (simp only [List.length_append, List.length_cons, List.length_nil]; omega)) only [oV_some', len_32, slen_map]
  refine loop4 (X := Nat) (fun _ => .lst (l.map encV)) (fun _ => .fn 75 [] [.iptr (encXStep x).cells]) (fun _ => .i .i64 (l.length : Nat)) (fun j => .i .i64 (j : Nat)) (fun j σ => j ≤ l.length ∧ (l.take j).all (fun e => !mtB e x.name_ x.value_) = true) (fun j => l.length - j) ?_ 0 _ ⟨Nat.zero_le _, rfl⟩
  rintro R j σ ⟨hj, ha⟩ hR
  simp only [oV_some', bin_lt]
  refine oI_decd (fun h => ?_) (fun h => ?_)
  · have hj' : j < l.length := by omega
    have e := fun (d : Nat) (σ : AS) (K : AV → AS → Prop) => e75 (x := x) (sm _ (getD_mem hj')) (d := d) (σ := σ) (K := K)
    cases hs : mtB (l.getD j default) x.name_ x.value_
    · rw [hs] at e
      simp (disch := first | first | assumption | exact clen_V | exact clen_F | (simp only [clen_V, clen_F]; omega) | omega | assumption | exact scell | exact clen_XStep | (simp only [clen_XStep]; omega) | exact scell | (simp only [List.length_append, List.length_cons, List.length_nil]; omega)) only [Nat.zero_add, oV_some', oN_eq, oM_some, oH_some, oD_some, oE_some, oS_eq, oT_true, oI_true, oI_false, pick_t, pick_f, un_not, oI_not, decide_not, toNat_sub1, toNat_add1, decide_true, decide_false, not_true, not_false_eq_true, Bool.not_true, Bool.not_false, Bool.not_not, oZ_b, oZ_i, oZ_s, oZ_l, slen_map, wr64, Int.toNat_natCast, Int.toNat_zero, ne_eq, bin_lt, bin_slt, bin_add, load_get, loadB_some, get_put_same, get_put_ne, ofc_s, load_i, len_32, ia_32, fld_V_kind, fld_V_n, fld_V_s, fld_V_list, fld_V_fields, ofc_encV, ofc0_encV, fld_F_name, fld_F_v, ofc_encF, ofc0_encF, st_V0, st_F0, len_32, len_33, ia_32, ia_33, bin_seq, ofz, Int.toNat_natCast, oF_fn, List.nil_append, List.cons_append, e]
      exact hR (j + 1) _ ⟨by omega, all_take_succ (d := default) ha hj' (by rw [hs]; rfl)⟩ (by omega)
    · rw [hs] at e
      simp (disch := first | first | assumption | exact clen_V | exact clen_F | (simp only [clen_V, clen_F]; omega) | omega | assumption | exact scell | exact clen_XStep | (simp only [clen_XStep]; omega) | exact scell | (simp only [List.length_append, List.length_cons, List.length_nil]; omega)) only [Nat.zero_add, oV_some', oN_eq, oM_some, oH_some, oD_some, oE_some, oS_eq, oT_true, oI_true, oI_false, pick_t, pick_f, un_not, oI_not, decide_not, toNat_sub1, toNat_add1, decide_true, decide_false, not_true, not_false_eq_true, Bool.not_true, Bool.not_false, Bool.not_not, oZ_b, oZ_i, oZ_s, oZ_l, slen_map, wr64, Int.toNat_natCast, Int.toNat_zero, ne_eq, bin_lt, bin_slt, bin_add, load_get, loadB_some, get_put_same, get_put_ne, ofc_s, load_i, len_32, ia_32, fld_V_kind, fld_V_n, fld_V_s, fld_V_list, fld_V_fields, ofc_encV, ofc0_encV, fld_F_name, fld_F_v, ofc_encF, ofc0_encF, st_V0, st_F0, len_32, len_33, ia_32, ia_33, bin_seq, ofz, Int.toNat_natCast, oF_fn, List.nil_append, List.cons_append, e]
      rw [idxB_at (q := fun e => mtB e x.name_ x.value_) (d := default) ha hj' hs]
  · rw [idxB_no (all_end ha (by omega)), oZ_i]
theorem c72 (l : List Fld) (x : XStep) (hl : l.length ≤ 100000) : R T0 72 [.lst (l.map encF), .fn 73 [] [.iptr (encXStep x).cells]] (.i .i64 (idxB (fun f => f.name == x.name_) l)) := by
  refine r72 _ _ rfl rfl ?_
  unfold w72
  dsimp only [prims]
  simp (disch := first | first | assumption | exact clen_V | exact clen_F | (simp only [clen_V, clen_F]; omega) | omega | assumption | exact scell | exact clen_XStep | (simp only [clen_XStep]; omega) | exact scell | (simp only [List.length_append, List.length_cons, List.length_nil]; omega)) only [oV_some', len_33, slen_map]
  refine loop4 (X := Nat) (fun _ => .lst (l.map encF)) (fun _ => .fn 73 [] [.iptr (encXStep x).cells]) (fun _ => .i .i64 (l.length : Nat)) (fun j => .i .i64 (j : Nat)) (fun j σ => j ≤ l.length ∧ (l.take j).all (fun f => !(f.name == x.name_)) = true) (fun j => l.length - j) ?_ 0 _ ⟨Nat.zero_le _, rfl⟩
  rintro R j σ ⟨hj, ha⟩ hR
  simp only [oV_some', bin_lt]
  refine oI_decd (fun h => ?_) (fun h => ?_)
  · have hj' : j < l.length := by omega
    have e := fun (d : Nat) (σ : AS) (K : AV → AS → Prop) => e73 (f := l.getD j default) (x := x) (d := d) (σ := σ) (K := K)
    cases hs : ((l.getD j default).name == x.name_)
    · rw [hs] at e
      simp (disch := first | first | assumption | exact clen_V | exact clen_F | (simp only [clen_V, clen_F]; omega) | omega | assumption | exact scell | exact clen_XStep | (simp only [clen_XStep]; omega) | exact scell | (simp only [List.length_append, List.length_cons, List.length_nil]; omega)) only [Nat.zero_add, oV_some', oN_eq, oM_some, oH_some, oD_some, oE_some, oS_eq, oT_true, oI_true, oI_false, pick_t, pick_f, un_not, oI_not, decide_not, toNat_sub1, toNat_add1, decide_true, decide_false, not_true, not_false_eq_true, Bool.not_true, Bool.not_false, Bool.not_not, oZ_b, oZ_i, oZ_s, oZ_l, slen_map, wr64, Int.toNat_natCast, Int.toNat_zero, ne_eq, bin_lt, bin_slt, bin_add, load_get, loadB_some, get_put_same, get_put_ne, ofc_s, load_i, len_33, ia_33, fld_V_kind, fld_V_n, fld_V_s, fld_V_list, fld_V_fields, ofc_encV, ofc0_encV, fld_F_name, fld_F_v, ofc_encF, ofc0_encF, st_V0, st_F0, len_32, len_33, ia_32, ia_33, bin_seq, ofz, Int.toNat_natCast, oF_fn, List.nil_append, List.cons_append, e]
      exact hR (j + 1) _ ⟨by omega, all_take_succ (d := default) ha hj' (by rw [hs]; rfl)⟩ (by omega)
    · rw [hs] at e
      simp (disch := first | first | assumption | exact clen_V | exact clen_F | (simp only [clen_V, clen_F]; omega) | omega | assumption | exact scell | exact clen_XStep | (simp only [clen_XStep]; omega) | exact scell | (simp only [List.length_append, List.length_cons, List.length_nil]; omega)) only [Nat.zero_add, oV_some', oN_eq, oM_some, oH_some, oD_some, oE_some, oS_eq, oT_true, oI_true, oI_false, pick_t, pick_f, un_not, oI_not, decide_not, toNat_sub1, toNat_add1, decide_true, decide_false, not_true, not_false_eq_true, Bool.not_true, Bool.not_false, Bool.not_not, oZ_b, oZ_i, oZ_s, oZ_l, slen_map, wr64, Int.toNat_natCast, Int.toNat_zero, ne_eq, bin_lt, bin_slt, bin_add, load_get, loadB_some, get_put_same, get_put_ne, ofc_s, load_i, len_33, ia_33, fld_V_kind, fld_V_n, fld_V_s, fld_V_list, fld_V_fields, ofc_encV, ofc0_encV, fld_F_name, fld_F_v, ofc_encF, ofc0_encF, st_V0, st_F0, len_32, len_33, ia_32, ia_33, bin_seq, ofz, Int.toNat_natCast, oF_fn, List.nil_append, List.cons_append, e]
      rw [idxB_at (q := fun f : Fld => f.name == x.name_) (d := default) ha hj' hs]
  · rw [idxB_no (all_end ha (by omega)), oZ_i]
end Go.Proofs.YtmfhmlhaofpeiaaGreatDoor.Ev
/- Where a step leads (the rest of it); Get. -/
namespace Go.Proofs.YtmfhmlhaofpeiaaGreatDoor.Ev
open Go Go.RowKit
set_option linter.unusedSimpArgs false
set_option linter.unusedVariables false
set_option maxRecDepth 100000

theorem c49 (v : Val) (x : XStep) (sm : smV v) : R T0 49 [encV v, encXStep x] (.i .i64 (chI v x)) := by
  obtain ⟨-, ls, ll, lf, ol, of_⟩ := smV_facts sm
  refine r49 _ _ (by rw [encV_eq]; rfl) (by rw [encV_eq]; rfl) ?_
  unfold w49
  dsimp only [prims]
  have e72 : ∀ (σ : AS), σ = ⟨(Tr.nil.put 0 (some (.cells (encV v).cells 35 false))).put 1 (some (.cells (encXStep x).cells 50 false)), 1 + 1⟩ → ∀ (d : Nat) (K : AV → AS → Prop), oC T0 d 72 [.lst (v.fields.map encF), .fn 73 [] [.ptr 1 0]] σ K = K (.i .i64 (idxB (fun f : Fld => f.name == x.name_) v.fields)) σ := fun σ hσ d K => by
    subst hσ
    exact (R.lent (m := 3) (args' := [.lst (v.fields.map encF), .fn 73 [] [.iptr (encXStep x).cells]]) (by kernel_rfl) (by kernel_rfl) (by kernel_rfl) rfl rfl rfl rfl (by kernel_rfl) (c72 v.fields x lf)).eq d K
  have e74 : ∀ (σ : AS), σ = ⟨(Tr.nil.put 0 (some (.cells (encV v).cells 35 false))).put 1 (some (.cells (encXStep x).cells 50 false)), 1 + 1⟩ → ∀ (d : Nat) (K : AV → AS → Prop), oC T0 d 74 [.lst (v.list.map encV), .fn 75 [] [.ptr 1 0]] σ K = K (.i .i64 (idxB (fun e : Val => mtB e x.name_ x.value_) v.list)) σ := fun σ hσ d K => by
    subst hσ
    exact (R.lent (m := 3) (args' := [.lst (v.list.map encV), .fn 75 [] [.iptr (encXStep x).cells]]) (by kernel_rfl) (by kernel_rfl) (by kernel_rfl) rfl rfl rfl rfl (by kernel_rfl) (c74 v.list x ll ol)).eq d K
  have e72' := e72 _ rfl
  have e74' := e74 _ rfl
  by_cases k1 : x.kind_ = 1
  · by_cases v5 : v.kind = 5
    · rw [show chI v x = idxB (fun f : Fld => f.name == x.name_) v.fields from if_pos ⟨k1, v5⟩]
      simp (disch := first | first | assumption | exact clen_V | exact clen_F | (simp only [clen_V, clen_F]; omega) | omega | assumption | exact scell | exact clen_XStep | (simp only [clen_XStep]; omega) | exact scell | (simp only [List.length_append, List.length_cons, List.length_nil]; omega)) only [Nat.zero_add, oV_some', oN_eq, oM_some, oH_some, oD_some, oE_some, oS_eq, oT_true, oI_true, oI_false, pick_t, pick_f, un_not, oI_not, decide_not, toNat_sub1, toNat_add1, decide_true, decide_false, not_true, not_false_eq_true, Bool.not_true, Bool.not_false, Bool.not_not, oZ_b, oZ_i, oZ_s, oZ_l, slen_map, wr64, Int.toNat_natCast, Int.toNat_zero, ne_eq, bin_lt, bin_slt, bin_eq, b_snil, beq_4, load_get, loadB_some, get_put_same, get_put_ne, ofc_s, load_i, off_i, off_p, ofc_encXStep, ofc0_encXStep, st_XStep, fld_XStep_kind_, fld_XStep_name_, fld_XStep_index_, fld_XStep_value_, prt_XStep_kind_, prt_XStep_name_, prt_XStep_index_, prt_XStep_value_, len_32, gtt_3, gff_3, gtf_3, gft_3, gvv_3, gnt_3, gnf_3, gtt_6, gff_6, gtf_6, gft_6, gvv_6, gnt_6, gnf_6, fld_V_kind, fld_V_n, fld_V_s, fld_V_list, fld_V_fields, ofc_encV, ofc0_encV, fld_F_name, fld_F_v, ofc_encF, ofc0_encF, st_V0, st_F0, len_32, len_33, ia_32, ia_33, decT, e72']
    · rw [show chI v x = -1 by unfold chI; rw [if_neg (fun q => v5 q.2), if_neg (fun q => by omega), if_neg (fun q => by omega)]]
      simp (disch := first | first | assumption | exact clen_V | exact clen_F | (simp only [clen_V, clen_F]; omega) | omega | assumption | exact scell | exact clen_XStep | (simp only [clen_XStep]; omega) | exact scell | (simp only [List.length_append, List.length_cons, List.length_nil]; omega)) only [Nat.zero_add, oV_some', oN_eq, oM_some, oH_some, oD_some, oE_some, oS_eq, oT_true, oI_true, oI_false, pick_t, pick_f, un_not, oI_not, decide_not, toNat_sub1, toNat_add1, decide_true, decide_false, not_true, not_false_eq_true, Bool.not_true, Bool.not_false, Bool.not_not, oZ_b, oZ_i, oZ_s, oZ_l, slen_map, wr64, Int.toNat_natCast, Int.toNat_zero, ne_eq, bin_lt, bin_slt, bin_eq, b_snil, beq_4, load_get, loadB_some, get_put_same, get_put_ne, ofc_s, load_i, off_i, off_p, ofc_encXStep, ofc0_encXStep, st_XStep, fld_XStep_kind_, fld_XStep_name_, fld_XStep_index_, fld_XStep_value_, prt_XStep_kind_, prt_XStep_name_, prt_XStep_index_, prt_XStep_value_, len_32, gtt_3, gff_3, gtf_3, gft_3, gvv_3, gnt_3, gnf_3, gtt_6, gff_6, gtf_6, gft_6, gvv_6, gnt_6, gnf_6, fld_V_kind, fld_V_n, fld_V_s, fld_V_list, fld_V_fields, ofc_encV, ofc0_encV, fld_F_name, fld_F_v, ofc_encF, ofc0_encF, st_V0, st_F0, len_32, len_33, ia_32, ia_33, decT, decF]
  · by_cases k2 : x.kind_ = 2
    · by_cases v4 : v.kind = 4
      · by_cases hi : x.index_ < (v.list.length : Nat)
        · rw [show chI v x = x.index_ by unfold chI; rw [if_neg (fun q => k1 q.1), if_pos ⟨k2, v4, hi⟩]]
          simp (disch := first | first | assumption | exact clen_V | exact clen_F | (simp only [clen_V, clen_F]; omega) | omega | assumption | exact scell | exact clen_XStep | (simp only [clen_XStep]; omega) | exact scell | (simp only [List.length_append, List.length_cons, List.length_nil]; omega)) only [Nat.zero_add, oV_some', oN_eq, oM_some, oH_some, oD_some, oE_some, oS_eq, oT_true, oI_true, oI_false, pick_t, pick_f, un_not, oI_not, decide_not, toNat_sub1, toNat_add1, decide_true, decide_false, not_true, not_false_eq_true, Bool.not_true, Bool.not_false, Bool.not_not, oZ_b, oZ_i, oZ_s, oZ_l, slen_map, wr64, Int.toNat_natCast, Int.toNat_zero, ne_eq, bin_lt, bin_slt, bin_eq, b_snil, beq_4, load_get, loadB_some, get_put_same, get_put_ne, ofc_s, load_i, off_i, off_p, ofc_encXStep, ofc0_encXStep, st_XStep, fld_XStep_kind_, fld_XStep_name_, fld_XStep_index_, fld_XStep_value_, prt_XStep_kind_, prt_XStep_name_, prt_XStep_index_, prt_XStep_value_, len_32, gtt_3, gff_3, gtf_3, gft_3, gvv_3, gnt_3, gnf_3, gtt_6, gff_6, gtf_6, gft_6, gvv_6, gnt_6, gnf_6, fld_V_kind, fld_V_n, fld_V_s, fld_V_list, fld_V_fields, ofc_encV, ofc0_encV, fld_F_name, fld_F_v, ofc_encF, ofc0_encF, st_V0, st_F0, len_32, len_33, ia_32, ia_33, decT, decF]
        · rw [show chI v x = -1 by unfold chI; rw [if_neg (fun q => k1 q.1), if_neg (fun q => hi q.2.2), if_neg (fun q => by omega)]]
          simp (disch := first | first | assumption | exact clen_V | exact clen_F | (simp only [clen_V, clen_F]; omega) | omega | assumption | exact scell | exact clen_XStep | (simp only [clen_XStep]; omega) | exact scell | (simp only [List.length_append, List.length_cons, List.length_nil]; omega)) only [Nat.zero_add, oV_some', oN_eq, oM_some, oH_some, oD_some, oE_some, oS_eq, oT_true, oI_true, oI_false, pick_t, pick_f, un_not, oI_not, decide_not, toNat_sub1, toNat_add1, decide_true, decide_false, not_true, not_false_eq_true, Bool.not_true, Bool.not_false, Bool.not_not, oZ_b, oZ_i, oZ_s, oZ_l, slen_map, wr64, Int.toNat_natCast, Int.toNat_zero, ne_eq, bin_lt, bin_slt, bin_eq, b_snil, beq_4, load_get, loadB_some, get_put_same, get_put_ne, ofc_s, load_i, off_i, off_p, ofc_encXStep, ofc0_encXStep, st_XStep, fld_XStep_kind_, fld_XStep_name_, fld_XStep_index_, fld_XStep_value_, prt_XStep_kind_, prt_XStep_name_, prt_XStep_index_, prt_XStep_value_, len_32, gtt_3, gff_3, gtf_3, gft_3, gvv_3, gnt_3, gnf_3, gtt_6, gff_6, gtf_6, gft_6, gvv_6, gnt_6, gnf_6, fld_V_kind, fld_V_n, fld_V_s, fld_V_list, fld_V_fields, ofc_encV, ofc0_encV, fld_F_name, fld_F_v, ofc_encF, ofc0_encF, st_V0, st_F0, len_32, len_33, ia_32, ia_33, decT, decF]
      · rw [show chI v x = -1 by unfold chI; rw [if_neg (fun q => k1 q.1), if_neg (fun q => v4 q.2.1), if_neg (fun q => v4 q.2)]]
        simp (disch := first | first | assumption | exact clen_V | exact clen_F | (simp only [clen_V, clen_F]; omega) | omega | assumption | exact scell | exact clen_XStep | (simp only [clen_XStep]; omega) | exact scell | (simp only [List.length_append, List.length_cons, List.length_nil]; omega)) only [Nat.zero_add, oV_some', oN_eq, oM_some, oH_some, oD_some, oE_some, oS_eq, oT_true, oI_true, oI_false, pick_t, pick_f, un_not, oI_not, decide_not, toNat_sub1, toNat_add1, decide_true, decide_false, not_true, not_false_eq_true, Bool.not_true, Bool.not_false, Bool.not_not, oZ_b, oZ_i, oZ_s, oZ_l, slen_map, wr64, Int.toNat_natCast, Int.toNat_zero, ne_eq, bin_lt, bin_slt, bin_eq, b_snil, beq_4, load_get, loadB_some, get_put_same, get_put_ne, ofc_s, load_i, off_i, off_p, ofc_encXStep, ofc0_encXStep, st_XStep, fld_XStep_kind_, fld_XStep_name_, fld_XStep_index_, fld_XStep_value_, prt_XStep_kind_, prt_XStep_name_, prt_XStep_index_, prt_XStep_value_, len_32, gtt_3, gff_3, gtf_3, gft_3, gvv_3, gnt_3, gnf_3, gtt_6, gff_6, gtf_6, gft_6, gvv_6, gnt_6, gnf_6, fld_V_kind, fld_V_n, fld_V_s, fld_V_list, fld_V_fields, ofc_encV, ofc0_encV, fld_F_name, fld_F_v, ofc_encF, ofc0_encF, st_V0, st_F0, len_32, len_33, ia_32, ia_33, decT, decF]
    · by_cases k3 : x.kind_ = 3 ∧ v.kind = 4
      · obtain ⟨k3, v4⟩ := k3
        rw [show chI v x = idxB (fun e : Val => mtB e x.name_ x.value_) v.list by unfold chI; rw [if_neg (fun q => k1 q.1), if_neg (fun q => k2 q.1), if_pos ⟨k3, v4⟩]]
        simp (disch := first | first | assumption | exact clen_V | exact clen_F | (simp only [clen_V, clen_F]; omega) | omega | assumption | exact scell | exact clen_XStep | (simp only [clen_XStep]; omega) | exact scell | (simp only [List.length_append, List.length_cons, List.length_nil]; omega)) only [Nat.zero_add, oV_some', oN_eq, oM_some, oH_some, oD_some, oE_some, oS_eq, oT_true, oI_true, oI_false, pick_t, pick_f, un_not, oI_not, decide_not, toNat_sub1, toNat_add1, decide_true, decide_false, not_true, not_false_eq_true, Bool.not_true, Bool.not_false, Bool.not_not, oZ_b, oZ_i, oZ_s, oZ_l, slen_map, wr64, Int.toNat_natCast, Int.toNat_zero, ne_eq, bin_lt, bin_slt, bin_eq, b_snil, beq_4, load_get, loadB_some, get_put_same, get_put_ne, ofc_s, load_i, off_i, off_p, ofc_encXStep, ofc0_encXStep, st_XStep, fld_XStep_kind_, fld_XStep_name_, fld_XStep_index_, fld_XStep_value_, prt_XStep_kind_, prt_XStep_name_, prt_XStep_index_, prt_XStep_value_, len_32, gtt_3, gff_3, gtf_3, gft_3, gvv_3, gnt_3, gnf_3, gtt_6, gff_6, gtf_6, gft_6, gvv_6, gnt_6, gnf_6, fld_V_kind, fld_V_n, fld_V_s, fld_V_list, fld_V_fields, ofc_encV, ofc0_encV, fld_F_name, fld_F_v, ofc_encF, ofc0_encF, st_V0, st_F0, len_32, len_33, ia_32, ia_33, decT, decF, e74']
      · rw [show chI v x = -1 by unfold chI; rw [if_neg (fun q => k1 q.1), if_neg (fun q => k2 q.1), if_neg k3]]
        by_cases k : x.kind_ = 3
        · simp (disch := first | first | assumption | exact clen_V | exact clen_F | (simp only [clen_V, clen_F]; omega) | omega | assumption | exact scell | exact clen_XStep | (simp only [clen_XStep]; omega) | exact scell | (simp only [List.length_append, List.length_cons, List.length_nil]; omega)) only [Nat.zero_add, oV_some', oN_eq, oM_some, oH_some, oD_some, oE_some, oS_eq, oT_true, oI_true, oI_false, pick_t, pick_f, un_not, oI_not, decide_not, toNat_sub1, toNat_add1, decide_true, decide_false, not_true, not_false_eq_true, Bool.not_true, Bool.not_false, Bool.not_not, oZ_b, oZ_i, oZ_s, oZ_l, slen_map, wr64, Int.toNat_natCast, Int.toNat_zero, ne_eq, bin_lt, bin_slt, bin_eq, b_snil, beq_4, load_get, loadB_some, get_put_same, get_put_ne, ofc_s, load_i, off_i, off_p, ofc_encXStep, ofc0_encXStep, st_XStep, fld_XStep_kind_, fld_XStep_name_, fld_XStep_index_, fld_XStep_value_, prt_XStep_kind_, prt_XStep_name_, prt_XStep_index_, prt_XStep_value_, len_32, gtt_3, gff_3, gtf_3, gft_3, gvv_3, gnt_3, gnf_3, gtt_6, gff_6, gtf_6, gft_6, gvv_6, gnt_6, gnf_6, fld_V_kind, fld_V_n, fld_V_s, fld_V_list, fld_V_fields, ofc_encV, ofc0_encV, fld_F_name, fld_F_v, ofc_encF, ofc0_encF, st_V0, st_F0, len_32, len_33, ia_32, ia_33, decT, decF]
        · simp (disch := first | first | assumption | exact clen_V | exact clen_F | (simp only [clen_V, clen_F]; omega) | omega | assumption | exact scell | exact clen_XStep | (simp only [clen_XStep]; omega) | exact scell | (simp only [List.length_append, List.length_cons, List.length_nil]; omega)) only [Nat.zero_add, oV_some', oN_eq, oM_some, oH_some, oD_some, oE_some, oS_eq, oT_true, oI_true, oI_false, pick_t, pick_f, un_not, oI_not, decide_not, toNat_sub1, toNat_add1, decide_true, decide_false, not_true, not_false_eq_true, Bool.not_true, Bool.not_false, Bool.not_not, oZ_b, oZ_i, oZ_s, oZ_l, slen_map, wr64, Int.toNat_natCast, Int.toNat_zero, ne_eq, bin_lt, bin_slt, bin_eq, b_snil, beq_4, load_get, loadB_some, get_put_same, get_put_ne, ofc_s, load_i, off_i, off_p, ofc_encXStep, ofc0_encXStep, st_XStep, fld_XStep_kind_, fld_XStep_name_, fld_XStep_index_, fld_XStep_value_, prt_XStep_kind_, prt_XStep_name_, prt_XStep_index_, prt_XStep_value_, len_32, gtt_3, gff_3, gtf_3, gft_3, gvv_3, gnt_3, gnf_3, gtt_6, gff_6, gtf_6, gft_6, gvv_6, gnt_6, gnf_6, fld_V_kind, fld_V_n, fld_V_s, fld_V_list, fld_V_fields, ofc_encV, ofc0_encV, fld_F_name, fld_F_v, ofc_encF, ofc0_encF, st_V0, st_F0, len_32, len_33, ia_32, ia_33, decT, decF]
theorem e49 {v : Val} {x : XStep} (sm : smV v) {d : Nat} {σ : AS} {K : AV → AS → Prop} : oC T0 d 49 [encV v, encXStep x] σ K = K (.i .i64 (chI v x)) σ := (c49 v x sm).eq d σ K
theorem c79 (v : Val) (nm : List UInt8) (sm : smV v) : R T0 79 [encV v, .s nm] (.i .i64 (fldI v nm)) := by
  obtain ⟨-, ls, ll, lf, ol, of_⟩ := smV_facts sm
  refine r79 _ _ (by rw [encV_eq]; rfl) (by rw [encV_eq]; rfl) ?_
  unfold w79
  dsimp only [prims]
  rw [oN_eq]
  refine loop3 (X := Nat) (fun _ => .s nm) (fun _ => .ptr 0 0) (fun j => .i .i64 (j : Nat)) (fun j σ => j ≤ v.fields.length ∧ σ.h.get 0 = some (.cells (encV v).cells 35 false) ∧ (v.kind = 5 → (v.fields.take j).all (fun f => !(f.name == nm)) = true)) (fun j => v.fields.length - j) ?_ 0 _ ⟨Nat.zero_le _, get_put_same _ _ _, fun _ => rfl⟩
  rintro R j σ ⟨hj, hg, ha⟩ hR
  by_cases hj' : j < v.fields.length
  · by_cases k5 : v.kind = 5
    · have ha := ha k5
      cases hs : ((v.fields.getD j default).name == nm)
      · simp (disch := first | first | assumption | exact clen_V | exact clen_F | (simp only [clen_V, clen_F]; omega) | omega | assumption | exact scell | exact clen_XStep | (simp only [clen_XStep]; omega) | exact scell | (simp only [List.length_append, List.length_cons, List.length_nil]; omega)) only [Nat.zero_add, oV_some', oN_eq, oM_some, oH_some, oD_some, oE_some, oS_eq, oT_true, oI_true, oI_false, pick_t, pick_f, un_not, oI_not, decide_not, toNat_sub1, toNat_add1, decide_true, decide_false, not_true, not_false_eq_true, Bool.not_true, Bool.not_false, Bool.not_not, oZ_b, oZ_i, oZ_s, oZ_l, slen_map, wr64, Int.toNat_natCast, Int.toNat_zero, ne_eq, bin_lt, bin_slt, bin_eq, b_snil, beq_4, bin_add, load_get, loadB_some, get_put_same, get_put_ne, ofc_s, load_i, off_i, off_p, ofc_encXStep, ofc0_encXStep, st_XStep, fld_XStep_kind_, fld_XStep_name_, fld_XStep_index_, fld_XStep_value_, prt_XStep_kind_, prt_XStep_name_, prt_XStep_index_, prt_XStep_value_, len_33, ia_33, gtt_8, gff_8, gtf_8, gft_8, gvv_8, gnt_8, gnf_8, fld_V_kind, fld_V_n, fld_V_s, fld_V_list, fld_V_fields, ofc_encV, ofc0_encV, fld_F_name, fld_F_v, ofc_encF, ofc0_encF, st_V0, st_F0, len_32, len_33, ia_32, ia_33, Int.toNat_natCast, hg, decT, decF, bin_seq, hs]
        exact hR (j + 1) _ ⟨by omega, hg, fun _ => all_take_succ (d := default) ha hj' (by rw [hs]; rfl)⟩ (by omega)
      · rw [show fldI v nm = (j : Nat) by unfold fldI; rw [if_pos k5]; exact idxB_at (d := default) ha hj' hs]
        simp (disch := first | first | assumption | exact clen_V | exact clen_F | (simp only [clen_V, clen_F]; omega) | omega | assumption | exact scell | exact clen_XStep | (simp only [clen_XStep]; omega) | exact scell | (simp only [List.length_append, List.length_cons, List.length_nil]; omega)) only [Nat.zero_add, oV_some', oN_eq, oM_some, oH_some, oD_some, oE_some, oS_eq, oT_true, oI_true, oI_false, pick_t, pick_f, un_not, oI_not, decide_not, toNat_sub1, toNat_add1, decide_true, decide_false, not_true, not_false_eq_true, Bool.not_true, Bool.not_false, Bool.not_not, oZ_b, oZ_i, oZ_s, oZ_l, slen_map, wr64, Int.toNat_natCast, Int.toNat_zero, ne_eq, bin_lt, bin_slt, bin_eq, b_snil, beq_4, bin_add, load_get, loadB_some, get_put_same, get_put_ne, ofc_s, load_i, off_i, off_p, ofc_encXStep, ofc0_encXStep, st_XStep, fld_XStep_kind_, fld_XStep_name_, fld_XStep_index_, fld_XStep_value_, prt_XStep_kind_, prt_XStep_name_, prt_XStep_index_, prt_XStep_value_, len_33, ia_33, gtt_8, gff_8, gtf_8, gft_8, gvv_8, gnt_8, gnf_8, fld_V_kind, fld_V_n, fld_V_s, fld_V_list, fld_V_fields, ofc_encV, ofc0_encV, fld_F_name, fld_F_v, ofc_encF, ofc0_encF, st_V0, st_F0, len_32, len_33, ia_32, ia_33, Int.toNat_natCast, hg, decT, decF, bin_seq, hs]
    · simp (disch := first | first | assumption | exact clen_V | exact clen_F | (simp only [clen_V, clen_F]; omega) | omega | assumption | exact scell | exact clen_XStep | (simp only [clen_XStep]; omega) | exact scell | (simp only [List.length_append, List.length_cons, List.length_nil]; omega)) only [Nat.zero_add, oV_some', oN_eq, oM_some, oH_some, oD_some, oE_some, oS_eq, oT_true, oI_true, oI_false, pick_t, pick_f, un_not, oI_not, decide_not, toNat_sub1, toNat_add1, decide_true, decide_false, not_true, not_false_eq_true, Bool.not_true, Bool.not_false, Bool.not_not, oZ_b, oZ_i, oZ_s, oZ_l, slen_map, wr64, Int.toNat_natCast, Int.toNat_zero, ne_eq, bin_lt, bin_slt, bin_eq, b_snil, beq_4, bin_add, load_get, loadB_some, get_put_same, get_put_ne, ofc_s, load_i, off_i, off_p, ofc_encXStep, ofc0_encXStep, st_XStep, fld_XStep_kind_, fld_XStep_name_, fld_XStep_index_, fld_XStep_value_, prt_XStep_kind_, prt_XStep_name_, prt_XStep_index_, prt_XStep_value_, len_33, ia_33, gtt_8, gff_8, gtf_8, gft_8, gvv_8, gnt_8, gnf_8, fld_V_kind, fld_V_n, fld_V_s, fld_V_list, fld_V_fields, ofc_encV, ofc0_encV, fld_F_name, fld_F_v, ofc_encF, ofc0_encF, st_V0, st_F0, len_32, len_33, ia_32, ia_33, Int.toNat_natCast, hg, decT, decF, bin_seq]
      exact hR (j + 1) _ ⟨by omega, hg, fun q => absurd q k5⟩ (by omega)
  · rw [show fldI v nm = -1 by
      unfold fldI
      by_cases k5 : v.kind = 5
      · rw [if_pos k5]; exact idxB_no (all_end (ha k5) (by omega))
      · rw [if_neg k5]]
    simp (disch := first | first | assumption | exact clen_V | exact clen_F | (simp only [clen_V, clen_F]; omega) | omega | assumption | exact scell | exact clen_XStep | (simp only [clen_XStep]; omega) | exact scell | (simp only [List.length_append, List.length_cons, List.length_nil]; omega)) only [Nat.zero_add, oV_some', oN_eq, oM_some, oH_some, oD_some, oE_some, oS_eq, oT_true, oI_true, oI_false, pick_t, pick_f, un_not, oI_not, decide_not, toNat_sub1, toNat_add1, decide_true, decide_false, not_true, not_false_eq_true, Bool.not_true, Bool.not_false, Bool.not_not, oZ_b, oZ_i, oZ_s, oZ_l, slen_map, wr64, Int.toNat_natCast, Int.toNat_zero, ne_eq, bin_lt, bin_slt, bin_eq, b_snil, beq_4, bin_add, load_get, loadB_some, get_put_same, get_put_ne, ofc_s, load_i, off_i, off_p, ofc_encXStep, ofc0_encXStep, st_XStep, fld_XStep_kind_, fld_XStep_name_, fld_XStep_index_, fld_XStep_value_, prt_XStep_kind_, prt_XStep_name_, prt_XStep_index_, prt_XStep_value_, len_33, ia_33, gtt_8, gff_8, gtf_8, gft_8, gvv_8, gnt_8, gnf_8, fld_V_kind, fld_V_n, fld_V_s, fld_V_list, fld_V_fields, ofc_encV, ofc0_encV, fld_F_name, fld_F_v, ofc_encF, ofc0_encF, st_V0, st_F0, len_32, len_33, ia_32, ia_33, Int.toNat_natCast, hg, decT, decF]
theorem e79 {v : Val} {nm : List UInt8} (sm : smV v) {d : Nat} {σ : AS} {K : AV → AS → Prop} : oC T0 d 79 [encV v, .s nm] σ K = K (.i .i64 (fldI v nm)) σ := (c79 v nm sm).eq d σ K
theorem c80 (v : Val) (nm s : List UInt8) (sm : smV v) : R T0 80 [encV v, .s nm, .s s] (.b (mtB v nm s)) := by
  have hb := fldI_bnd v nm
  refine r80 _ _ _ (by rw [encV_eq]; rfl) (by rw [encV_eq]; rfl) ?_
  unfold w80
  dsimp only [prims]
  by_cases h0 : 0 ≤ fldI v nm
  · have hg : getF v nm = some (v.fields.getD (fldI v nm).toNat default).v := by unfold getF; rw [if_pos h0]
    unfold mtB
    rw [hg]
    simp only []
    have d1 : 1 ≤ (encF (v.fields.getD (fldI v nm).toNat default)).cells.length := by rw [clen_F]; decide
    have g0 : ofCells T0 3 (List.drop 0 (List.drop 1 (encF (v.fields.getD (fldI v nm).toNat default)).cells)) = some (.i .i64 (v.fields.getD (fldI v nm).toNat default).v.kind) := by rw [List.drop_zero]; exact fld_F_v0 _
    have g2 : ofCells T0 9 (List.drop 2 (List.drop 1 (encF (v.fields.getD (fldI v nm).toNat default)).cells)) = some (.s (v.fields.getD (fldI v nm).toNat default).v.s) := by rw [List.drop_drop]; exact fld_F_v2 _
    by_cases hk : (v.fields.getD (fldI v nm).toNat default).v.kind = 3
    · rw [decide_eq_true hk, Bool.true_and]
      simp (disch := first | first | assumption | exact clen_V | exact clen_F | (simp only [clen_V, clen_F]; omega) | omega | assumption | exact scell | exact clen_XStep | (simp only [clen_XStep]; omega) | exact scell | (simp only [List.length_append, List.length_cons, List.length_nil]; omega)) only [Nat.zero_add, oV_some', oN_eq, oM_some, oH_some, oD_some, oE_some, oS_eq, oT_true, oI_true, oI_false, pick_t, pick_f, un_not, oI_not, decide_not, toNat_sub1, toNat_add1, decide_true, decide_false, not_true, not_false_eq_true, Bool.not_true, Bool.not_false, Bool.not_not, oZ_b, oZ_i, oZ_s, oZ_l, slen_map, wr64, Int.toNat_natCast, Int.toNat_zero, ne_eq, bin_ge, bin_sge, bin_eq, b_snil, beq_4, load_get, loadB_some, get_put_same, get_put_ne, ofc_s, load_i, off_i, off_p, ofc_encXStep, ofc0_encXStep, st_XStep, fld_XStep_kind_, fld_XStep_name_, fld_XStep_index_, fld_XStep_value_, prt_XStep_kind_, prt_XStep_name_, prt_XStep_index_, prt_XStep_value_, ia_33, gtt_8, gff_8, gtf_8, gft_8, gvv_8, gnt_8, gnf_8, gtt_9, gff_9, gtf_9, gft_9, gvv_9, gnt_9, gnf_9, fld_V_kind, fld_V_n, fld_V_s, fld_V_list, fld_V_fields, ofc_encV, ofc0_encV, fld_F_name, fld_F_v, ofc_encF, ofc0_encF, st_V0, st_F0, len_32, len_33, ia_32, ia_33, e79 sm, decT, decF, bin_seq, off_i, load_i, g0, g2]
    · rw [decide_eq_false hk, Bool.false_and]
      simp (disch := first | first | assumption | exact clen_V | exact clen_F | (simp only [clen_V, clen_F]; omega) | omega | assumption | exact scell | exact clen_XStep | (simp only [clen_XStep]; omega) | exact scell | (simp only [List.length_append, List.length_cons, List.length_nil]; omega)) only [Nat.zero_add, oV_some', oN_eq, oM_some, oH_some, oD_some, oE_some, oS_eq, oT_true, oI_true, oI_false, pick_t, pick_f, un_not, oI_not, decide_not, toNat_sub1, toNat_add1, decide_true, decide_false, not_true, not_false_eq_true, Bool.not_true, Bool.not_false, Bool.not_not, oZ_b, oZ_i, oZ_s, oZ_l, slen_map, wr64, Int.toNat_natCast, Int.toNat_zero, ne_eq, bin_ge, bin_sge, bin_eq, b_snil, beq_4, load_get, loadB_some, get_put_same, get_put_ne, ofc_s, load_i, off_i, off_p, ofc_encXStep, ofc0_encXStep, st_XStep, fld_XStep_kind_, fld_XStep_name_, fld_XStep_index_, fld_XStep_value_, prt_XStep_kind_, prt_XStep_name_, prt_XStep_index_, prt_XStep_value_, ia_33, gtt_8, gff_8, gtf_8, gft_8, gvv_8, gnt_8, gnf_8, gtt_9, gff_9, gtf_9, gft_9, gvv_9, gnt_9, gnf_9, fld_V_kind, fld_V_n, fld_V_s, fld_V_list, fld_V_fields, ofc_encV, ofc0_encV, fld_F_name, fld_F_v, ofc_encF, ofc0_encF, st_V0, st_F0, len_32, len_33, ia_32, ia_33, e79 sm, decT, decF, bin_seq, off_i, load_i, g0, g2]
  · have hg : getF v nm = none := by unfold getF; rw [if_neg h0]
    unfold mtB
    rw [hg]
    simp (disch := first | first | assumption | exact clen_V | exact clen_F | (simp only [clen_V, clen_F]; omega) | omega | assumption | exact scell | exact clen_XStep | (simp only [clen_XStep]; omega) | exact scell | (simp only [List.length_append, List.length_cons, List.length_nil]; omega)) only [Nat.zero_add, oV_some', oN_eq, oM_some, oH_some, oD_some, oE_some, oS_eq, oT_true, oI_true, oI_false, pick_t, pick_f, un_not, oI_not, decide_not, toNat_sub1, toNat_add1, decide_true, decide_false, not_true, not_false_eq_true, Bool.not_true, Bool.not_false, Bool.not_not, oZ_b, oZ_i, oZ_s, oZ_l, slen_map, wr64, Int.toNat_natCast, Int.toNat_zero, ne_eq, bin_ge, bin_sge, bin_eq, b_snil, beq_4, load_get, loadB_some, get_put_same, get_put_ne, ofc_s, load_i, off_i, off_p, ofc_encXStep, ofc0_encXStep, st_XStep, fld_XStep_kind_, fld_XStep_name_, fld_XStep_index_, fld_XStep_value_, prt_XStep_kind_, prt_XStep_name_, prt_XStep_index_, prt_XStep_value_, ia_33, gtt_8, gff_8, gtf_8, gft_8, gvv_8, gnt_8, gnf_8, gtt_9, gff_9, gtf_9, gft_9, gvv_9, gnt_9, gnf_9, fld_V_kind, fld_V_n, fld_V_s, fld_V_list, fld_V_fields, ofc_encV, ofc0_encV, fld_F_name, fld_F_v, ofc_encF, ofc0_encF, st_V0, st_F0, len_32, len_33, ia_32, ia_33, e79 sm, decT, decF, bin_seq]
theorem e80 {v : Val} {nm s : List UInt8} (sm : smV v) {d : Nat} {σ : AS} {K : AV → AS → Prop} : oC T0 d 80 [encV v, .s nm, .s s] σ K = K (.b (mtB v nm s)) σ := (c80 v nm s sm).eq d σ K
theorem c51 (v : Val) (x : XStep) (sm : smV v) (hk : x.kind_ = 1 ∨ x.kind_ = 2 ∨ x.kind_ = 3) : R T0 51 [encV v, encXStep x] (.i .i64 (chI v x)) := by
  obtain ⟨-, ls, ll, lf, ol, of_⟩ := smV_facts sm
  refine r51 _ _ (by rw [encV_eq]; rfl) (by rw [encV_eq]; rfl) ?_
  unfold w51
  dsimp only [prims]
  by_cases k1 : x.kind_ = 1
  · have e : chI v x = fldI v x.name_ := by
      unfold chI fldI
      by_cases v5 : v.kind = 5
      · rw [if_pos ⟨k1, v5⟩, if_pos v5]
      · rw [if_neg (fun q => v5 q.2), if_neg (fun q => by omega), if_neg (fun q => by omega), if_neg v5]
    rw [e]
    simp (disch := first | first | assumption | exact clen_V | exact clen_F | (simp only [clen_V, clen_F]; omega) | omega | assumption | exact scell | exact clen_XStep | (simp only [clen_XStep]; omega) | exact scell | (simp only [List.length_append, List.length_cons, List.length_nil]; omega)) only [Nat.zero_add, oV_some', oN_eq, oM_some, oH_some, oD_some, oE_some, oS_eq, oT_true, oI_true, oI_false, pick_t, pick_f, un_not, oI_not, decide_not, toNat_sub1, toNat_add1, decide_true, decide_false, not_true, not_false_eq_true, Bool.not_true, Bool.not_false, Bool.not_not, oZ_b, oZ_i, oZ_s, oZ_l, slen_map, wr64, Int.toNat_natCast, Int.toNat_zero, ne_eq, bin_lt, bin_slt, bin_eq, b_snil, beq_4, bin_ne, b_snnil, bne_4, bin_add, load_get, loadB_some, get_put_same, get_put_ne, ofc_s, load_i, off_i, off_p, ofc_encXStep, ofc0_encXStep, st_XStep, fld_XStep_kind_, fld_XStep_name_, fld_XStep_index_, fld_XStep_value_, prt_XStep_kind_, prt_XStep_name_, prt_XStep_index_, prt_XStep_value_, len_32, ia_32, fld_V_kind, fld_V_n, fld_V_s, fld_V_list, fld_V_fields, ofc_encV, ofc0_encV, fld_F_name, fld_F_v, ofc_encF, ofc0_encF, st_V0, st_F0, len_32, len_33, ia_32, ia_33, e79 sm, decT, decF]
  · by_cases v4 : v.kind = 4
    · by_cases k2 : x.kind_ = 2
      · by_cases hi : x.index_ < (v.list.length : Nat)
        · rw [show chI v x = x.index_ by unfold chI; rw [if_neg (fun q => k1 q.1), if_pos ⟨k2, v4, hi⟩]]
          simp (disch := first | first | assumption | exact clen_V | exact clen_F | (simp only [clen_V, clen_F]; omega) | omega | assumption | exact scell | exact clen_XStep | (simp only [clen_XStep]; omega) | exact scell | (simp only [List.length_append, List.length_cons, List.length_nil]; omega)) only [Nat.zero_add, oV_some', oN_eq, oM_some, oH_some, oD_some, oE_some, oS_eq, oT_true, oI_true, oI_false, pick_t, pick_f, un_not, oI_not, decide_not, toNat_sub1, toNat_add1, decide_true, decide_false, not_true, not_false_eq_true, Bool.not_true, Bool.not_false, Bool.not_not, oZ_b, oZ_i, oZ_s, oZ_l, slen_map, wr64, Int.toNat_natCast, Int.toNat_zero, ne_eq, bin_lt, bin_slt, bin_eq, b_snil, beq_4, bin_ne, b_snnil, bne_4, bin_add, load_get, loadB_some, get_put_same, get_put_ne, ofc_s, load_i, off_i, off_p, ofc_encXStep, ofc0_encXStep, st_XStep, fld_XStep_kind_, fld_XStep_name_, fld_XStep_index_, fld_XStep_value_, prt_XStep_kind_, prt_XStep_name_, prt_XStep_index_, prt_XStep_value_, len_32, ia_32, fld_V_kind, fld_V_n, fld_V_s, fld_V_list, fld_V_fields, ofc_encV, ofc0_encV, fld_F_name, fld_F_v, ofc_encF, ofc0_encF, st_V0, st_F0, len_32, len_33, ia_32, ia_33, decT, decF]
        · rw [show chI v x = -1 by unfold chI; rw [if_neg (fun q => k1 q.1), if_neg (fun q => hi q.2.2), if_neg (fun q => by omega)]]
          simp (disch := first | first | assumption | exact clen_V | exact clen_F | (simp only [clen_V, clen_F]; omega) | omega | assumption | exact scell | exact clen_XStep | (simp only [clen_XStep]; omega) | exact scell | (simp only [List.length_append, List.length_cons, List.length_nil]; omega)) only [Nat.zero_add, oV_some', oN_eq, oM_some, oH_some, oD_some, oE_some, oS_eq, oT_true, oI_true, oI_false, pick_t, pick_f, un_not, oI_not, decide_not, toNat_sub1, toNat_add1, decide_true, decide_false, not_true, not_false_eq_true, Bool.not_true, Bool.not_false, Bool.not_not, oZ_b, oZ_i, oZ_s, oZ_l, slen_map, wr64, Int.toNat_natCast, Int.toNat_zero, ne_eq, bin_lt, bin_slt, bin_eq, b_snil, beq_4, bin_ne, b_snnil, bne_4, bin_add, load_get, loadB_some, get_put_same, get_put_ne, ofc_s, load_i, off_i, off_p, ofc_encXStep, ofc0_encXStep, st_XStep, fld_XStep_kind_, fld_XStep_name_, fld_XStep_index_, fld_XStep_value_, prt_XStep_kind_, prt_XStep_name_, prt_XStep_index_, prt_XStep_value_, len_32, ia_32, fld_V_kind, fld_V_n, fld_V_s, fld_V_list, fld_V_fields, ofc_encV, ofc0_encV, fld_F_name, fld_F_v, ofc_encF, ofc0_encF, st_V0, st_F0, len_32, len_33, ia_32, ia_33, decT, decF]
      · rw [show chI v x = idxB (fun e : Val => mtB e x.name_ x.value_) v.list by unfold chI; rw [if_neg (fun q => k1 q.1), if_neg (fun q => k2 q.1), if_pos ⟨by omega, v4⟩]]
        simp (disch := first | first | assumption | exact clen_V | exact clen_F | (simp only [clen_V, clen_F]; omega) | omega | assumption | exact scell | exact clen_XStep | (simp only [clen_XStep]; omega) | exact scell | (simp only [List.length_append, List.length_cons, List.length_nil]; omega)) only [Nat.zero_add, oV_some', oN_eq, oM_some, oH_some, oD_some, oE_some, oS_eq, oT_true, oI_true, oI_false, pick_t, pick_f, un_not, oI_not, decide_not, toNat_sub1, toNat_add1, decide_true, decide_false, not_true, not_false_eq_true, Bool.not_true, Bool.not_false, Bool.not_not, oZ_b, oZ_i, oZ_s, oZ_l, slen_map, wr64, Int.toNat_natCast, Int.toNat_zero, ne_eq, bin_lt, bin_slt, bin_eq, b_snil, beq_4, bin_ne, b_snnil, bne_4, bin_add, load_get, loadB_some, get_put_same, get_put_ne, ofc_s, load_i, off_i, off_p, ofc_encXStep, ofc0_encXStep, st_XStep, fld_XStep_kind_, fld_XStep_name_, fld_XStep_index_, fld_XStep_value_, prt_XStep_kind_, prt_XStep_name_, prt_XStep_index_, prt_XStep_value_, len_32, ia_32, fld_V_kind, fld_V_n, fld_V_s, fld_V_list, fld_V_fields, ofc_encV, ofc0_encV, fld_F_name, fld_F_v, ofc_encF, ofc0_encF, st_V0, st_F0, len_32, len_33, ia_32, ia_33, decT, decF]
        refine loop3 (X := Nat) (fun _ => .ptr 1 0) (fun _ => .ptr 0 0) (fun j => .i .i64 (j : Nat)) (fun j σ => j ≤ v.list.length ∧ σ.h.get 0 = some (.cells (encV v).cells 35 false) ∧ σ.h.get 1 = some (.cells (encXStep x).cells 50 false) ∧ (v.list.take j).all (fun e => !mtB e x.name_ x.value_) = true) (fun j => v.list.length - j) ?_ 0 _ ⟨Nat.zero_le _, (get_put_ne _ _ (by decide)).trans (get_put_same _ _ _), get_put_same _ _ _, rfl⟩
        rintro R j σ ⟨hj, hg, hx, ha⟩ hR
        by_cases hj' : j < v.list.length
        · have e := fun (d : Nat) (σ : AS) (K : AV → AS → Prop) => e80 (nm := x.name_) (s := x.value_) (ol _ (getD_mem hj')) (d := d) (σ := σ) (K := K)
          cases hs : mtB (v.list.getD j default) x.name_ x.value_
          · rw [hs] at e
            simp (disch := first | first | assumption | exact clen_V | exact clen_F | (simp only [clen_V, clen_F]; omega) | omega | assumption | exact scell | exact clen_XStep | (simp only [clen_XStep]; omega) | exact scell | (simp only [List.length_append, List.length_cons, List.length_nil]; omega)) only [Nat.zero_add, oV_some', oN_eq, oM_some, oH_some, oD_some, oE_some, oS_eq, oT_true, oI_true, oI_false, pick_t, pick_f, un_not, oI_not, decide_not, toNat_sub1, toNat_add1, decide_true, decide_false, not_true, not_false_eq_true, Bool.not_true, Bool.not_false, Bool.not_not, oZ_b, oZ_i, oZ_s, oZ_l, slen_map, wr64, Int.toNat_natCast, Int.toNat_zero, ne_eq, bin_lt, bin_slt, bin_eq, b_snil, beq_4, bin_ne, b_snnil, bne_4, bin_add, load_get, loadB_some, get_put_same, get_put_ne, ofc_s, load_i, off_i, off_p, ofc_encXStep, ofc0_encXStep, st_XStep, fld_XStep_kind_, fld_XStep_name_, fld_XStep_index_, fld_XStep_value_, prt_XStep_kind_, prt_XStep_name_, prt_XStep_index_, prt_XStep_value_, len_32, ia_32, fld_V_kind, fld_V_n, fld_V_s, fld_V_list, fld_V_fields, ofc_encV, ofc0_encV, fld_F_name, fld_F_v, ofc_encF, ofc0_encF, st_V0, st_F0, len_32, len_33, ia_32, ia_33, Int.toNat_natCast, hg, hx, decT, decF, e]
            exact hR (j + 1) _ ⟨by omega, hg, hx, all_take_succ (d := default) ha hj' (by rw [hs]; rfl)⟩ (by omega)
          · rw [hs] at e
            rw [idxB_at (q := fun e => mtB e x.name_ x.value_) (d := default) ha hj' hs]
            simp (disch := first | first | assumption | exact clen_V | exact clen_F | (simp only [clen_V, clen_F]; omega) | omega | assumption | exact scell | exact clen_XStep | (simp only [clen_XStep]; omega) | exact scell | (simp only [List.length_append, List.length_cons, List.length_nil]; omega)) only [Nat.zero_add, oV_some', oN_eq, oM_some, oH_some, oD_some, oE_some, oS_eq, oT_true, oI_true, oI_false, pick_t, pick_f, un_not, oI_not, decide_not, toNat_sub1, toNat_add1, decide_true, decide_false, not_true, not_false_eq_true, Bool.not_true, Bool.not_false, Bool.not_not, oZ_b, oZ_i, oZ_s, oZ_l, slen_map, wr64, Int.toNat_natCast, Int.toNat_zero, ne_eq, bin_lt, bin_slt, bin_eq, b_snil, beq_4, bin_ne, b_snnil, bne_4, bin_add, load_get, loadB_some, get_put_same, get_put_ne, ofc_s, load_i, off_i, off_p, ofc_encXStep, ofc0_encXStep, st_XStep, fld_XStep_kind_, fld_XStep_name_, fld_XStep_index_, fld_XStep_value_, prt_XStep_kind_, prt_XStep_name_, prt_XStep_index_, prt_XStep_value_, len_32, ia_32, fld_V_kind, fld_V_n, fld_V_s, fld_V_list, fld_V_fields, ofc_encV, ofc0_encV, fld_F_name, fld_F_v, ofc_encF, ofc0_encF, st_V0, st_F0, len_32, len_33, ia_32, ia_33, Int.toNat_natCast, hg, hx, decT, decF, e]
        · rw [idxB_no (all_end ha (by omega))]
          simp (disch := first | first | assumption | exact clen_V | exact clen_F | (simp only [clen_V, clen_F]; omega) | omega | assumption | exact scell | exact clen_XStep | (simp only [clen_XStep]; omega) | exact scell | (simp only [List.length_append, List.length_cons, List.length_nil]; omega)) only [Nat.zero_add, oV_some', oN_eq, oM_some, oH_some, oD_some, oE_some, oS_eq, oT_true, oI_true, oI_false, pick_t, pick_f, un_not, oI_not, decide_not, toNat_sub1, toNat_add1, decide_true, decide_false, not_true, not_false_eq_true, Bool.not_true, Bool.not_false, Bool.not_not, oZ_b, oZ_i, oZ_s, oZ_l, slen_map, wr64, Int.toNat_natCast, Int.toNat_zero, ne_eq, bin_lt, bin_slt, bin_eq, b_snil, beq_4, bin_ne, b_snnil, bne_4, bin_add, load_get, loadB_some, get_put_same, get_put_ne, ofc_s, load_i, off_i, off_p, ofc_encXStep, ofc0_encXStep, st_XStep, fld_XStep_kind_, fld_XStep_name_, fld_XStep_index_, fld_XStep_value_, prt_XStep_kind_, prt_XStep_name_, prt_XStep_index_, prt_XStep_value_, len_32, ia_32, fld_V_kind, fld_V_n, fld_V_s, fld_V_list, fld_V_fields, ofc_encV, ofc0_encV, fld_F_name, fld_F_v, ofc_encF, ofc0_encF, st_V0, st_F0, len_32, len_33, ia_32, ia_33, Int.toNat_natCast, hg, decT, decF]
    · rw [show chI v x = -1 by unfold chI; rw [if_neg (fun q => k1 q.1), if_neg (fun q => v4 q.2.1), if_neg (fun q => v4 q.2)]]
      simp (disch := first | first | assumption | exact clen_V | exact clen_F | (simp only [clen_V, clen_F]; omega) | omega | assumption | exact scell | exact clen_XStep | (simp only [clen_XStep]; omega) | exact scell | (simp only [List.length_append, List.length_cons, List.length_nil]; omega)) only [Nat.zero_add, oV_some', oN_eq, oM_some, oH_some, oD_some, oE_some, oS_eq, oT_true, oI_true, oI_false, pick_t, pick_f, un_not, oI_not, decide_not, toNat_sub1, toNat_add1, decide_true, decide_false, not_true, not_false_eq_true, Bool.not_true, Bool.not_false, Bool.not_not, oZ_b, oZ_i, oZ_s, oZ_l, slen_map, wr64, Int.toNat_natCast, Int.toNat_zero, ne_eq, bin_lt, bin_slt, bin_eq, b_snil, beq_4, bin_ne, b_snnil, bne_4, bin_add, load_get, loadB_some, get_put_same, get_put_ne, ofc_s, load_i, off_i, off_p, ofc_encXStep, ofc0_encXStep, st_XStep, fld_XStep_kind_, fld_XStep_name_, fld_XStep_index_, fld_XStep_value_, prt_XStep_kind_, prt_XStep_name_, prt_XStep_index_, prt_XStep_value_, len_32, ia_32, fld_V_kind, fld_V_n, fld_V_s, fld_V_list, fld_V_fields, ofc_encV, ofc0_encV, fld_F_name, fld_F_v, ofc_encF, ofc0_encF, st_V0, st_F0, len_32, len_33, ia_32, ia_33, decT, decF]
theorem e51 {v : Val} {x : XStep} (sm : smV v) (hk : x.kind_ = 1 ∨ x.kind_ = 2 ∨ x.kind_ = 3) {d : Nat} {σ : AS} {K : AV → AS → Prop} : oC T0 d 51 [encV v, encXStep x] σ K = K (.i .i64 (chI v x)) σ := (c51 v x sm hk).eq d σ K
end Go.Proofs.YtmfhmlhaofpeiaaGreatDoor.Ev
/- Get: the program's and the reference's. -/
namespace Go.Proofs.YtmfhmlhaofpeiaaGreatDoor.Ev
open Go Go.RowKit
set_option linter.unusedSimpArgs false
set_option linter.unusedVariables false
set_option maxRecDepth 100000

def stepV (v : Val) (x : XStep) : Option Val := if chI v x < 0 then none else some (if x.kind_ = 1 then (v.fields.getD (chI v x).toNat default).v else v.list.getD (chI v x).toNat default)
def getV : Val → List XStep → Option Val
  | v, [] => some v
  | v, x :: p => match stepV v x with
    | none => none
    | some w => getV w p
theorem getV_nil (v : Val) : getV v [] = some v := by rw [getV]
theorem getV_none {v : Val} {x : XStep} {p : List XStep} (h : stepV v x = none) : getV v (x :: p) = none := by rw [getV, h]
theorem getV_some {v w : Val} {x : XStep} {p : List XStep} (h : stepV v x = some w) : getV v (x :: p) = getV w p := by rw [getV, h]
theorem chI_bnd {v : Val} {x : XStep} (h : 0 ≤ chI v x) : (x.kind_ = 1 → chI v x < (v.fields.length : Nat)) ∧ (x.kind_ ≠ 1 → chI v x < (v.list.length : Nat)) := by
  unfold chI at h ⊢
  split
  · rename_i k; exact ⟨fun _ => (idxB_bnd _ _).2, fun q => absurd k.1 q⟩
  · split
    · rename_i k; exact ⟨fun q => by omega, fun _ => k.2.2⟩
    · split
      · rename_i k; exact ⟨fun q => by omega, fun _ => (idxB_bnd _ _).2⟩
      · rename_i k1 k2 k3; rw [if_neg k1, if_neg k2, if_neg k3] at h; omega
theorem stepV_sm {v w : Val} {x : XStep} (sm : smV v) (h : stepV v x = some w) : smV w := by
  obtain ⟨-, ls, ll, lf, ol, of_⟩ := smV_facts sm
  unfold stepV at h
  split at h
  · cases h
  · rename_i h0
    have hb := chI_bnd (v := v) (x := x) (by omega)
    injection h with h; subst h
    split
    · rename_i k; have := hb.1 k; exact (smF_facts (of_ _ (getD_mem (by omega)))).2
    · rename_i k; have := hb.2 k; exact ol _ (getD_mem (by omega))
theorem getV_sm : ∀ {p : List XStep} {v w : Val}, smV v → getV v p = some w → smV w
  | [], v, w, sm, h => by rw [getV_nil] at h; injection h with h; rw [← h]; exact sm
  | x :: p, v, w, sm, h => by
    cases hs : stepV v x with
    | none => rw [getV_none hs] at h; cases h
    | some u => rw [getV_some hs] at h; exact getV_sm (stepV_sm sm hs) h
def getR (v : Val) (p : List XStep) : AV := gtR (if pathB p = true then getV v p else none)
theorem drop_cons {p : List XStep} {j : Nat} (h : j < p.length) : p.drop j = p.getD j default :: p.drop (j + 1) := by
  rw [List.drop_eq_getElem_cons h, List.getD_eq_getElem?_getD, List.getElem?_eq_getElem h]; rfl
theorem c23 (v : Val) (p : List XStep) (sm : smV v) (hp : p.length ≤ 140737488351232) (ox : ∀ x ∈ p, okXStep x) : R T0 23 [encV v, .lst (p.map encXStep)] (getR v p) := by
  refine r23 _ _ (by rw [encV_eq]; rfl) (by rw [encV_eq]; rfl) ?_
  unfold w23
  dsimp only [prims]
  have b1 : ((Tr.nil.put 0 (some (.cells (encV v).cells 35 false))).put 1 (some (.cells [.i .i64 0, .i .i64 0, .s [], .nilz true, .nilz true] 35 false)) : Tr AB).get 1 = some (.cells [.i .i64 0, .i .i64 0, .s [], .nilz true, .nilz true] 35 false) := get_put_same _ _ _
  by_cases hb : pathB p = true
  · rw [show getR v p = gtR (getV v p) by unfold getR; rw [if_pos hb]]
    simp (disch := first | first | assumption | exact clen_V | exact clen_F | (simp only [clen_V, clen_F]; omega) | omega | assumption | exact scell | exact clen_XStep | (simp only [clen_XStep]; omega) | exact scell | (simp only [List.length_append, List.length_cons, List.length_nil]; omega)) only [Nat.zero_add, oV_some', oN_eq, oM_some, oH_some, oD_some, oE_some, oS_eq, oT_true, oI_true, oI_false, pick_t, pick_f, un_not, oI_not, decide_not, toNat_sub1, toNat_add1, decide_true, decide_false, not_true, not_false_eq_true, Bool.not_true, Bool.not_false, Bool.not_not, oZ_b, oZ_i, oZ_s, oZ_l, slen_map, wr64, Int.toNat_natCast, Int.toNat_zero, ne_eq, bin_lt, bin_slt, bin_eq, b_snil, beq_4, bin_add, load_get, loadB_some, get_put_same, get_put_ne, ofc_s, load_i, off_i, off_p, ofc_encXStep, ofc0_encXStep, st_XStep, fld_XStep_kind_, fld_XStep_name_, fld_XStep_index_, fld_XStep_value_, prt_XStep_kind_, prt_XStep_name_, prt_XStep_index_, prt_XStep_value_, len_22, ia_22, ia_32, ia_33, join5_eq, e13 hp ox, hb, slen_map]
    refine loop5 (X := Nat × Val) (fun _ => .ptr 1 0) (fun _ => .ptr 0 0) (fun _ => .lst (p.map encXStep)) (fun _ => .i .i64 (p.length : Nat)) (fun x => .i .i64 (x.1 : Nat))
      (fun x σ => x.1 ≤ p.length ∧ smV x.2 ∧ 2 ≤ σ.n ∧ σ.h.get 0 = some (.cells (encV x.2).cells 35 false) ∧ σ.h.get 1 = some (.cells [.i .i64 0, .i .i64 0, .s [], .nilz true, .nilz true] 35 false) ∧ getV v p = getV x.2 (p.drop x.1)) (fun x => p.length - x.1) ?_ (0, v) _
      ⟨Nat.zero_le _, sm, Nat.le_refl _, (get_put_ne _ _ (by decide)).trans (get_put_same _ _ _), b1, rfl⟩
    clear b1
    rintro R ⟨j, w⟩ σ ⟨hj, sw, hn, g0, b1, hv⟩ hR
    dsimp only at hj sw g0 hv hR ⊢
    simp only [oV_some', bin_lt]
    refine oI_decd (fun h => ?_) (fun h => ?_)
    · have hj' : j < p.length := by omega
      have hst : stepB (p.getD j default) = true := (path_facts hb).2 _ (getD_mem hj')
      rw [drop_cons hj'] at hv
      have i0 : ((σ.h.put σ.n (some (.cells (encXStep x0).cells 50 false))).put σ.n (some (.cells (encXStep (p.getD j default)).cells 50 false))).get 0 = some (.cells (encV w).cells 35 false) := by rw [get_put_ne _ _ (by omega), get_put_ne _ _ (by omega)]; exact g0
      have i1 : ((σ.h.put σ.n (some (.cells (encXStep x0).cells 50 false))).put σ.n (some (.cells (encXStep (p.getD j default)).cells 50 false))).get 1 = some (.cells [.i .i64 0, .i .i64 0, .s [], .nilz true, .nilz true] 35 false) := by rw [get_put_ne _ _ (by omega), get_put_ne _ _ (by omega)]; exact b1
      obtain ⟨x, hx⟩ : ∃ x, p.getD j default = x := ⟨_, rfl⟩
      rw [hx] at hv i0 i1 hst
      have hbx := chI_bnd (v := w) (x := x)
      by_cases hc : chI w x < 0
      · have hs : stepV w x = none := if_pos hc
        rw [getV_none hs] at hv
        rw [hv]
        simp (disch := first | first | assumption | exact clen_V | exact clen_F | (simp only [clen_V, clen_F]; omega) | omega | assumption | exact scell | exact clen_XStep | (simp only [clen_XStep]; omega) | exact scell | (simp only [List.length_append, List.length_cons, List.length_nil]; omega)) only [Nat.zero_add, oV_some', oN_eq, oM_some, oH_some, oD_some, oE_some, oS_eq, oT_true, oI_true, oI_false, pick_t, pick_f, un_not, oI_not, decide_not, toNat_sub1, toNat_add1, decide_true, decide_false, not_true, not_false_eq_true, Bool.not_true, Bool.not_false, Bool.not_not, oZ_b, oZ_i, oZ_s, oZ_l, slen_map, wr64, Int.toNat_natCast, Int.toNat_zero, ne_eq, bin_lt, bin_slt, bin_eq, b_snil, beq_4, bin_add, load_get, loadB_some, get_put_same, get_put_ne, ofc_s, load_i, off_i, off_p, ofc_encXStep, ofc0_encXStep, st_XStep, fld_XStep_kind_, fld_XStep_name_, fld_XStep_index_, fld_XStep_value_, prt_XStep_kind_, prt_XStep_name_, prt_XStep_index_, prt_XStep_value_, len_22, ia_22, ia_32, ia_33, join5_eq, fld_V_kind, fld_V_n, fld_V_s, fld_V_list, fld_V_fields, ofc_encV, ofc0_encV, fld_F_name, fld_F_v, ofc_encF, ofc0_encF, st_V0, st_F0, len_32, len_33, ia_32, ia_33, Int.toNat_natCast, enc_x0, st50n, hx, i0, e49 sw, decT, decF, bld35, st_cz rfl i1, ofz, ozz, gtR]
      · by_cases k1 : x.kind_ = 1
        · have hi := (hbx (by omega)).1 k1
          have hs : stepV w x = some ((w.fields.getD (chI w x).toNat default).v) := by unfold stepV; rw [if_neg hc, if_pos k1]
          rw [getV_some hs] at hv
          have c1 : 1 ≤ (encF (w.fields.getD (chI w x).toNat default)).cells.length := by rw [clen_F]; decide
          simp (disch := first | first | assumption | exact clen_V | exact clen_F | (simp only [clen_V, clen_F]; omega) | omega | assumption | exact scell | exact clen_XStep | (simp only [clen_XStep]; omega) | exact scell | (simp only [List.length_append, List.length_cons, List.length_nil]; omega)) only [Nat.zero_add, oV_some', oN_eq, oM_some, oH_some, oD_some, oE_some, oS_eq, oT_true, oI_true, oI_false, pick_t, pick_f, un_not, oI_not, decide_not, toNat_sub1, toNat_add1, decide_true, decide_false, not_true, not_false_eq_true, Bool.not_true, Bool.not_false, Bool.not_not, oZ_b, oZ_i, oZ_s, oZ_l, slen_map, wr64, Int.toNat_natCast, Int.toNat_zero, ne_eq, bin_lt, bin_slt, bin_eq, b_snil, beq_4, bin_add, load_get, loadB_some, get_put_same, get_put_ne, ofc_s, load_i, off_i, off_p, ofc_encXStep, ofc0_encXStep, st_XStep, fld_XStep_kind_, fld_XStep_name_, fld_XStep_index_, fld_XStep_value_, prt_XStep_kind_, prt_XStep_name_, prt_XStep_index_, prt_XStep_value_, len_22, ia_22, ia_32, ia_33, join5_eq, fld_V_kind, fld_V_n, fld_V_s, fld_V_list, fld_V_fields, ofc_encV, ofc0_encV, fld_F_name, fld_F_v, ofc_encF, ofc0_encF, st_V0, st_F0, len_32, len_33, ia_32, ia_33, Int.toNat_natCast, enc_x0, st50n, hx, i0, e49 sw, decT, decF, off_i, load_i, st_cv (by rw [clen_V]) i0]
          refine hR (j + 1, (w.fields.getD (chI w x).toNat default).v) ⟨_, _⟩ ?_ (by dsimp only; omega)
          refine ⟨by dsimp only; omega, stepV_sm sw hs, by dsimp only; omega, get_put_same _ _ _, ?_, hv⟩
          dsimp only; rw [get_put_ne _ _ (by decide)]; exact i1
        · have hi := (hbx (by omega)).2 k1
          have hs : stepV w x = some ((w.list.getD (chI w x).toNat default)) := by unfold stepV; rw [if_neg hc, if_neg k1]
          rw [getV_some hs] at hv
          have c1 : 1 ≤ (encF (w.fields.getD (chI w x).toNat default)).cells.length := by rw [clen_F]; decide
          simp (disch := first | first | assumption | exact clen_V | exact clen_F | (simp only [clen_V, clen_F]; omega) | omega | assumption | exact scell | exact clen_XStep | (simp only [clen_XStep]; omega) | exact scell | (simp only [List.length_append, List.length_cons, List.length_nil]; omega)) only [Nat.zero_add, oV_some', oN_eq, oM_some, oH_some, oD_some, oE_some, oS_eq, oT_true, oI_true, oI_false, pick_t, pick_f, un_not, oI_not, decide_not, toNat_sub1, toNat_add1, decide_true, decide_false, not_true, not_false_eq_true, Bool.not_true, Bool.not_false, Bool.not_not, oZ_b, oZ_i, oZ_s, oZ_l, slen_map, wr64, Int.toNat_natCast, Int.toNat_zero, ne_eq, bin_lt, bin_slt, bin_eq, b_snil, beq_4, bin_add, load_get, loadB_some, get_put_same, get_put_ne, ofc_s, load_i, off_i, off_p, ofc_encXStep, ofc0_encXStep, st_XStep, fld_XStep_kind_, fld_XStep_name_, fld_XStep_index_, fld_XStep_value_, prt_XStep_kind_, prt_XStep_name_, prt_XStep_index_, prt_XStep_value_, len_22, ia_22, ia_32, ia_33, join5_eq, fld_V_kind, fld_V_n, fld_V_s, fld_V_list, fld_V_fields, ofc_encV, ofc0_encV, fld_F_name, fld_F_v, ofc_encF, ofc0_encF, st_V0, st_F0, len_32, len_33, ia_32, ia_33, Int.toNat_natCast, enc_x0, st50n, hx, i0, e49 sw, decT, decF, off_i, load_i, st_cv (by rw [clen_V]) i0]
          refine hR (j + 1, w.list.getD (chI w x).toNat default) ⟨_, _⟩ ?_ (by dsimp only; omega)
          refine ⟨by dsimp only; omega, stepV_sm sw hs, by dsimp only; omega, get_put_same _ _ _, ?_, hv⟩
          dsimp only; rw [get_put_ne _ _ (by decide)]; exact i1
    · have ej : p.drop j = [] := List.drop_of_length_le (by omega)
      rw [ej, getV_nil] at hv
      rw [hv]
      simp (disch := first | first | assumption | exact clen_V | exact clen_F | (simp only [clen_V, clen_F]; omega) | omega | assumption | exact scell | exact clen_XStep | (simp only [clen_XStep]; omega) | exact scell | (simp only [List.length_append, List.length_cons, List.length_nil]; omega)) only [Nat.zero_add, oV_some', oN_eq, oM_some, oH_some, oD_some, oE_some, oS_eq, oT_true, oI_true, oI_false, pick_t, pick_f, un_not, oI_not, decide_not, toNat_sub1, toNat_add1, decide_true, decide_false, not_true, not_false_eq_true, Bool.not_true, Bool.not_false, Bool.not_not, oZ_b, oZ_i, oZ_s, oZ_l, slen_map, wr64, Int.toNat_natCast, Int.toNat_zero, ne_eq, bin_lt, bin_slt, bin_eq, b_snil, beq_4, bin_add, load_get, loadB_some, get_put_same, get_put_ne, ofc_s, load_i, off_i, off_p, ofc_encXStep, ofc0_encXStep, st_XStep, fld_XStep_kind_, fld_XStep_name_, fld_XStep_index_, fld_XStep_value_, prt_XStep_kind_, prt_XStep_name_, prt_XStep_index_, prt_XStep_value_, len_22, ia_22, ia_32, ia_33, join5_eq, fld_V_kind, fld_V_n, fld_V_s, fld_V_list, fld_V_fields, ofc_encV, ofc0_encV, fld_F_name, fld_F_v, ofc_encF, ofc0_encF, st_V0, st_F0, len_32, len_33, ia_32, ia_33, Int.toNat_natCast, load_p g0 (Nat.zero_le _), g0, e50 sw, st_cv rfl b1, ozvb, gtR]
  · rw [show getR v p = gtR none by unfold getR; rw [if_neg hb]]
    simp (disch := first | first | assumption | exact clen_V | exact clen_F | (simp only [clen_V, clen_F]; omega) | omega | assumption | exact scell | exact clen_XStep | (simp only [clen_XStep]; omega) | exact scell | (simp only [List.length_append, List.length_cons, List.length_nil]; omega)) only [Nat.zero_add, oV_some', oN_eq, oM_some, oH_some, oD_some, oE_some, oS_eq, oT_true, oI_true, oI_false, pick_t, pick_f, un_not, oI_not, decide_not, toNat_sub1, toNat_add1, decide_true, decide_false, not_true, not_false_eq_true, Bool.not_true, Bool.not_false, Bool.not_not, oZ_b, oZ_i, oZ_s, oZ_l, slen_map, wr64, Int.toNat_natCast, Int.toNat_zero, ne_eq, bin_lt, bin_slt, bin_eq, b_snil, beq_4, bin_add, load_get, loadB_some, get_put_same, get_put_ne, ofc_s, load_i, off_i, off_p, ofc_encXStep, ofc0_encXStep, st_XStep, fld_XStep_kind_, fld_XStep_name_, fld_XStep_index_, fld_XStep_value_, prt_XStep_kind_, prt_XStep_name_, prt_XStep_index_, prt_XStep_value_, len_22, ia_22, ia_32, ia_33, join5_eq, e13 hp ox, Bool.not_eq_true _ |>.mp hb, bld35, st_cz rfl b1, ofz, ozz, gtR]
theorem e23 {v : Val} {p : List XStep} (sm : smV v) (hp : p.length ≤ 140737488351232) (ox : ∀ x ∈ p, okXStep x) {d : Nat} {σ : AS} {K : AV → AS → Prop} : oC T0 d 23 [encV v, .lst (p.map encXStep)] σ K = K (getR v p) σ := (c23 v p sm hp ox).eq d σ K
theorem c24 (v : Val) (p : List XStep) (sm : smV v) (hp : p.length ≤ 140737488351232) (ox : ∀ x ∈ p, okXStep x) : R T0 24 [encV v, .lst (p.map encXStep)] (getR v p) := by
  refine r24 _ _ (by rw [encV_eq]; rfl) (by rw [encV_eq]; rfl) ?_
  unfold w24
  dsimp only [prims]
  have b1 : ((Tr.nil.put 0 (some (.cells (encV v).cells 35 false))).put 1 (some (.cells [.i .i64 0, .i .i64 0, .s [], .nilz true, .nilz true] 35 false)) : Tr AB).get 1 = some (.cells [.i .i64 0, .i .i64 0, .s [], .nilz true, .nilz true] 35 false) := get_put_same _ _ _
  by_cases hb : pathB p = true
  · rw [show getR v p = gtR (getV v p) by unfold getR; rw [if_pos hb]]
    simp (disch := first | first | assumption | exact clen_V | exact clen_F | (simp only [clen_V, clen_F]; omega) | omega | assumption | exact scell | exact clen_XStep | (simp only [clen_XStep]; omega) | exact scell | (simp only [List.length_append, List.length_cons, List.length_nil]; omega)) only [Nat.zero_add, oV_some', oN_eq, oM_some, oH_some, oD_some, oE_some, oS_eq, oT_true, oI_true, oI_false, pick_t, pick_f, un_not, oI_not, decide_not, toNat_sub1, toNat_add1, decide_true, decide_false, not_true, not_false_eq_true, Bool.not_true, Bool.not_false, Bool.not_not, oZ_b, oZ_i, oZ_s, oZ_l, slen_map, wr64, Int.toNat_natCast, Int.toNat_zero, ne_eq, bin_lt, bin_slt, bin_eq, b_snil, beq_4, bin_add, load_get, loadB_some, get_put_same, get_put_ne, ofc_s, load_i, off_i, off_p, ofc_encXStep, ofc0_encXStep, st_XStep, fld_XStep_kind_, fld_XStep_name_, fld_XStep_index_, fld_XStep_value_, prt_XStep_kind_, prt_XStep_name_, prt_XStep_index_, prt_XStep_value_, len_22, ia_22, ia_32, ia_33, join4_eq, e14 hp ox, hb, slen_map]
    refine loop4 (X := Nat × Val) (fun _ => .ptr 1 0) (fun _ => .ptr 0 0) (fun _ => .lst (p.map encXStep)) (fun x => .i .i64 (x.1 : Nat))
      (fun x σ => x.1 ≤ p.length ∧ smV x.2 ∧ σ.h.get 0 = some (.cells (encV x.2).cells 35 false) ∧ σ.h.get 1 = some (.cells [.i .i64 0, .i .i64 0, .s [], .nilz true, .nilz true] 35 false) ∧ getV v p = getV x.2 (p.drop x.1)) (fun x => p.length - x.1) ?_ (0, v) _
      ⟨Nat.zero_le _, sm, (get_put_ne _ _ (by decide)).trans (get_put_same _ _ _), b1, rfl⟩
    clear b1
    rintro R ⟨j, w⟩ σ ⟨hj, sw, g0, b1, hv⟩ hR
    dsimp only at hj sw g0 hv hR ⊢
    by_cases hj' : j < p.length
    · have hst : stepB (p.getD j default) = true := (path_facts hb).2 _ (getD_mem hj')
      rw [drop_cons hj'] at hv
      obtain ⟨x, hx⟩ : ∃ x, p.getD j default = x := ⟨_, rfl⟩
      rw [hx] at hv hst
      have hbx := chI_bnd (v := w) (x := x)
      have e51' := fun (d : Nat) (σ : AS) (K : AV → AS → Prop) => e51 sw (step_facts hst).1 (d := d) (σ := σ) (K := K)
      by_cases hc : chI w x < 0
      · have hs : stepV w x = none := if_pos hc
        rw [getV_none hs] at hv
        rw [hv]
        simp (disch := first | first | assumption | exact clen_V | exact clen_F | (simp only [clen_V, clen_F]; omega) | omega | assumption | exact scell | exact clen_XStep | (simp only [clen_XStep]; omega) | exact scell | (simp only [List.length_append, List.length_cons, List.length_nil]; omega)) only [Nat.zero_add, oV_some', oN_eq, oM_some, oH_some, oD_some, oE_some, oS_eq, oT_true, oI_true, oI_false, pick_t, pick_f, un_not, oI_not, decide_not, toNat_sub1, toNat_add1, decide_true, decide_false, not_true, not_false_eq_true, Bool.not_true, Bool.not_false, Bool.not_not, oZ_b, oZ_i, oZ_s, oZ_l, slen_map, wr64, Int.toNat_natCast, Int.toNat_zero, ne_eq, bin_lt, bin_slt, bin_eq, b_snil, beq_4, bin_add, load_get, loadB_some, get_put_same, get_put_ne, ofc_s, load_i, off_i, off_p, ofc_encXStep, ofc0_encXStep, st_XStep, fld_XStep_kind_, fld_XStep_name_, fld_XStep_index_, fld_XStep_value_, prt_XStep_kind_, prt_XStep_name_, prt_XStep_index_, prt_XStep_value_, len_22, ia_22, ia_32, ia_33, join4_eq, fld_V_kind, fld_V_n, fld_V_s, fld_V_list, fld_V_fields, ofc_encV, ofc0_encV, fld_F_name, fld_F_v, ofc_encF, ofc0_encF, st_V0, st_F0, len_32, len_33, ia_32, ia_33, Int.toNat_natCast, hx, g0, e51', decT, decF, bld35, st_cz rfl b1, ofz, ozz, gtR, slen_map]
      · by_cases k1 : x.kind_ = 1
        · have hi := (hbx (by omega)).1 k1
          have hs : stepV w x = some (w.fields.getD (chI w x).toNat default).v := by unfold stepV; rw [if_neg hc, if_pos k1]
          rw [getV_some hs] at hv
          have c1 : 1 ≤ (encF (w.fields.getD (chI w x).toNat default)).cells.length := by rw [clen_F]; decide
          simp (disch := first | first | assumption | exact clen_V | exact clen_F | (simp only [clen_V, clen_F]; omega) | omega | assumption | exact scell | exact clen_XStep | (simp only [clen_XStep]; omega) | exact scell | (simp only [List.length_append, List.length_cons, List.length_nil]; omega)) only [Nat.zero_add, oV_some', oN_eq, oM_some, oH_some, oD_some, oE_some, oS_eq, oT_true, oI_true, oI_false, pick_t, pick_f, un_not, oI_not, decide_not, toNat_sub1, toNat_add1, decide_true, decide_false, not_true, not_false_eq_true, Bool.not_true, Bool.not_false, Bool.not_not, oZ_b, oZ_i, oZ_s, oZ_l, slen_map, wr64, Int.toNat_natCast, Int.toNat_zero, ne_eq, bin_lt, bin_slt, bin_eq, b_snil, beq_4, bin_add, load_get, loadB_some, get_put_same, get_put_ne, ofc_s, load_i, off_i, off_p, ofc_encXStep, ofc0_encXStep, st_XStep, fld_XStep_kind_, fld_XStep_name_, fld_XStep_index_, fld_XStep_value_, prt_XStep_kind_, prt_XStep_name_, prt_XStep_index_, prt_XStep_value_, len_22, ia_22, ia_32, ia_33, join4_eq, fld_V_kind, fld_V_n, fld_V_s, fld_V_list, fld_V_fields, ofc_encV, ofc0_encV, fld_F_name, fld_F_v, ofc_encF, ofc0_encF, st_V0, st_F0, len_32, len_33, ia_32, ia_33, Int.toNat_natCast, hx, g0, e51', decT, decF, off_i, load_i, st_cv (clen_V w) g0, slen_map]
          refine hR (j + 1, (w.fields.getD (chI w x).toNat default).v) ⟨_, _⟩ ?_ (by dsimp only; omega)
          refine ⟨by dsimp only; omega, stepV_sm sw hs, get_put_same _ _ _, ?_, hv⟩
          dsimp only; rw [get_put_ne _ _ (by decide)]; exact b1
        · have hi := (hbx (by omega)).2 k1
          have hs : stepV w x = some (w.list.getD (chI w x).toNat default) := by unfold stepV; rw [if_neg hc, if_neg k1]
          rw [getV_some hs] at hv
          simp (disch := first | first | assumption | exact clen_V | exact clen_F | (simp only [clen_V, clen_F]; omega) | omega | assumption | exact scell | exact clen_XStep | (simp only [clen_XStep]; omega) | exact scell | (simp only [List.length_append, List.length_cons, List.length_nil]; omega)) only [Nat.zero_add, oV_some', oN_eq, oM_some, oH_some, oD_some, oE_some, oS_eq, oT_true, oI_true, oI_false, pick_t, pick_f, un_not, oI_not, decide_not, toNat_sub1, toNat_add1, decide_true, decide_false, not_true, not_false_eq_true, Bool.not_true, Bool.not_false, Bool.not_not, oZ_b, oZ_i, oZ_s, oZ_l, slen_map, wr64, Int.toNat_natCast, Int.toNat_zero, ne_eq, bin_lt, bin_slt, bin_eq, b_snil, beq_4, bin_add, load_get, loadB_some, get_put_same, get_put_ne, ofc_s, load_i, off_i, off_p, ofc_encXStep, ofc0_encXStep, st_XStep, fld_XStep_kind_, fld_XStep_name_, fld_XStep_index_, fld_XStep_value_, prt_XStep_kind_, prt_XStep_name_, prt_XStep_index_, prt_XStep_value_, len_22, ia_22, ia_32, ia_33, join4_eq, fld_V_kind, fld_V_n, fld_V_s, fld_V_list, fld_V_fields, ofc_encV, ofc0_encV, fld_F_name, fld_F_v, ofc_encF, ofc0_encF, st_V0, st_F0, len_32, len_33, ia_32, ia_33, Int.toNat_natCast, hx, g0, e51', decT, decF, off_i, load_i, st_cv (clen_V w) g0, slen_map]
          refine hR (j + 1, w.list.getD (chI w x).toNat default) ⟨_, _⟩ ?_ (by dsimp only; omega)
          refine ⟨by dsimp only; omega, stepV_sm sw hs, get_put_same _ _ _, ?_, hv⟩
          dsimp only; rw [get_put_ne _ _ (by decide)]; exact b1
    · have ej : p.drop j = [] := List.drop_of_length_le (by omega)
      rw [ej, getV_nil] at hv
      rw [hv]
      simp (disch := first | first | assumption | exact clen_V | exact clen_F | (simp only [clen_V, clen_F]; omega) | omega | assumption | exact scell | exact clen_XStep | (simp only [clen_XStep]; omega) | exact scell | (simp only [List.length_append, List.length_cons, List.length_nil]; omega)) only [Nat.zero_add, oV_some', oN_eq, oM_some, oH_some, oD_some, oE_some, oS_eq, oT_true, oI_true, oI_false, pick_t, pick_f, un_not, oI_not, decide_not, toNat_sub1, toNat_add1, decide_true, decide_false, not_true, not_false_eq_true, Bool.not_true, Bool.not_false, Bool.not_not, oZ_b, oZ_i, oZ_s, oZ_l, slen_map, wr64, Int.toNat_natCast, Int.toNat_zero, ne_eq, bin_lt, bin_slt, bin_eq, b_snil, beq_4, bin_add, load_get, loadB_some, get_put_same, get_put_ne, ofc_s, load_i, off_i, off_p, ofc_encXStep, ofc0_encXStep, st_XStep, fld_XStep_kind_, fld_XStep_name_, fld_XStep_index_, fld_XStep_value_, prt_XStep_kind_, prt_XStep_name_, prt_XStep_index_, prt_XStep_value_, len_22, ia_22, ia_32, ia_33, join4_eq, fld_V_kind, fld_V_n, fld_V_s, fld_V_list, fld_V_fields, ofc_encV, ofc0_encV, fld_F_name, fld_F_v, ofc_encF, ofc0_encF, st_V0, st_F0, len_32, len_33, ia_32, ia_33, Int.toNat_natCast, decT, decF, g0, st_cv rfl b1, ozvb, gtR, slen_map]
  · rw [show getR v p = gtR none by unfold getR; rw [if_neg hb]]
    simp (disch := first | first | assumption | exact clen_V | exact clen_F | (simp only [clen_V, clen_F]; omega) | omega | assumption | exact scell | exact clen_XStep | (simp only [clen_XStep]; omega) | exact scell | (simp only [List.length_append, List.length_cons, List.length_nil]; omega)) only [Nat.zero_add, oV_some', oN_eq, oM_some, oH_some, oD_some, oE_some, oS_eq, oT_true, oI_true, oI_false, pick_t, pick_f, un_not, oI_not, decide_not, toNat_sub1, toNat_add1, decide_true, decide_false, not_true, not_false_eq_true, Bool.not_true, Bool.not_false, Bool.not_not, oZ_b, oZ_i, oZ_s, oZ_l, slen_map, wr64, Int.toNat_natCast, Int.toNat_zero, ne_eq, bin_lt, bin_slt, bin_eq, b_snil, beq_4, bin_add, load_get, loadB_some, get_put_same, get_put_ne, ofc_s, load_i, off_i, off_p, ofc_encXStep, ofc0_encXStep, st_XStep, fld_XStep_kind_, fld_XStep_name_, fld_XStep_index_, fld_XStep_value_, prt_XStep_kind_, prt_XStep_name_, prt_XStep_index_, prt_XStep_value_, len_22, ia_22, ia_32, ia_33, join4_eq, e14 hp ox, Bool.not_eq_true _ |>.mp hb, bld35, st_cz rfl b1, ofz, ozz, gtR]
theorem e24 {v : Val} {p : List XStep} (sm : smV v) (hp : p.length ≤ 140737488351232) (ox : ∀ x ∈ p, okXStep x) {d : Nat} {σ : AS} {K : AV → AS → Prop} : oC T0 d 24 [encV v, .lst (p.map encXStep)] σ K = K (getR v p) σ := (c24 v p sm hp ox).eq d σ K
end Go.Proofs.YtmfhmlhaofpeiaaGreatDoor.Ev
/- slices.Delete of one element of a row of the call's own. -/
namespace Go.Proofs.YtmfhmlhaofpeiaaGreatDoor.Ev
open Go Go.RowKit
set_option linter.unusedSimpArgs false
set_option linter.unusedVariables false
set_option maxRecDepth 100000

section
variable {T : Tab} {α : Type} {enc : α → AV} {t e z by_ : Nat} {h : Tr AB} {l : List α} {id i : Nat}
theorem dl13 (E : El T enc t e z by_) (hi : i < l.length) : ∃ a, evSliceH T h t (.sl id 0 l.length none) (some (.i .i64 (i : Nat))) (some (.i .i64 ((i + 1 : Nat) : Int))) (some (.i .i64 (l.length : Nat))) = some a := by
  have b1 : bnd l.length (some (.i .i64 (l.length : Nat))) = some l.length := by
    simp only [bnd]; rw [if_pos ⟨by omega, by omega⟩]; simp
  have b2 : bnd l.length (some (.i .i64 ((i + 1 : Nat) : Int))) = some (i + 1) := by
    simp only [bnd]; rw [if_pos ⟨by omega, by omega⟩]; simp
  have b3 : bnd0 (i + 1) 0 (some (.i .i64 (i : Nat))) = some i := by
    simp only [bnd0, bnd]; rw [if_pos ⟨by omega, by omega⟩]; simp
  have b : bounds3 l.length none (some (.i .i64 (i : Nat))) (some (.i .i64 ((i + 1 : Nat) : Int))) (some (.i .i64 (l.length : Nat))) = some (i, i + 1, some l.length) := by
    simp only [bounds3, Option.getD_none, b1, b2, b3]
  refine ⟨.sl id (if l.length = i then 0 else 0 + i * (z + 1)) (i + 1 - i) (some (l.length - i)), slH_of ?_⟩
  unfold evSlice
  simp only [E.ty, E.sz, b]
theorem dl22 (E : El T enc t e z by_) (hi : i ≤ l.length) : evSliceH T h t (.sl id 0 l.length none) none (some (.i .i64 (i : Nat))) none = some (.sl id 0 i none) := by
  have b1 : bnd0 l.length l.length (some (.i .i64 (i : Nat))) = some i := by
    simp only [bnd0, bnd]; rw [if_pos ⟨by omega, by omega⟩]; simp
  have b2 : bnd0 i 0 none = some 0 := rfl
  have b : bounds3 l.length none none (some (.i .i64 (i : Nat))) none = some (0, i, none) := by
    simp only [bounds3, Option.getD_none, b1, b2]
  refine slH_of ?_
  unfold evSlice
  simp only [E.ty, E.sz, b]
theorem dl25 (E : El T enc t e z by_) (hi : i < l.length) : evSliceH T h t (.sl id 0 l.length none) (some (.i .i64 ((i + 1 : Nat) : Int))) none none = some (if i + 1 < l.length then .sl id ((i + 1) * (z + 1)) (l.length - (i + 1)) none else .lst []) := by
  have b1 : bnd0 l.length l.length none = some l.length := rfl
  have b2 : bnd0 l.length 0 (some (.i .i64 ((i + 1 : Nat) : Int))) = some (i + 1) := by
    simp only [bnd0, bnd]; rw [if_pos ⟨by omega, by omega⟩]; simp
  have b : bounds3 l.length none (some (.i .i64 ((i + 1 : Nat) : Int))) none none = some (i + 1, l.length, none) := by
    simp only [bounds3, Option.getD_none, b1, b2]
  refine slH_of ?_
  unfold evSlice
  simp only [E.ty, E.sz, b]
  by_cases hn : i + 1 < l.length
  · rw [if_pos hn, Nat.ble_eq_true_of_le (show i + 1 + 1 ≤ l.length from hn)]
    simp only [Nat.zero_add]
  · rw [if_neg hn]
    have : Nat.ble (i + 1 + 1) l.length = false := by
      cases q : Nat.ble (i + 1 + 1) l.length
      · rfl
      · have := Nat.le_of_ble_eq_true q; omega
    rw [this]
theorem setN_pre : ∀ (c b : List AV), c.length ≤ b.length → setN b 0 c = some (c ++ b.drop c.length) := by
  intro c b hl
  have e : b = b.take c.length ++ b.drop c.length := (List.take_append_drop _ _).symm
  have h1 := setN_full (b.take c.length) c (by rw [List.length_take]; omega)
  have h2 := setN_left (b.take c.length) (b.drop c.length) c c 0 h1
  rwa [← e] at h2
theorem setN_at (a c b : List AV) (hl : c.length ≤ b.length) : setN (a ++ b) a.length c = some (a ++ (c ++ b.drop c.length)) := by
  have := setN_app a b c 0
  rw [Nat.add_zero] at this
  rw [this, setN_pre c b hl]; rfl
theorem rows_leaf (E : El T enc t e z by_) (l : List α) : allLeaf (rowsOf enc l) = true := by
  induction l with
  | nil => rfl
  | cons x l ih => simp only [rowsOf, allLeaf_app, E.leaf, ih, Bool.and_self]
/-- The row without its i-th element, and what stands behind it. -/
theorem dlapp (E : El T enc t e z by_) {n : Nat} (hg : h.get id = some (.cells (rowsOf enc l) e true)) (hi : i < l.length) (hs : smallN l.length by_ = true) :
    ∃ h' C, evAppend T ⟨h, n⟩ t t (.sl id 0 i none) (if i + 1 < l.length then .sl id ((i + 1) * (z + 1)) (l.length - (i + 1)) none else .lst []) = some (.sl id 0 (l.length - 1) none, ⟨h', n⟩) ∧ h'.get id = some (.cells (rowsOf enc (l.eraseIdx i) ++ C) e true) ∧ C.length = z + 1 ∧ ∀ j, j ≠ id → h'.get j = h.get j := by
  obtain ⟨zv, hzv⟩ := Option.isSome_iff_exists.1 E.zr
  have el : l.eraseIdx i = l.take i ++ l.drop (i + 1) := List.eraseIdx_eq_take_drop_succ l i
  have sp : rowsOf enc l = rowsOf enc (l.take i) ++ rowsOf enc (l.drop i) := by rw [← rowsOf_app, List.take_append_drop]
  have l1 : (rowsOf enc (l.take i)).length = i * (z + 1) := by rw [rowsOf_len E, List.length_take]; congr 1; omega
  have l2 : (rowsOf enc (l.drop i)).length = (l.length - i) * (z + 1) := by rw [rowsOf_len E, List.length_drop]
  by_cases hn : i + 1 < l.length
  · rw [if_pos hn]
    obtain ⟨k, hk⟩ : ∃ k, l.length - (i + 1) = k + 1 := ⟨l.length - (i + 1) - 1, by omega⟩
    have l3 : (rowsOf enc (l.drop (i + 1))).length = (k + 1) * (z + 1) := by rw [rowsOf_len E, List.length_drop, hk]
    have hd : (rowsOf enc l).drop ((i + 1) * (z + 1)) = rowsOf enc (l.drop (i + 1)) := by
      have : rowsOf enc l = rowsOf enc (l.take (i + 1)) ++ rowsOf enc (l.drop (i + 1)) := by rw [← rowsOf_app, List.take_append_drop]
      rw [this]
      exact List.drop_left' (by rw [rowsOf_len E, List.length_take]; congr 1; omega)
    have tk := takeN_all (rowsOf enc (l.drop (i + 1)))
    rw [l3] at tk
    have nr : newCells h (z + 1) (k + 1) (.sl id ((i + 1) * (z + 1)) (k + 1) none) = some (rowsOf enc (l.drop (i + 1))) := by
      unfold newCells sliceCells
      simp only [hg, hd]; exact tk
    have st : setN (rowsOf enc l) (i * (z + 1)) (rowsOf enc (l.drop (i + 1))) = some (rowsOf enc (l.take i) ++ (rowsOf enc (l.drop (i + 1)) ++ (rowsOf enc (l.drop i)).drop ((k + 1) * (z + 1)))) := by
      rw [sp, ← l1, ← l3]
      exact setN_at _ _ _ (by rw [l3, l2]; exact Nat.mul_le_mul_right _ (by omega))
    have b1 : Nat.beq e e = true := Nat.beq_refl e
    have b2 : Nat.beq (i * (z + 1)) (rowsOf enc l).length = false := by
      cases q : Nat.beq (i * (z + 1)) (rowsOf enc l).length
      · rfl
      · have := Nat.eq_of_beq_eq_true q
        rw [rowsOf_len E] at this
        have q2 := Nat.mul_lt_mul_of_pos_right hi (Nat.succ_pos z)
        rw [show i * z.succ = i * (z + 1) from rfl, show l.length * z.succ = l.length * (z + 1) from rfl, this] at q2
        exact absurd q2 (Nat.lt_irrefl _)
    have e1 : i + (k + 1) = l.length - 1 := by omega
    have hs' : smallN (i + (k + 1)) by_ = true := by
      unfold smallN at hs ⊢
      simp only [Bool.and_eq_true] at hs ⊢
      obtain ⟨⟨a, b⟩, c⟩ := hs
      have a := Nat.le_of_ble_eq_true a
      have c := Nat.le_of_ble_eq_true c
      have := Nat.mul_le_mul_right by_ (show i + (k + 1) ≤ l.length by omega)
      exact ⟨⟨Nat.ble_eq_true_of_le (by omega), b⟩, Nat.ble_eq_true_of_le (by omega)⟩
    refine ⟨h.put id (some (.cells (rowsOf enc (l.take i) ++ (rowsOf enc (l.drop (i + 1)) ++ (rowsOf enc (l.drop i)).drop ((k + 1) * (z + 1)))) e true)), (rowsOf enc (l.drop i)).drop ((k + 1) * (z + 1)), ?_, ?_, ?_, fun j hj => get_put_ne _ _ hj⟩
    · rw [hk]
      unfold evAppend
      rw [e1] at hs'
      simp only [E.ty, E.sz, E.bytes, hzv, lenA, nr, hg, rows_leaf E, hs', b1, b2, st, e1]
    · rw [get_put_same, el, rowsOf_app, List.append_assoc]
    · rw [List.length_drop, l2, ← Nat.sub_mul, show l.length - i - (k + 1) = 1 by omega, Nat.one_mul]
  · rw [if_neg hn]
    refine ⟨h, rowsOf enc (l.drop i), ?_, ?_, by rw [l2, show l.length - i = 1 by omega, Nat.one_mul], fun j hj => rfl⟩
    · unfold evAppend
      have nr : newCells h (z + 1) 0 (.lst []) = some [] := by unfold newCells sliceCells; simp [flatA, takeN]
      simp only [E.ty, E.sz, E.bytes, hzv, lenA, List.length_nil, nr]
      rw [show i = l.length - 1 by omega]
    · rw [hg, el, show l.drop (i + 1) = [] from List.drop_of_length_le (by omega), List.append_nil, ← sp]
theorem dl31 (E : El T enc t e z by_) {cs : List AV} {n : Nat} (hg : h.get id = some (.cells cs e true)) (hl : cs.length = (n + 1) * (z + 1)) : evSliceH T h t (.sl id 0 n none) (some (.i .i64 (n : Nat))) (some (.i .i64 ((n + 1 : Nat) : Int))) none = some (.sl id (n * (z + 1)) 1 none) := by
  have b1 : bnd0 n n (some (.i .i64 ((n + 1 : Nat) : Int))) = none := by
    simp only [bnd0, bnd]; rw [if_neg (by omega)]
  have e1 : evSlice T t (.sl id 0 n none) (some (.i .i64 (n : Nat))) (some (.i .i64 ((n + 1 : Nat) : Int))) none = none := by
    unfold evSlice
    simp only [E.ty, E.sz, bounds3, Option.getD_none, b1]
  have b2 : Nat.beq e e = true := Nat.beq_refl e
  unfold evSliceH
  rw [e1]
  unfold evSliceG
  simp only [E.ty, hg, E.sz, b2, Int.toNat_natCast]
  rw [if_pos ⟨by omega, by omega, by omega⟩, show n + 1 - n = 1 by omega]
end
theorem fz_rowp {T : Tab} {t e z by_ : Nat} {ag : Bool} {es : List AV} (E : RowT T t e z by_ ag) (h1 : RowE z ag es) {h : Tr AB} {id : Nat} {cap : Option Nat} {g : Bool} {C : List AV} (hg : h.get id = some (.cells (flatA es ++ C) e g)) : fz T h 3 (.sl id 0 es.length cap) = some (.lst es) := by
  obtain ⟨d, hd, ha⟩ : ∃ d, T.ty e = some d ∧ isAggT d = ag := by
    have := E.ag
    cases hq : T.ty e with
    | none => rw [hq] at this; cases this
    | some d => rw [hq] at this; exact ⟨d, rfl, by simpa using this⟩
  unfold fz
  have hr := takeN_at (flatA es) C
  rw [h1.len] at hr
  simp only [AV.idfree, hg, E.sz, hd, List.drop_zero, hr, mapO_free _ _ h1.free, h1.nrm, ha, h1.ch, Option.map_some]
theorem zr_52 : ∃ zv : AV, T0.zr 52 = some zv ∧ zv.cells = [.s [], .i .i64 0, .i .i64 0, .s [], .nilz true, .nilz true] := ⟨_, (by kernel_rfl : T0.zr 52 = some (.agg [.s [], .i .i64 0, .i .i64 0, .s [], .nilz true, .nilz true])), rfl⟩
theorem c81 {h : Tr AB} {n id i : Nat} {l : List Fld} (hg : h.get id = some (.cells (rowsOf encF l) 52 true)) (hi : i < l.length) (hl : l.length ≤ 1000000) :
    ∃ h' C, Runs T0 81 [.sl id 0 l.length none, .i .i64 (i : Nat), .i .i64 ((i + 1 : Nat) : Int)] ⟨h, n⟩ (.sl id 0 (l.length - 1) none) ⟨h', n⟩ ∧ h'.get id = some (.cells (rowsOf encF (l.eraseIdx i) ++ C) 52 true) ∧ ∀ j, j ≠ id → h'.get j = h.get j := by
  obtain ⟨a, ha⟩ := dl13 (h := h) (id := id) elF hi
  obtain ⟨h1, C, g1, g2, g3, g4⟩ := dlapp (n := n) elF hg hi (smallB (by decide) hl)
  have le : (l.eraseIdx i).length = l.length - 1 := by rw [List.length_eraseIdx]; simp [hi]
  have g5 : (rowsOf encF (l.eraseIdx i) ++ C).length = (l.length - 1 + 1) * (5 + 1) := by rw [List.length_append, rowsOf_len elF, le, g3, Nat.add_mul, Nat.one_mul]
  have q31 := dl31 (n := l.length - 1) elF g2 g5
  rw [show l.length - 1 + 1 = l.length by omega] at q31
  obtain ⟨zv, z1, z2⟩ := zr_52
  have q0 : evClear T0 ⟨h1, n⟩ 33 (.sl id ((l.length - 1) * (5 + 1)) 1 none) = some (.tup [], ⟨h1.put id (some (.cells (rowsOf encF (l.eraseIdx i) ++ zv.cells) 52 true)), n⟩) := by
    have st : setN (rowsOf encF (l.eraseIdx i) ++ C) ((l.length - 1) * (5 + 1)) (repN zv.cells 1) = some (rowsOf encF (l.eraseIdx i) ++ zv.cells) := by
      have r1 : repN zv.cells 1 = zv.cells := by rw [z2]; rfl
      have r2 : zv.cells.length = 5 + 1 := by rw [z2]; rfl
      rw [r1, ← le, ← rowsOf_len elF, setN_at _ _ _ (by omega), List.drop_of_length_le (by omega), List.append_nil]
    have lf : allLeaf (repN zv.cells 1) = true := by rw [z2]; rfl
    unfold evClear
    simp only [elF.ty, z1, g2, lf, st]
  refine ⟨_, zv.cells, r81 _ _ _ ?_, get_put_same _ _ _, fun j hj => (get_put_ne _ _ hj).trans (g4 j hj)⟩
  unfold w81
  dsimp only [prims]
  have d1 : decide (((i : Nat) : Int) = ((i + 1 : Nat) : Int)) = false := decide_eq_false (by omega)
  rw [g_len_o elF.ty, oV_some', ha, oV_some', bin_eq, oV_some', d1, oI_false, oV_some', dl22 elF (by omega), oV_some', dl25 elF hi, oV_some', g1, oM_some, g_len_o elF.ty, oV_some', q31, oV_some', q0, oM_some]
  exact ⟨rfl, rfl⟩
theorem zr_35 : ∃ zv : AV, T0.zr 35 = some zv ∧ zv.cells = [.i .i64 0, .i .i64 0, .s [], .nilz true, .nilz true] := ⟨_, (by kernel_rfl : T0.zr 35 = some (.agg [.i .i64 0, .i .i64 0, .s [], .nilz true, .nilz true])), rfl⟩
theorem c82 {h : Tr AB} {n id i : Nat} {l : List Val} (hg : h.get id = some (.cells (rowsOf encV l) 35 true)) (hi : i < l.length) (hl : l.length ≤ 1000000) :
    ∃ h' C, Runs T0 82 [.sl id 0 l.length none, .i .i64 (i : Nat), .i .i64 ((i + 1 : Nat) : Int)] ⟨h, n⟩ (.sl id 0 (l.length - 1) none) ⟨h', n⟩ ∧ h'.get id = some (.cells (rowsOf encV (l.eraseIdx i) ++ C) 35 true) ∧ ∀ j, j ≠ id → h'.get j = h.get j := by
  obtain ⟨a, ha⟩ := dl13 (h := h) (id := id) elV hi
  obtain ⟨h1, C, g1, g2, g3, g4⟩ := dlapp (n := n) elV hg hi (smallB (by decide) hl)
  have le : (l.eraseIdx i).length = l.length - 1 := by rw [List.length_eraseIdx]; simp [hi]
  have g5 : (rowsOf encV (l.eraseIdx i) ++ C).length = (l.length - 1 + 1) * (4 + 1) := by rw [List.length_append, rowsOf_len elV, le, g3, Nat.add_mul, Nat.one_mul]
  have q31 := dl31 (n := l.length - 1) elV g2 g5
  rw [show l.length - 1 + 1 = l.length by omega] at q31
  obtain ⟨zv, z1, z2⟩ := zr_35
  have q0 : evClear T0 ⟨h1, n⟩ 32 (.sl id ((l.length - 1) * (4 + 1)) 1 none) = some (.tup [], ⟨h1.put id (some (.cells (rowsOf encV (l.eraseIdx i) ++ zv.cells) 35 true)), n⟩) := by
    have st : setN (rowsOf encV (l.eraseIdx i) ++ C) ((l.length - 1) * (4 + 1)) (repN zv.cells 1) = some (rowsOf encV (l.eraseIdx i) ++ zv.cells) := by
      have r1 : repN zv.cells 1 = zv.cells := by rw [z2]; rfl
      have r2 : zv.cells.length = 4 + 1 := by rw [z2]; rfl
      rw [r1, ← le, ← rowsOf_len elV, setN_at _ _ _ (by omega), List.drop_of_length_le (by omega), List.append_nil]
    have lf : allLeaf (repN zv.cells 1) = true := by rw [z2]; rfl
    unfold evClear
    simp only [elV.ty, z1, g2, lf, st]
  refine ⟨_, zv.cells, r82 _ _ _ ?_, get_put_same _ _ _, fun j hj => (get_put_ne _ _ hj).trans (g4 j hj)⟩
  unfold w82
  dsimp only [prims]
  have d1 : decide (((i : Nat) : Int) = ((i + 1 : Nat) : Int)) = false := decide_eq_false (by omega)
  rw [g_len_o elV.ty, oV_some', ha, oV_some', bin_eq, oV_some', d1, oI_false, oV_some', dl22 elV (by omega), oV_some', dl25 elV hi, oV_some', g1, oM_some, g_len_o elV.ty, oV_some', q31, oV_some', q0, oM_some]
  exact ⟨rfl, rfl⟩
end Go.Proofs.YtmfhmlhaofpeiaaGreatDoor.Ev
/- The program's remove. -/
namespace Go.Proofs.YtmfhmlhaofpeiaaGreatDoor.Ev
open Go Go.RowKit
set_option linter.unusedSimpArgs false
set_option linter.unusedVariables false
set_option maxRecDepth 100000

def Val.withL (v : Val) (l : List Val) : Val := .mk v.kind v.n v.s l v.fields
def Val.withF (v : Val) (f : List Fld) : Val := .mk v.kind v.n v.s v.list f
/-- The value without what is at a path that is there. -/
def rmV : Val → List XStep → Val
  | v, [] => v
  | v, [x] => if x.kind_ = 1 then v.withF (v.fields.eraseIdx (chI v x).toNat) else v.withL (v.list.eraseIdx (chI v x).toNat)
  | v, x :: y :: p => if x.kind_ = 1 then v.withF (v.fields.set (chI v x).toNat (.mk (v.fields.getD (chI v x).toNat default).name (rmV (v.fields.getD (chI v x).toNat default).v (y :: p))))
    else v.withL (v.list.set (chI v x).toNat (rmV (v.list.getD (chI v x).toNat default) (y :: p)))
theorem rmV_one (v : Val) (x : XStep) : rmV v [x] = if x.kind_ = 1 then v.withF (v.fields.eraseIdx (chI v x).toNat) else v.withL (v.list.eraseIdx (chI v x).toNat) := by rw [rmV]
theorem rmV_more (v : Val) (x y : XStep) (p : List XStep) : rmV v (x :: y :: p) = if x.kind_ = 1 then v.withF (v.fields.set (chI v x).toNat (.mk (v.fields.getD (chI v x).toNat default).name (rmV (v.fields.getD (chI v x).toNat default).v (y :: p))))
    else v.withL (v.list.set (chI v x).toNat (rmV (v.list.getD (chI v x).toNat default) (y :: p))) := by rw [rmV]
/-- An element of a row is replaced. -/
theorem rows_set {α : Type} [Inhabited α] {enc : α → AV} {z : Nat} (hE : ∀ x, (enc x).cells.length = z + 1) {l : List α} {i k : Nat} {c : List AV} {y : α} (hi : i < l.length) (hs : setN (enc (l.getD i default)).cells k c = some (enc y).cells) :
    setN (rowsOf enc l) (i * (z + 1) + k) c = some (rowsOf enc (l.set i y)) := by
  have e1 : (rowsOf enc (l.take i)).length = i * (z + 1) := by rw [rowsOf_len' hE, List.length_take]; congr 1; omega
  have e2 : l = l.take i ++ (l.getD i default :: l.drop (i + 1)) := by rw [← drop_getD hi, List.take_append_drop]
  have e3 : l.set i y = l.take i ++ (y :: l.drop (i + 1)) := by rw [List.set_eq_take_append_cons_drop, if_pos hi]
  conv => lhs; rw [e2]
  rw [e3, rowsOf_app, rowsOf_app, ← e1, setN_app, rowsOf, rowsOf, setN_left _ _ _ _ _ hs, Option.map_some]
theorem fz_copy2 {h : Tr AB} {v : Val} {A B : AV} {l : List Val} {f : List Fld} (hA : fz T0 h 3 A = some (.lst (l.map encV))) (hB : fz T0 h 3 B = some (.lst (f.map encF))) : fz T0 h 4 (.agg (cellsC v A B)) = some (encV (.mk v.kind v.n v.s l f)) := by
  rw [fz_agg 2]
  have m : mapO (fz T0 h 3) (cellsC v A B) = some (encV (.mk v.kind v.n v.s l f)).cells := by
    rw [cells_V]
    exact mapO_cons (fz_free 2 rfl) (mapO_cons (fz_free 2 rfl) (mapO_cons (fz_free 2 rfl) (mapO_cons hA (mapO_cons hB rfl))))
  rw [m, encV_eq]; rfl
theorem slS1 {p : List XStep} {h : Tr AB} (hn : 1 ≤ p.length) : evSliceH T0 h 22 (.lst (p.map encXStep)) (some (.i .i64 1)) none none = some (.lst ((p.drop 1).map encXStep)) := slS_suf (n := 1) (k := .i64) hn
theorem ia22_0 {x : XStep} {p : List XStep} : evIndexAddr T0 22 (.lst ((x :: p).map encXStep)) (.i .i64 0) = some (.iptr (encXStep x).cells) := by
  have := ia_22 (enc := encXStep) (l := x :: p) (k := .i64) (n := 0) (by decide) (by rw [List.length_cons]; omega) (fun _ => rfl)
  exact this
theorem mix_self {α : Type} {enc : α → AV} (l : List α) (j : Nat) : mixRow enc enc l j = rowsOf enc l := by unfold mixRow; rw [← rowsOf_app, List.take_append_drop]
theorem rowV_sl {α : Type} {l : List α} {id : Nat} (h : 0 < l.length) : rowV l id = .sl id 0 l.length none := by
  cases l with
  | nil => cases h
  | cons a l => rfl
theorem getV_cons_some {v : Val} {x : XStep} {p : List XStep} (h : (getV v (x :: p)).isSome = true) : 0 ≤ chI v x ∧ ∃ w, stepV v x = some w ∧ (getV w p).isSome = true ∧ (x.kind_ = 1 → w = (v.fields.getD (chI v x).toNat default).v ∧ (chI v x).toNat < v.fields.length) ∧ (x.kind_ ≠ 1 → w = v.list.getD (chI v x).toNat default ∧ (chI v x).toNat < v.list.length) := by
  cases hs : stepV v x with
  | none => rw [getV_none hs] at h; cases h
  | some w =>
    rw [getV_some hs] at h
    unfold stepV at hs
    split at hs
    · cases hs
    · rename_i h0
      have hb := chI_bnd (v := v) (x := x) (by omega)
      injection hs with hs
      refine ⟨by omega, w, rfl, h, fun k => ?_, fun k => ?_⟩
      · rw [if_pos k] at hs; have := hb.1 k; exact ⟨hs.symm, by omega⟩
      · rw [if_neg k] at hs; have := hb.2 k; exact ⟨hs.symm, by omega⟩
theorem c52 (k : Nat) : ∀ (p : List XStep) (v : Val), p.length ≤ k → smV v → p ≠ [] → (getV v p).isSome = true → k ≤ 100000 → R T0 52 [encV v, .lst (p.map encXStep)] (encV (rmV v p)) := by
  induction k with
  | zero => intro p v h _ hne; exact absurd (List.eq_nil_of_length_eq_zero (by omega)) hne
  | succ k ih =>
    intro p v hpl sm hne hg hk
    obtain ⟨x, p, rfl⟩ : ∃ x q, p = x :: q := by
      cases p with
      | nil => exact absurd rfl hne
      | cons x q => exact ⟨x, q, rfl⟩
    obtain ⟨-, ls, ll, lf, ol, of_⟩ := smV_facts sm
    obtain ⟨hc0, w, hsw, hgw, hw1, hw2⟩ := getV_cons_some hg
    obtain ⟨i, hi⟩ : ∃ i : Nat, chI v x = (i : Nat) := ⟨(chI v x).toNat, by omega⟩
    rw [hi] at hc0
    rw [hi, Int.toNat_natCast] at hw1 hw2
    have swm := stepV_sm sm hsw
    refine r52 _ _ (by rw [encV_eq]; rfl) (by rw [encV_eq]; rfl) ?_
    unfold w52
    dsimp only [prims]
    have e49' := fun (d : Nat) (σ : AS) (K : AV → AS → Prop) => e49 (x := x) sm (d := d) (σ := σ) (K := K)
    rw [hi] at e49'
    have h0 : ((Tr.nil.put 0 (some (.cells (encV v).cells 35 false))).put 1 (some (.cells [.i .i64 0, .i .i64 0, .s [], .nilz true, .nilz true] 35 false)) : Tr AB).get 0 = some (.cells (cellsC v (.lst (v.list.map encV)) (.lst (v.fields.map encF))) 35 false) := by
      rw [get_put_ne _ _ (by decide), get_put_same, cells_V]
    have h1 : ((Tr.nil.put 0 (some (.cells (encV v).cells 35 false))).put 1 (some (.cells [.i .i64 0, .i .i64 0, .s [], .nilz true, .nilz true] 35 false)) : Tr AB).get 1 = some (.cells [.i .i64 0, .i .i64 0, .s [], .nilz true, .nilz true] 35 false) := get_put_same _ _ _
    rw [oN_eq, oN_eq]
    dsimp only
    simp only [Nat.zero_add, Nat.reduceAdd, off_p]
    generalize ((Tr.nil.put 0 (some (.cells (encV v).cells 35 false))).put 1 (some (.cells [.i .i64 0, .i .i64 0, .s [], .nilz true, .nilz true] 35 false)) : Tr AB) = h at h0 h1 ⊢
    have q1 : evLoad T0 h 35 (.ptr 0 0) = some (encV v) := by rw [l5 h0, encV_eq]; rfl
    have q2 : evLoad T0 h 50 (.iptr (encXStep x).cells) = some (encXStep x) := by rw [load_i, ofc_encXStep]
    rw [q1, oV_some', ia22_0, oV_some', q2, oV_some', e49', oV_some', l3 h0, oV_some', a77 (by omega), oV_some', oT_rd1 rfl, l4 h0, oV_some', oT_rd rfl, a78 (by omega), oV_some', oT_rd rfl]
    have h2 : ((h.put 2 (rowB encV 35 v.list)).put 3 (rowB encF 52 v.fields)).get 0 = some (.cells (cellsC v (.lst (v.list.map encV)) (.lst (v.fields.map encF))) 35 false) := by
      rw [get_put_ne _ _ (by decide), get_put_ne _ _ (by decide)]; exact h0
    rw [t3 h2 rowV_cells rowV_leaf, oD_some, oT_wr rfl rfl, oV_some', oT_rd rfl, t4 (get_put_same _ _ _) rowV_cells rowV_leaf, oD_some, oT_wr rfl rfl, oS_eq]
    have b0 : ((((h.put 2 (rowB encV 35 v.list)).put 3 (rowB encF 52 v.fields)).put 0 (some (.cells (cellsC v (rowV v.list 2) (.lst (v.fields.map encF))) 35 false))).put 0 (some (.cells (cellsC v (rowV v.list 2) (rowV v.fields 3)) 35 false))).get 0 = some (.cells (cellsC v (rowV v.list 2) (rowV v.fields 3)) 35 false) := get_put_same _ _ _
    have b1 : ((((h.put 2 (rowB encV 35 v.list)).put 3 (rowB encF 52 v.fields)).put 0 (some (.cells (cellsC v (rowV v.list 2) (.lst (v.fields.map encF))) 35 false))).put 0 (some (.cells (cellsC v (rowV v.list 2) (rowV v.fields 3)) 35 false))).get 1 = some (.cells [.i .i64 0, .i .i64 0, .s [], .nilz true, .nilz true] 35 false) := by
      rw [get_put_ne _ _ (by decide), get_put_ne _ _ (by decide), get_put_ne _ _ (by decide), get_put_ne _ _ (by decide)]; exact h1
    have hr : RowAt encV encV 35 ((((h.put 2 (rowB encV 35 v.list)).put 3 (rowB encF 52 v.fields)).put 0 (some (.cells (cellsC v (rowV v.list 2) (.lst (v.fields.map encF))) 35 false))).put 0 (some (.cells (cellsC v (rowV v.list 2) (rowV v.fields 3)) 35 false))) v.list 2 0 :=
      RowAt.new (by rw [get_put_ne _ _ (by decide), get_put_ne _ _ (by decide), get_put_ne _ _ (by decide), get_put_same])
    have hf : RowAt encF encF 52 ((((h.put 2 (rowB encV 35 v.list)).put 3 (rowB encF 52 v.fields)).put 0 (some (.cells (cellsC v (rowV v.list 2) (.lst (v.fields.map encF))) 35 false))).put 0 (some (.cells (cellsC v (rowV v.list 2) (rowV v.fields 3)) 35 false))) v.fields 3 0 :=
      RowAt.new (by rw [get_put_ne _ _ (by decide), get_put_ne _ _ (by decide), get_put_same])
    generalize ((((h.put 2 (rowB encV 35 v.list)).put 3 (rowB encF 52 v.fields)).put 0 (some (.cells (cellsC v (rowV v.list 2) (.lst (v.fields.map encF))) 35 false))).put 0 (some (.cells (cellsC v (rowV v.list 2) (rowV v.fields 3)) 35 false))) = H at b0 b1 hr hf
    clear h2 h0 h1 q1 q2
    have zr : ∀ l : List Val, mixRow encV encV l 0 = rowsOf encV l := fun l => rfl
    have zf : ∀ l : List Fld, mixRow encF encF l 0 = rowsOf encF l := fun l => rfl
    have fin : ∀ (H' : Tr AB) (A B : AV) (l : List Val) (f : List Fld) (n : Nat), H'.get 0 = some (.cells (cellsC v A B) 35 false) → H'.get 1 = some (.cells [.i .i64 0, .i .i64 0, .s [], .nilz true, .nilz true] 35 false) → A.leaf = true → B.leaf = true →
        (∀ g : AB, fz T0 (H'.put 1 (some g)) 3 A = some (.lst (l.map encV))) → (∀ g : AB, fz T0 (H'.put 1 (some g)) 3 B = some (.lst (f.map encF))) →
        (oV 78 (evLoad T0 H' 35 (.ptr 0 0)) fun t78 => oH (evStore T0 H' 35 (.ptr 1 0) t78) ⟨H', n⟩ fun sx6 => oV 4 (evLoad T0 sx6.h 35 (.ptr 1 0)) fun t4x2 => oZ T0 sx6 t4x2 (fun r2 => r2 = encV (.mk v.kind v.n v.s l f))) := by
      intro H' A B l f n g0 g1 lA lB fA fB
      rw [l5 g0, oV_some', st_cc rfl g1 lA lB, oH_some, l5 (get_put_same _ _ _), oV_some']
      exact ⟨4, _, fz_copy2 (fA _) (fB _), rfl⟩
    have e1 : ((i : Nat) : Int) + 1 = ((i + 1 : Nat) : Int) := by omega
    have fo : ∀ H' : Tr AB, H'.get 2 = H.get 2 → fz T0 H' 3 (rowV v.list 2) = some (.lst (v.list.map encV)) := fun H' hq =>
      RowAt.fz elV clen_V elV.free elV.nrm (j := v.list.length) (fun hne => by rw [hq, hr hne, zr, mix_end (Nat.le_refl _)]) (Nat.le_refl _)
    have go : ∀ H' : Tr AB, H'.get 3 = H.get 3 → fz T0 H' 3 (rowV v.fields 3) = some (.lst (v.fields.map encF)) := fun H' hq =>
      RowAt.fz elF clen_F elF.free elF.nrm (j := v.fields.length) (fun hne => by rw [hq, hf hne, zf, mix_end (Nat.le_refl _)]) (Nat.le_refl _)
    cases p with
    | nil =>
      rw [rmV_one, hi, Int.toNat_natCast]
      by_cases k1 : x.kind_ = 1
      · obtain ⟨rfl, hil⟩ := hw1 k1
        rw [if_pos k1]
        have hpos : 0 < v.fields.length := by omega
        have hne : v.fields ≠ [] := fun q => by rw [q] at hpos; cases hpos
        have hg3 := hf hne
        rw [zf] at hg3
        obtain ⟨H2, C, r81, g1, g2⟩ := c81 (n := 4) hg3 hil (by omega)
        rw [← rowV_sl (id := 3) hpos] at r81
        have le : (v.fields.eraseIdx i).length = v.fields.length - 1 := by rw [List.length_eraseIdx]; simp [hil]
        have b2 := (g2 0 (by decide)).trans b0
        have b3 := (g2 1 (by decide)).trans b1
        simp (disch := first | first | omega | assumption | exact scell | exact clen_XStep | (simp only [clen_XStep]; omega) | exact scell | (simp only [List.length_append, List.length_cons, List.length_nil]; omega)) only [oV_some', oM_some, oH_some, oD_some, len_22, slen_map, List.length_cons, List.length_nil, Nat.zero_add, bin_eq, bin_add, wr64, decT, decF, ia22_0, off_i, off_p, load_i, fld_XStep_kind_, gtt_1, gtf_1, gft_1, gff_1, pick_t, pick_f, oI_true, oI_false, join2_eq, e1, l3 b0, l4 b0, r81.eq, s4 b2 (show (AV.sl 3 0 (v.fields.length - 1) none).cells = [AV.sl 3 0 (v.fields.length - 1) none] from rfl) rfl]
        refine fin _ _ _ v.list (v.fields.eraseIdx i) _ (get_put_same _ _ _) ((get_put_ne _ _ (by decide)).trans b3) rowV_leaf rfl (fun g => ?_) (fun g => ?_)
        · exact fo _ (by rw [get_put_ne _ _ (by decide), get_put_ne _ _ (by decide)]; exact g2 2 (by decide))
        · have := fz_rowp (cap := none) (g := true) (C := C) elF.rowT (RowE.mapE elF (v.fields.eraseIdx i)) (h := ((H2.put 0 (some (.cells (cellsC v (rowV v.list 2) (.sl 3 0 (v.fields.length - 1) none)) 35 false))).put 1 (some g))) (id := 3) (by rw [get_put_ne _ _ (by decide), get_put_ne _ _ (by decide), g1, rows_flat])
          rw [List.length_map, le] at this; exact this
      · obtain ⟨rfl, hil⟩ := hw2 k1
        rw [if_neg k1]
        have hpos : 0 < v.list.length := by omega
        have hne : v.list ≠ [] := fun q => by rw [q] at hpos; cases hpos
        have hg3 := hr hne
        rw [zr] at hg3
        obtain ⟨H2, C, r81, g1, g2⟩ := c82 (n := 4) hg3 hil (by omega)
        rw [← rowV_sl (id := 2) hpos] at r81
        have le : (v.list.eraseIdx i).length = v.list.length - 1 := by rw [List.length_eraseIdx]; simp [hil]
        have b2 := (g2 0 (by decide)).trans b0
        have b3 := (g2 1 (by decide)).trans b1
        simp (disch := first | first | omega | assumption | exact scell | exact clen_XStep | (simp only [clen_XStep]; omega) | exact scell | (simp only [List.length_append, List.length_cons, List.length_nil]; omega)) only [oV_some', oM_some, oH_some, oD_some, len_22, slen_map, List.length_cons, List.length_nil, Nat.zero_add, bin_eq, bin_add, wr64, decT, decF, ia22_0, off_i, off_p, load_i, fld_XStep_kind_, gtt_1, gtf_1, gft_1, gff_1, pick_t, pick_f, oI_true, oI_false, join2_eq, e1, l3 b0, l4 b0, r81.eq, s3 b2 (show (AV.sl 2 0 (v.list.length - 1) none).cells = [AV.sl 2 0 (v.list.length - 1) none] from rfl) rfl]
        refine fin _ _ _ (v.list.eraseIdx i) v.fields _ (get_put_same _ _ _) ((get_put_ne _ _ (by decide)).trans b3) rfl rowV_leaf (fun g => ?_) (fun g => ?_)
        · have := fz_rowp (cap := none) (g := true) (C := C) elV.rowT (RowE.mapE elV (v.list.eraseIdx i)) (h := ((H2.put 0 (some (.cells (cellsC v (.sl 2 0 (v.list.length - 1) none) (rowV v.fields 3)) 35 false))).put 1 (some g))) (id := 2) (by rw [get_put_ne _ _ (by decide), get_put_ne _ _ (by decide), g1, rows_flat])
          rw [List.length_map, le] at this; exact this
        · exact go _ (by rw [get_put_ne _ _ (by decide), get_put_ne _ _ (by decide)]; exact g2 3 (by decide))
    | cons y p =>
      rw [rmV_more, hi, Int.toNat_natCast]
      by_cases k1 : x.kind_ = 1
      · obtain ⟨rfl, hil⟩ := hw1 k1
        rw [if_pos k1]
        have hpos : 0 < v.fields.length := by omega
        have hne : v.fields ≠ [] := fun q => by rw [q] at hpos; cases hpos
        have hg3 := hf hne
        rw [zf] at hg3
        have er := fun (d : Nat) (σ : AS) (K : AV → AS → Prop) => (ih (y :: p) (v.fields.getD i default).v (by rw [List.length_cons] at hpl; omega) swm (by simp) hgw (by omega)).eq d σ K
        have ld : evLoad T0 H 35 (.ptr 3 (i * (5 + 1) + 1)) = some (encV (v.fields.getD i default).v) := by
          have hm := hf hne
          rw [zf] at hm
          have hd : (rowsOf encF v.fields).drop (i * (5 + 1)) = (encF (v.fields.getD i default)).cells ++ rowsOf encF (v.fields.drop (i + 1)) := by
            have := mix_drop (enc := encF) (encD := encF) clen_F hil
            rwa [mix_self] at this
          rw [load_p hm (by rw [rowsOf_len elF]; omega), ← List.drop_drop, hd, encF_eq]
          show ofCells T0 35 ((encV (v.fields.getD i default).v).cells ++ _) = _
          rw [encV_eq, ofc_35]; rfl
        have sn : setN (rowsOf encF v.fields) (i * (5 + 1) + 1) (encV (rmV (v.fields.getD i default).v (y :: p))).cells = some (rowsOf encF (v.fields.set i (Fld.mk (v.fields.getD i default).name (rmV (v.fields.getD i default).v (y :: p))))) := by
          refine rows_set clen_F hil ?_
          rw [encF_eq, encF_eq]
          show setN (AV.s _ :: _) 1 _ = _
          have : ∀ (x : AV) (a b : List AV), setN (x :: a) 1 b = (setN a 0 b).map (x :: ·) := fun x a b => by cases b <;> rfl
          rw [this, setN_full _ _ (by rw [clen_V, clen_V])]; rfl
        have sA : storeA T0 H 35 (.ptr 3 (i * (5 + 1) + 1)) (encV (rmV (v.fields.getD i default).v (y :: p))) = some (3, .cells (rowsOf encF (v.fields.set i (Fld.mk (v.fields.getD i default).name (rmV (v.fields.getD i default).v (y :: p))))) 52 true) := storeA_p sz_35 hg3 (clen_V _) (leafs_V _) sn
        simp (disch := first | first | omega | assumption | exact scell | exact clen_XStep | (simp only [clen_XStep]; omega) | exact scell | (simp only [List.length_append, List.length_cons, List.length_nil]; omega)) only [oV_some', oM_some, oH_some, oD_some, len_22, slen_map, List.length_cons, List.length_nil, Nat.zero_add, bin_eq, bin_add, wr64, decT, decF, ia22_0, off_i, off_p, load_i, fld_XStep_kind_, gtt_1, gtf_1, gft_1, gff_1, pick_t, pick_f, oI_true, oI_false, join2_eq, e1, l3 b0, l4 b0, rowV_ia elF.ty elF.sz hil, ld, slS1, List.drop_one, List.tail_cons, er, sA]
        rw [oT_wr rfl rfl, oS_eq]
        have rv : rowV v.fields 3 = rowV (v.fields.set i (Fld.mk (v.fields.getD i default).name (rmV (v.fields.getD i default).v (y :: p)))) 3 := by rw [rowV_sl hpos, rowV_sl (by rw [List.length_set]; exact hpos), List.length_set]
        refine fin _ _ _ v.list (v.fields.set i (Fld.mk (v.fields.getD i default).name (rmV (v.fields.getD i default).v (y :: p)))) _ ((get_put_ne _ _ (by decide)).trans b0) ((get_put_ne _ _ (by decide)).trans b1) rowV_leaf rowV_leaf (fun g => ?_) (fun g => ?_)
        · exact fo _ (by rw [get_put_ne _ _ (by decide), get_put_ne _ _ (by decide)])
        · rw [rv]
          exact RowAt.fz elF clen_F elF.free elF.nrm (j := (v.fields.set i (Fld.mk (v.fields.getD i default).name (rmV (v.fields.getD i default).v (y :: p)))).length) (fun _ => by rw [get_put_ne _ _ (by decide), get_put_same, mix_end (Nat.le_refl _)]) (Nat.le_refl _)
      · obtain ⟨rfl, hil⟩ := hw2 k1
        rw [if_neg k1]
        have hpos : 0 < v.list.length := by omega
        have hne : v.list ≠ [] := fun q => by rw [q] at hpos; cases hpos
        have hg3 := hr hne
        rw [zr] at hg3
        have er := fun (d : Nat) (σ : AS) (K : AV → AS → Prop) => (ih (y :: p) (v.list.getD i default) (by rw [List.length_cons] at hpl; omega) swm (by simp) hgw (by omega)).eq d σ K
        have ld : evLoad T0 H 35 (.ptr 2 (i * (4 + 1))) = some (encV (v.list.getD i default)) := by
          have := RowAt.load elV clen_V (j := i) (h := H) (l := v.list) (id := 2) (encD := encV) (fun hne => by rw [hr hne, zr, mix_self]) hil
          exact this
        have sn : setN (rowsOf encV v.list) (i * (4 + 1)) (encV (rmV (v.list.getD i default) (y :: p))).cells = some (rowsOf encV (v.list.set i (rmV (v.list.getD i default) (y :: p)))) :=
          rows_set (k := 0) clen_V hil (setN_full _ _ (by rw [clen_V, clen_V]))
        have sA : storeA T0 H 35 (.ptr 2 (i * (4 + 1))) (encV (rmV (v.list.getD i default) (y :: p))) = some (2, .cells (rowsOf encV (v.list.set i (rmV (v.list.getD i default) (y :: p)))) 35 true) := storeA_p sz_35 hg3 (clen_V _) (leafs_V _) sn
        simp (disch := first | first | omega | assumption | exact scell | exact clen_XStep | (simp only [clen_XStep]; omega) | exact scell | (simp only [List.length_append, List.length_cons, List.length_nil]; omega)) only [oV_some', oM_some, oH_some, oD_some, len_22, slen_map, List.length_cons, List.length_nil, Nat.zero_add, bin_eq, bin_add, wr64, decT, decF, ia22_0, off_i, off_p, load_i, fld_XStep_kind_, gtt_1, gtf_1, gft_1, gff_1, pick_t, pick_f, oI_true, oI_false, join2_eq, e1, l3 b0, l4 b0, rowV_ia elV.ty elV.sz hil, ld, slS1, List.drop_one, List.tail_cons, er, sA]
        rw [oT_wr rfl rfl, oS_eq]
        have rv : rowV v.list 2 = rowV (v.list.set i (rmV (v.list.getD i default) (y :: p))) 2 := by rw [rowV_sl hpos, rowV_sl (by rw [List.length_set]; exact hpos), List.length_set]
        refine fin _ _ _ (v.list.set i (rmV (v.list.getD i default) (y :: p))) v.fields _ ((get_put_ne _ _ (by decide)).trans b0) ((get_put_ne _ _ (by decide)).trans b1) rowV_leaf rowV_leaf (fun g => ?_) (fun g => ?_)
        · rw [rv]
          exact RowAt.fz elV clen_V elV.free elV.nrm (j := (v.list.set i (rmV (v.list.getD i default) (y :: p))).length) (fun _ => by rw [get_put_ne _ _ (by decide), get_put_same, mix_end (Nat.le_refl _)]) (Nat.le_refl _)
        · exact go _ (by rw [get_put_ne _ _ (by decide), get_put_ne _ _ (by decide)])
theorem e52 {p : List XStep} {v : Val} (hp : p.length ≤ 100000) (sm : smV v) (hne : p ≠ []) (hg : (getV v p).isSome = true) {d : Nat} {σ : AS} {K : AV → AS → Prop} : oC T0 d 52 [encV v, .lst (p.map encXStep)] σ K = K (encV (rmV v p)) σ := (c52 p.length p v (Nat.le_refl _) sm hne hg hp).eq d σ K
end Go.Proofs.YtmfhmlhaofpeiaaGreatDoor.Ev
/- The reference's cut; Remove; Alike of a value and itself; the law PathGets. -/
namespace Go.Proofs.YtmfhmlhaofpeiaaGreatDoor.Ev
open Go Go.RowKit
set_option linter.unusedSimpArgs false
set_option linter.unusedVariables false
set_option maxRecDepth 100000

theorem slF_pre {p : List Fld} {h : Tr AB} {n : Nat} (hn : n ≤ p.length) : evSliceH T0 h 33 (.lst (p.map encF)) none (some (.i .i64 (n : Nat))) none = some (.lst ((p.take n).map encF)) := slH_of (sl_pre elF.ty sz_52 clen_F hn)
theorem slF_suf {p : List Fld} {h : Tr AB} {n : Nat} (hn : n ≤ p.length) : evSliceH T0 h 33 (.lst (p.map encF)) (some (.i .i64 (n : Nat))) none none = some (.lst ((p.drop n).map encF)) := slH_of (sl_suf elF.ty sz_52 clen_F hn)
theorem slV_pre {p : List Val} {h : Tr AB} {n : Nat} (hn : n ≤ p.length) : evSliceH T0 h 32 (.lst (p.map encV)) none (some (.i .i64 (n : Nat))) none = some (.lst ((p.take n).map encV)) := slH_of (sl_pre elV.ty sz_35 clen_V hn)
theorem slV_suf {p : List Val} {h : Tr AB} {n : Nat} (hn : n ≤ p.length) : evSliceH T0 h 32 (.lst (p.map encV)) (some (.i .i64 (n : Nat))) none none = some (.lst ((p.drop n).map encV)) := slH_of (sl_suf elV.ty sz_35 clen_V hn)
theorem ice33_0 : evIce T0 33 0 [] = some (.nilz false) := by kernel_rfl
theorem ice32_0 : evIce T0 32 0 [] = some (.nilz false) := by kernel_rfl
theorem ice32_1 (v : Val) : evIce T0 32 1 [(0, encV v)] = some (.lst [encV v]) := by rw [encV_eq]; kernel_rfl
theorem ice33_1 (f : Fld) : evIce T0 33 1 [(0, encF f)] = some (.lst [encF f]) := by rw [encF_eq, encV_eq]; kernel_rfl
theorem bld52 (nm : List UInt8) (v : Val) : evBuild T0 52 [(0, .s nm), (1, encV v)] = some (encF (.mk nm v)) := by
  rw [show encF (.mk nm v) = .agg (.s nm :: (encV v).cells) from encF_eq _, encV_eq]; kernel_rfl
/-- Elements of a list behind others. -/
theorem appF {h : Tr AB} {n : Nat} {x : AV} {l l' : List Fld} (o : OwnW 52 2 h n (l.map encF) x) (hm : 2 ≤ n) (hl : l.length + l'.length ≤ 1000000) :
    ∃ x' σ', evAppend T0 ⟨h, n⟩ 33 33 x (.lst (l'.map encF)) = some (x', σ') ∧ OwnW 52 2 σ'.h σ'.n ((l ++ l').map encF) x' ∧ n ≤ σ'.n ∧ ∀ j, j < 2 → σ'.h.get j = h.get j := by
  have := appW (h := h) elF.rowT o hm (RowE.mapE elF l) (RowE.mapE elF l') (smallB (by decide) (by rw [List.length_map, List.length_map]; exact hl))
  rwa [← List.map_append] at this
theorem appVs {h : Tr AB} {n : Nat} {x : AV} {l l' : List Val} (o : OwnW 35 2 h n (l.map encV) x) (hm : 2 ≤ n) (hl : l.length + l'.length ≤ 1000000) :
    ∃ x' σ', evAppend T0 ⟨h, n⟩ 32 32 x (.lst (l'.map encV)) = some (x', σ') ∧ OwnW 35 2 σ'.h σ'.n ((l ++ l').map encV) x' ∧ n ≤ σ'.n ∧ ∀ j, j < 2 → σ'.h.get j = h.get j := by
  have := appW (h := h) elV.rowT o hm (RowE.mapE elV l) (RowE.mapE elV l') (smallB (by decide) (by rw [List.length_map, List.length_map]; exact hl))
  rwa [← List.map_append] at this
theorem fz_lst {h : Tr AB} (es : List AV) : fz T0 h 3 (.lst es) = some (.lst es) := fz_free (T := T0) (h := h) 2 (a := .lst es) rfl
theorem slS1c {x : XStep} {p : List XStep} {h : Tr AB} : evSliceH T0 h 22 (.lst ((x :: p).map encXStep)) (some (.i .i64 1)) none none = some (.lst (p.map encXStep)) := slS1 (p := x :: p) (by rw [List.length_cons]; omega)
theorem set_split {α : Type} {l : List α} {i : Nat} {y : α} (hi : i < l.length) : l.set i y = l.take i ++ (y :: l.drop (i + 1)) := by rw [List.set_eq_take_append_cons_drop, if_pos hi]
theorem c53 (k : Nat) : ∀ (p : List XStep) (v : Val), p.length ≤ k → smV v → p ≠ [] → (getV v p).isSome = true → (∀ x ∈ p, x.kind_ = 1 ∨ x.kind_ = 2 ∨ x.kind_ = 3) → k ≤ 100000 → R T0 53 [encV v, .lst (p.map encXStep)] (encV (rmV v p)) := by
  induction k with
  | zero => intro p v h _ hne; exact absurd (List.eq_nil_of_length_eq_zero (by omega)) hne
  | succ k ih =>
    intro p v hpl sm hne hg hkk hk
    obtain ⟨x, p, rfl⟩ : ∃ x q, p = x :: q := by
      cases p with
      | nil => exact absurd rfl hne
      | cons x q => exact ⟨x, q, rfl⟩
    obtain ⟨-, ls, ll, lf, ol, of_⟩ := smV_facts sm
    obtain ⟨hc0, w, hsw, hgw, hw1, hw2⟩ := getV_cons_some hg
    obtain ⟨i, hi⟩ : ∃ i : Nat, chI v x = (i : Nat) := ⟨(chI v x).toNat, by omega⟩
    rw [hi] at hc0
    rw [hi, Int.toNat_natCast] at hw1 hw2
    have swm := stepV_sm sm hsw
    refine r53 _ _ (by rw [encV_eq]; rfl) (by rw [encV_eq]; rfl) ?_
    unfold w53
    dsimp only [prims]
    have e51' := fun (d : Nat) (σ : AS) (K : AV → AS → Prop) => e51 (x := x) sm (hkk x (List.mem_cons_self ..)) (d := d) (σ := σ) (K := K)
    rw [hi] at e51'
    have b0 : ((Tr.nil.put 0 (some (.cells (encV v).cells 35 false))).put (0 + 1) (some (.cells [.i .i64 0, .i .i64 0, .s [], .nilz true, .nilz true] 35 false)) : Tr AB).get 0 = some (.cells (cellsC v (.lst (v.list.map encV)) (.lst (v.fields.map encF))) 35 false) := by
      rw [get_put_ne _ _ (by decide), get_put_same, cells_V]
    have b1 : ((Tr.nil.put 0 (some (.cells (encV v).cells 35 false))).put (0 + 1) (some (.cells [.i .i64 0, .i .i64 0, .s [], .nilz true, .nilz true] 35 false)) : Tr AB).get 1 = some (.cells [.i .i64 0, .i .i64 0, .s [], .nilz true, .nilz true] 35 false) := get_put_same _ _ _
    rw [oN_eq, oN_eq]
    dsimp only
    simp only [Nat.zero_add, Nat.reduceAdd, off_p]
    generalize ((Tr.nil.put 0 (some (.cells (encV v).cells 35 false))).put (0 + 1) (some (.cells [.i .i64 0, .i .i64 0, .s [], .nilz true, .nilz true] 35 false)) : Tr AB) = h at b0 b1 ⊢
    have q1 : evLoad T0 h 35 (.ptr 0 0) = some (encV v) := by rw [l5 b0, encV_eq]; rfl
    have q2 : evLoad T0 h 50 (.iptr (encXStep x).cells) = some (encXStep x) := by rw [load_i, ofc_encXStep]
    have e1 : ((i : Nat) : Int) + 1 = ((i + 1 : Nat) : Int) := by omega
    rw [q1, oV_some', ia22_0, oV_some', q2, oV_some', e51']
    by_cases k1 : x.kind_ = 1
    · obtain ⟨rfl, hil⟩ := hw1 k1
      obtain ⟨x2, σ1, a1, w1, n1, m1⟩ := appF (h := h) (n := 2) (x := .nilz false) (l := []) (l' := v.fields.take i) OwnW.none (by decide) (by rw [List.length_take]; simp only [List.length_nil]; omega)
      rw [List.nil_append] at w1
      have c0 := (m1 0 (by decide)).trans b0
      have c1 := (m1 1 (by decide)).trans b1
      have b2' := c0
      simp (disch := first | first | omega | assumption | exact scell | exact clen_XStep | (simp only [clen_XStep]; omega) | exact scell | (simp only [List.length_append, List.length_cons, List.length_nil]; omega)) only [oV_some', oH_some, oD_some, len_22, slen_map, List.length_cons, List.length_nil, Nat.zero_add, bin_eq, bin_gt, bin_add, wr64, decT, decF, ia22_0, off_i, off_p, load_i, fld_XStep_kind_, oI_true, oI_false, join4_eq, e1, ice33_0, l4 b0, slF_pre, a1, oM_some]
      cases p with
      | nil =>
        rw [rmV_one, hi, Int.toNat_natCast, if_pos k1]
        simp (disch := first | first | omega | assumption | exact scell | exact clen_XStep | (simp only [clen_XStep]; omega) | exact scell | (simp only [List.length_append, List.length_cons, List.length_nil]; omega)) only [oV_some', oH_some, oD_some, len_22, slen_map, List.length_cons, List.length_nil, Nat.zero_add, bin_eq, bin_gt, bin_add, wr64, decT, decF, ia22_0, off_i, off_p, load_i, fld_XStep_kind_, oI_true, oI_false, join4_eq, e1]
        have : True := trivial
        · have σ2 : AS := σ1
          clear σ2
          obtain ⟨σ2, hσ⟩ : ∃ s, s = σ1 := ⟨_, rfl⟩
          rw [← hσ] at w1 n1 m1 c0 c1 b2' ⊢
          have w2 := w1
          have n2 := n1
          obtain ⟨x3, σ3, a3, w3, n3, k3⟩ := appF (h := σ2.h) (n := σ2.n) w2 (by omega) (l' := v.fields.drop (i + 1)) (by rw [List.length_drop]; first | (rw [List.length_take]; omega) | (rw [List.length_append, List.length_take]; simp only [List.length_cons, List.length_nil]; omega))
          have c0 := (k3 0 (by decide)).trans c0
          have c1 := (k3 1 (by decide)).trans c1
          rw [show (⟨σ2.h, σ2.n⟩ : AS) = σ2 from rfl] at a3
          simp (disch := first | first | omega | assumption | exact scell | exact clen_XStep | (simp only [clen_XStep]; omega) | exact scell | (simp only [List.length_append, List.length_cons, List.length_nil]; omega)) only [oV_some', oH_some, oD_some, len_22, slen_map, List.length_cons, List.length_nil, Nat.zero_add, bin_eq, bin_gt, bin_add, wr64, decT, decF, ia22_0, off_i, off_p, load_i, fld_XStep_kind_, oI_true, oI_false, join4_eq, e1, l4 b2', slF_suf, a3, oM_some, s4 c0 w3.cells w3.leaf]
          rw [l5 (get_put_same _ _ _), oV_some', st_cc rfl ((get_put_ne _ _ (by decide)).trans c1) rfl w3.leaf, oH_some, l5 (get_put_same _ _ _), oV_some']
          have f1 := fzW (h := ((σ3.h.put 0 (some (.cells (cellsC v (.lst (v.list.map encV)) x3) 35 false))).put 1 (some (.cells (cellsC v (.lst (v.list.map encV)) x3) 35 false)))) elF.rowT (RowE.mapE elF _) (w3.same (n' := σ3.n) (fun j h1 h2 => by rw [get_put_ne _ _ (by omega), get_put_ne _ _ (by omega)]) (Nat.le_refl _))
          rw [← List.eraseIdx_eq_take_drop_succ] at f1
          exact ⟨4, _, fz_copy2 (fz_lst _) f1, rfl⟩
      | cons y p =>
        rw [rmV_more, hi, Int.toNat_natCast, if_pos k1]
        have er := fun (d : Nat) (σ : AS) (K : AV → AS → Prop) => (ih (y :: p) (v.fields.getD i default).v (by rw [List.length_cons] at hpl; omega) swm (by simp) hgw (fun q hq => hkk q (List.mem_cons_of_mem _ hq)) (by omega)).eq d σ K
        have ia := ia_33 (enc := encF) (l := v.fields) (k := .i64) (n := (i : Nat)) (by omega) (by omega) clen_F
        rw [Int.toNat_natCast] at ia
        obtain ⟨x4, σ2, a2, w2, n2, m2⟩ := appF (h := σ1.h) (n := σ1.n) w1 n1 (l' := [(Fld.mk (v.fields.getD i default).name (rmV (v.fields.getD i default).v (y :: p)))]) (by rw [List.length_take]; simp only [List.length_cons, List.length_nil]; omega)
        rw [show (⟨σ1.h, σ1.n⟩ : AS) = σ1 from rfl, List.map_cons, List.map_nil] at a2
        have d1 : 1 ≤ (encF (v.fields.getD i default)).cells.length := by rw [clen_F]; decide
        simp (disch := first | first | omega | assumption | exact scell | exact clen_XStep | (simp only [clen_XStep]; omega) | exact scell | (simp only [List.length_append, List.length_cons, List.length_nil]; omega)) only [oV_some', oH_some, oD_some, len_22, slen_map, List.length_cons, List.length_nil, Nat.zero_add, bin_eq, bin_gt, bin_add, wr64, decT, decF, ia22_0, off_i, off_p, load_i, fld_XStep_kind_, oI_true, oI_false, join4_eq, e1, l4 c0, ia, slS1c, er, ice33_1, a2, oM_some, fld_F_name, fld_F_v, ofc_encF, bld52]
        have c0 := (m2 0 (by decide)).trans c0
        have c1 := (m2 1 (by decide)).trans c1
        have b2' := c0
        · have n2 : 2 ≤ σ2.n := by omega
          obtain ⟨x3, σ3, a3, w3, n3, k3⟩ := appF (h := σ2.h) (n := σ2.n) w2 (by omega) (l' := v.fields.drop (i + 1)) (by rw [List.length_drop]; first | (rw [List.length_take]; omega) | (rw [List.length_append, List.length_take]; simp only [List.length_cons, List.length_nil]; omega))
          have c0 := (k3 0 (by decide)).trans c0
          have c1 := (k3 1 (by decide)).trans c1
          rw [show (⟨σ2.h, σ2.n⟩ : AS) = σ2 from rfl] at a3
          simp (disch := first | first | omega | assumption | exact scell | exact clen_XStep | (simp only [clen_XStep]; omega) | exact scell | (simp only [List.length_append, List.length_cons, List.length_nil]; omega)) only [oV_some', oH_some, oD_some, len_22, slen_map, List.length_cons, List.length_nil, Nat.zero_add, bin_eq, bin_gt, bin_add, wr64, decT, decF, ia22_0, off_i, off_p, load_i, fld_XStep_kind_, oI_true, oI_false, join4_eq, e1, l4 b2', slF_suf, a3, oM_some, s4 c0 w3.cells w3.leaf]
          rw [l5 (get_put_same _ _ _), oV_some', st_cc rfl ((get_put_ne _ _ (by decide)).trans c1) rfl w3.leaf, oH_some, l5 (get_put_same _ _ _), oV_some']
          have f1 := fzW (h := ((σ3.h.put 0 (some (.cells (cellsC v (.lst (v.list.map encV)) x3) 35 false))).put 1 (some (.cells (cellsC v (.lst (v.list.map encV)) x3) 35 false)))) elF.rowT (RowE.mapE elF _) (w3.same (n' := σ3.n) (fun j h1 h2 => by rw [get_put_ne _ _ (by omega), get_put_ne _ _ (by omega)]) (Nat.le_refl _))
          rw [List.append_assoc, List.singleton_append, ← set_split hil] at f1
          exact ⟨4, _, fz_copy2 (fz_lst _) f1, rfl⟩
    · obtain ⟨rfl, hil⟩ := hw2 k1
      obtain ⟨x2, σ1, a1, w1, n1, m1⟩ := appVs (h := h) (n := 2) (x := .nilz false) (l := []) (l' := v.list.take i) OwnW.none (by decide) (by rw [List.length_take]; simp only [List.length_nil]; omega)
      rw [List.nil_append] at w1
      have c0 := (m1 0 (by decide)).trans b0
      have c1 := (m1 1 (by decide)).trans b1
      have b2' := c0
      simp (disch := first | first | omega | assumption | exact scell | exact clen_XStep | (simp only [clen_XStep]; omega) | exact scell | (simp only [List.length_append, List.length_cons, List.length_nil]; omega)) only [oV_some', oH_some, oD_some, len_22, slen_map, List.length_cons, List.length_nil, Nat.zero_add, bin_eq, bin_gt, bin_add, wr64, decT, decF, ia22_0, off_i, off_p, load_i, fld_XStep_kind_, oI_true, oI_false, join4_eq, e1, ice32_0, l3 b0, slV_pre, a1, oM_some]
      cases p with
      | nil =>
        rw [rmV_one, hi, Int.toNat_natCast, if_neg k1]
        simp (disch := first | first | omega | assumption | exact scell | exact clen_XStep | (simp only [clen_XStep]; omega) | exact scell | (simp only [List.length_append, List.length_cons, List.length_nil]; omega)) only [oV_some', oH_some, oD_some, len_22, slen_map, List.length_cons, List.length_nil, Nat.zero_add, bin_eq, bin_gt, bin_add, wr64, decT, decF, ia22_0, off_i, off_p, load_i, fld_XStep_kind_, oI_true, oI_false, join4_eq, e1]
        have : True := trivial
        · have σ2 : AS := σ1
          clear σ2
          obtain ⟨σ2, hσ⟩ : ∃ s, s = σ1 := ⟨_, rfl⟩
          rw [← hσ] at w1 n1 m1 c0 c1 b2' ⊢
          have w2 := w1
          have n2 := n1
          obtain ⟨x3, σ3, a3, w3, n3, k3⟩ := appVs (h := σ2.h) (n := σ2.n) w2 (by omega) (l' := v.list.drop (i + 1)) (by rw [List.length_drop]; first | (rw [List.length_take]; omega) | (rw [List.length_append, List.length_take]; simp only [List.length_cons, List.length_nil]; omega))
          have c0 := (k3 0 (by decide)).trans c0
          have c1 := (k3 1 (by decide)).trans c1
          rw [show (⟨σ2.h, σ2.n⟩ : AS) = σ2 from rfl] at a3
          simp (disch := first | first | omega | assumption | exact scell | exact clen_XStep | (simp only [clen_XStep]; omega) | exact scell | (simp only [List.length_append, List.length_cons, List.length_nil]; omega)) only [oV_some', oH_some, oD_some, len_22, slen_map, List.length_cons, List.length_nil, Nat.zero_add, bin_eq, bin_gt, bin_add, wr64, decT, decF, ia22_0, off_i, off_p, load_i, fld_XStep_kind_, oI_true, oI_false, join4_eq, e1, l3 b2', slV_suf, a3, oM_some, s3 c0 w3.cells w3.leaf]
          rw [l5 (get_put_same _ _ _), oV_some', st_cc rfl ((get_put_ne _ _ (by decide)).trans c1) w3.leaf rfl, oH_some, l5 (get_put_same _ _ _), oV_some']
          have f1 := fzW (h := ((σ3.h.put 0 (some (.cells (cellsC v x3 (.lst (v.fields.map encF))) 35 false))).put 1 (some (.cells (cellsC v x3 (.lst (v.fields.map encF))) 35 false)))) elV.rowT (RowE.mapE elV _) (w3.same (n' := σ3.n) (fun j h1 h2 => by rw [get_put_ne _ _ (by omega), get_put_ne _ _ (by omega)]) (Nat.le_refl _))
          rw [← List.eraseIdx_eq_take_drop_succ] at f1
          exact ⟨4, _, fz_copy2 f1 (fz_lst _), rfl⟩
      | cons y p =>
        rw [rmV_more, hi, Int.toNat_natCast, if_neg k1]
        have er := fun (d : Nat) (σ : AS) (K : AV → AS → Prop) => (ih (y :: p) (v.list.getD i default) (by rw [List.length_cons] at hpl; omega) swm (by simp) hgw (fun q hq => hkk q (List.mem_cons_of_mem _ hq)) (by omega)).eq d σ K
        have ia := ia_32 (enc := encV) (l := v.list) (k := .i64) (n := (i : Nat)) (by omega) (by omega) clen_V
        rw [Int.toNat_natCast] at ia
        obtain ⟨x4, σ2, a2, w2, n2, m2⟩ := appVs (h := σ1.h) (n := σ1.n) w1 n1 (l' := [(rmV (v.list.getD i default) (y :: p))]) (by rw [List.length_take]; simp only [List.length_cons, List.length_nil]; omega)
        rw [show (⟨σ1.h, σ1.n⟩ : AS) = σ1 from rfl, List.map_cons, List.map_nil] at a2
        have d1 : 1 ≤ (encF (v.fields.getD i default)).cells.length := by rw [clen_F]; decide
        simp (disch := first | first | omega | assumption | exact scell | exact clen_XStep | (simp only [clen_XStep]; omega) | exact scell | (simp only [List.length_append, List.length_cons, List.length_nil]; omega)) only [oV_some', oH_some, oD_some, len_22, slen_map, List.length_cons, List.length_nil, Nat.zero_add, bin_eq, bin_gt, bin_add, wr64, decT, decF, ia22_0, off_i, off_p, load_i, fld_XStep_kind_, oI_true, oI_false, join4_eq, e1, l3 c0, ia, slS1c, er, ice32_1, a2, oM_some, ofc_encV]
        have c0 := (m2 0 (by decide)).trans c0
        have c1 := (m2 1 (by decide)).trans c1
        have b2' := c0
        · have n2 : 2 ≤ σ2.n := by omega
          obtain ⟨x3, σ3, a3, w3, n3, k3⟩ := appVs (h := σ2.h) (n := σ2.n) w2 (by omega) (l' := v.list.drop (i + 1)) (by rw [List.length_drop]; first | (rw [List.length_take]; omega) | (rw [List.length_append, List.length_take]; simp only [List.length_cons, List.length_nil]; omega))
          have c0 := (k3 0 (by decide)).trans c0
          have c1 := (k3 1 (by decide)).trans c1
          rw [show (⟨σ2.h, σ2.n⟩ : AS) = σ2 from rfl] at a3
          simp (disch := first | first | omega | assumption | exact scell | exact clen_XStep | (simp only [clen_XStep]; omega) | exact scell | (simp only [List.length_append, List.length_cons, List.length_nil]; omega)) only [oV_some', oH_some, oD_some, len_22, slen_map, List.length_cons, List.length_nil, Nat.zero_add, bin_eq, bin_gt, bin_add, wr64, decT, decF, ia22_0, off_i, off_p, load_i, fld_XStep_kind_, oI_true, oI_false, join4_eq, e1, l3 b2', slV_suf, a3, oM_some, s3 c0 w3.cells w3.leaf]
          rw [l5 (get_put_same _ _ _), oV_some', st_cc rfl ((get_put_ne _ _ (by decide)).trans c1) w3.leaf rfl, oH_some, l5 (get_put_same _ _ _), oV_some']
          have f1 := fzW (h := ((σ3.h.put 0 (some (.cells (cellsC v x3 (.lst (v.fields.map encF))) 35 false))).put 1 (some (.cells (cellsC v x3 (.lst (v.fields.map encF))) 35 false)))) elV.rowT (RowE.mapE elV _) (w3.same (n' := σ3.n) (fun j h1 h2 => by rw [get_put_ne _ _ (by omega), get_put_ne _ _ (by omega)]) (Nat.le_refl _))
          rw [List.append_assoc, List.singleton_append, ← set_split hil] at f1
          exact ⟨4, _, fz_copy2 f1 (fz_lst _), rfl⟩
theorem e53 {p : List XStep} {v : Val} (hp : p.length ≤ 100000) (sm : smV v) (hne : p ≠ []) (hg : (getV v p).isSome = true) (hk : ∀ x ∈ p, x.kind_ = 1 ∨ x.kind_ = 2 ∨ x.kind_ = 3) {d : Nat} {σ : AS} {K : AV → AS → Prop} : oC T0 d 53 [encV v, .lst (p.map encXStep)] σ K = K (encV (rmV v p)) σ := (c53 p.length p v (Nat.le_refl _) sm hne hg hk hp).eq d σ K
end Go.Proofs.YtmfhmlhaofpeiaaGreatDoor.Ev
/- Remove; Alike of a value and itself; the law PathGets. -/
namespace Go.Proofs.YtmfhmlhaofpeiaaGreatDoor.Ev
open Go Go.RowKit
set_option linter.unusedSimpArgs false
set_option linter.unusedVariables false
set_option maxRecDepth 100000

theorem sm_default : smV default := .mk (okI (by decide) (by decide)) (okI (by decide) (by decide)) (by decide) (by decide) (by decide) (fun x h => by cases h) (fun x h => by cases h)
theorem mem_eraseIdx {α : Type} {l : List α} {i : Nat} {x : α} (h : x ∈ l.eraseIdx i) : x ∈ l := List.mem_of_mem_eraseIdx h
theorem rmV_sm : ∀ (k : Nat) (p : List XStep) (v : Val), p.length ≤ k → smV v → (getV v p).isSome = true → smV (rmV v p) := by
  intro k
  induction k with
  | zero =>
    intro p v hp sm _
    obtain rfl : p = [] := List.eq_nil_of_length_eq_zero (by omega)
    rw [rmV]; exact sm
  | succ k ih =>
    intro p v hp sm hg
    obtain ⟨hw, h1, h2, h3, h4, h5⟩ := smV_facts sm
    cases p with
    | nil => rw [rmV]; exact sm
    | cons x p =>
      obtain ⟨hc0, w, hsw, hgw, hw1, hw2⟩ := getV_cons_some hg
      have swm := stepV_sm sm hsw
      cases p with
      | nil =>
        rw [rmV_one]
        split
        · exact .of hw h1 h2 (Nat.le_trans (List.length_eraseIdx_le ..) h3) h4 (fun f hf => h5 f (mem_eraseIdx hf))
        · exact .of hw h1 (Nat.le_trans (List.length_eraseIdx_le ..) h2) h3 (fun f hf => h4 f (mem_eraseIdx hf)) h5
      | cons y p =>
        have := ih (y :: p) w (by rw [List.length_cons] at hp; omega) swm hgw
        rw [rmV_more]
        split
        · rename_i k1
          obtain ⟨e, hl⟩ := hw1 k1
          rw [← e]
          refine .of hw h1 h2 (by show (v.fields.set _ _).length ≤ _; rw [List.length_set]; exact h3) h4 (fun f hf => ?_)
          rcases List.mem_or_eq_of_mem_set hf with hf | rfl
          · exact h5 f hf
          · exact .of (smF_facts (h5 _ (getD_mem hl))).1 this
        · rename_i k1
          obtain ⟨e, hl⟩ := hw2 k1
          rw [← e]
          refine .of hw h1 (by show (v.list.set _ _).length ≤ _; rw [List.length_set]; exact h2) h3 (fun f hf => ?_) h5
          rcases List.mem_or_eq_of_mem_set hf with hf | rfl
          · exact h4 f hf
          · exact this
def rmO (v : Val) (p : List XStep) : Option Val := if pathB p = true ∧ (getV v p).isSome = true ∧ p ≠ [] then some (rmV v p) else none
theorem rmO_sm {v : Val} {p : List XStep} (sm : smV v) : ∀ w, rmO v p = some w → smV w := by
  intro w h
  unfold rmO at h
  split at h
  · rename_i hh; injection h with h; subst h; exact rmV_sm p.length p v (Nat.le_refl _) sm hh.2.1
  · cases h
theorem gtR_form (o : Option Val) (hs : ∀ w, o = some w → smV w) : ∃ w b, gtR o = .tup [encV w, .b b] ∧ smV w := by
  cases o with
  | none => exact ⟨default, false, rfl, sm_default⟩
  | some w => exact ⟨w, true, rfl, hs w rfl⟩
theorem getR_cases (v : Val) (p : List XStep) : (∃ w, getR v p = .tup [encV w, .b true] ∧ pathB p = true ∧ getV v p = some w) ∨ (getR v p = .tup [encV default, .b false] ∧ ¬ (pathB p = true ∧ (getV v p).isSome = true)) := by
  unfold getR
  by_cases hb : pathB p = true
  · rw [if_pos hb]
    cases hg : getV v p with
    | none => exact .inr ⟨rfl, fun q => by cases q.2⟩
    | some w => exact .inl ⟨w, rfl, hb, rfl⟩
  · rw [if_neg hb]; exact .inr ⟨rfl, fun q => hb q.1⟩
theorem st1v {t : Tr AB} {A B : Option AB} (w : Val) : evStore T0 (((t.put 1 (some (.cells [.i .i64 0, .i .i64 0, .s [], .nilz true, .nilz true] 35 false))).put 2 A).put 2 B) 35 (.ptr 1 0) (encV w) = some ((((t.put 1 (some (.cells [.i .i64 0, .i .i64 0, .s [], .nilz true, .nilz true] 35 false))).put 2 A).put 2 B).put 1 (some (.cells (encV w).cells 35 false))) :=
  st_cv rfl (by rw [get_put_ne _ _ (by decide), get_put_ne _ _ (by decide), get_put_same]) w
theorem st1z {t : Tr AB} {A B : Option AB} : evStore T0 (((t.put 1 (some (.cells [.i .i64 0, .i .i64 0, .s [], .nilz true, .nilz true] 35 false))).put 2 A).put 2 B) 35 (.ptr 1 0) (.agg [.i .i64 0, .i .i64 0, .s [], .nilz true, .nilz true]) = some ((((t.put 1 (some (.cells [.i .i64 0, .i .i64 0, .s [], .nilz true, .nilz true] 35 false))).put 2 A).put 2 B).put 1 (some (.cells [.i .i64 0, .i .i64 0, .s [], .nilz true, .nilz true] 35 false))) :=
  st_cz rfl (by rw [get_put_ne _ _ (by decide), get_put_ne _ _ (by decide), get_put_same])
theorem c25 (v : Val) (p : List XStep) (sm : smV v) (hp : p.length ≤ 100000) (ox : ∀ x ∈ p, okXStep x) : R T0 25 [encV v, .lst (p.map encXStep)] (gtR (rmO v p)) := by
  refine r25 _ _ (by rw [encV_eq]; rfl) (by rw [encV_eq]; rfl) ?_
  unfold w25
  dsimp only [prims]
  have e := fun (d : Nat) (σ : AS) (K : AV → AS → Prop) => e23 sm (show p.length ≤ 140737488351232 by omega) ox (d := d) (σ := σ) (K := K)
  rcases getR_cases v p with ⟨w, hr, hb, hg⟩ | ⟨hr, hn⟩
  · rw [hr] at e
    by_cases hne : p = []
    · rw [show rmO v p = none by unfold rmO; rw [if_neg (fun q => q.2.2 hne)]]
      subst hne
      rw [List.map_nil] at e
      simp (disch := first | first | assumption | exact clen_V | exact clen_F | (simp only [clen_V, clen_F]; omega) | omega | assumption | exact scell | exact clen_XStep | (simp only [clen_XStep]; omega) | exact scell | (simp only [List.length_append, List.length_cons, List.length_nil]; omega)) only [Nat.zero_add, oV_some', oN_eq, oM_some, oH_some, oD_some, oE_some, oS_eq, oT_true, oI_true, oI_false, pick_t, pick_f, un_not, oI_not, decide_not, toNat_sub1, toNat_add1, decide_true, decide_false, not_true, not_false_eq_true, Bool.not_true, Bool.not_false, Bool.not_not, oZ_b, oZ_i, oZ_s, oZ_l, slen_map, wr64, Int.toNat_natCast, Int.toNat_zero, ne_eq, bin_eq, b_snil, beq_4, load_get, loadB_some, get_put_same, get_put_ne, ofc_s, load_i, ext_t, List.getElem?_cons_zero, List.getElem?_cons_succ, ofc_encXStep, ofc0_encXStep, st_XStep, fld_XStep_kind_, fld_XStep_name_, fld_XStep_index_, fld_XStep_value_, prt_XStep_kind_, prt_XStep_name_, prt_XStep_index_, prt_XStep_value_, len_22, gtt_3, gff_3, gtf_3, gft_3, gvv_3, gnt_3, gnf_3, fld_V_kind, fld_V_n, fld_V_s, fld_V_list, fld_V_fields, ofc_encV, ofc0_encV, fld_F_name, fld_F_v, ofc_encF, ofc0_encF, st_V0, st_F0, len_32, len_33, ia_32, ia_33, Nat.reduceAdd, e, ex0, ex1, slen_map, decT, decF, bld35, st1z, ofz, ozz, gtR, List.map_nil, List.length_nil]
    · have hpos : 0 < p.length := by cases p with | nil => exact absurd rfl hne | cons a l => rw [List.length_cons]; omega
      rw [show rmO v p = some (rmV v p) by unfold rmO; rw [if_pos ⟨hb, by rw [hg]; rfl, hne⟩]]
      have e52' := fun (d : Nat) (σ : AS) (K : AV → AS → Prop) => e52 hp sm hne (by rw [hg]; rfl) (d := d) (σ := σ) (K := K)
      simp (disch := first | first | assumption | exact clen_V | exact clen_F | (simp only [clen_V, clen_F]; omega) | omega | assumption | exact scell | exact clen_XStep | (simp only [clen_XStep]; omega) | exact scell | (simp only [List.length_append, List.length_cons, List.length_nil]; omega)) only [Nat.zero_add, oV_some', oN_eq, oM_some, oH_some, oD_some, oE_some, oS_eq, oT_true, oI_true, oI_false, pick_t, pick_f, un_not, oI_not, decide_not, toNat_sub1, toNat_add1, decide_true, decide_false, not_true, not_false_eq_true, Bool.not_true, Bool.not_false, Bool.not_not, oZ_b, oZ_i, oZ_s, oZ_l, slen_map, wr64, Int.toNat_natCast, Int.toNat_zero, ne_eq, bin_eq, b_snil, beq_4, load_get, loadB_some, get_put_same, get_put_ne, ofc_s, load_i, ext_t, List.getElem?_cons_zero, List.getElem?_cons_succ, ofc_encXStep, ofc0_encXStep, st_XStep, fld_XStep_kind_, fld_XStep_name_, fld_XStep_index_, fld_XStep_value_, prt_XStep_kind_, prt_XStep_name_, prt_XStep_index_, prt_XStep_value_, len_22, gtt_3, gff_3, gtf_3, gft_3, gvv_3, gnt_3, gnf_3, fld_V_kind, fld_V_n, fld_V_s, fld_V_list, fld_V_fields, ofc_encV, ofc0_encV, fld_F_name, fld_F_v, ofc_encF, ofc0_encF, st_V0, st_F0, len_32, len_33, ia_32, ia_33, Nat.reduceAdd, e, ex0, ex1, slen_map, decT, decF, e50 sm, e52', st1v, ozvb, gtR]
  · rw [hr] at e
    rw [show rmO v p = none by unfold rmO; rw [if_neg (fun q => hn ⟨q.1, q.2.1⟩)]]
    simp (disch := first | first | assumption | exact clen_V | exact clen_F | (simp only [clen_V, clen_F]; omega) | omega | assumption | exact scell | exact clen_XStep | (simp only [clen_XStep]; omega) | exact scell | (simp only [List.length_append, List.length_cons, List.length_nil]; omega)) only [Nat.zero_add, oV_some', oN_eq, oM_some, oH_some, oD_some, oE_some, oS_eq, oT_true, oI_true, oI_false, pick_t, pick_f, un_not, oI_not, decide_not, toNat_sub1, toNat_add1, decide_true, decide_false, not_true, not_false_eq_true, Bool.not_true, Bool.not_false, Bool.not_not, oZ_b, oZ_i, oZ_s, oZ_l, slen_map, wr64, Int.toNat_natCast, Int.toNat_zero, ne_eq, bin_eq, b_snil, beq_4, load_get, loadB_some, get_put_same, get_put_ne, ofc_s, load_i, ext_t, List.getElem?_cons_zero, List.getElem?_cons_succ, ofc_encXStep, ofc0_encXStep, st_XStep, fld_XStep_kind_, fld_XStep_name_, fld_XStep_index_, fld_XStep_value_, prt_XStep_kind_, prt_XStep_name_, prt_XStep_index_, prt_XStep_value_, len_22, gtt_3, gff_3, gtf_3, gft_3, gvv_3, gnt_3, gnf_3, fld_V_kind, fld_V_n, fld_V_s, fld_V_list, fld_V_fields, ofc_encV, ofc0_encV, fld_F_name, fld_F_v, ofc_encF, ofc0_encF, st_V0, st_F0, len_32, len_33, ia_32, ia_33, Nat.reduceAdd, e, ex0, ex1, slen_map, decT, decF, bld35, st1z, ofz, ozz, gtR]
theorem e25 {v : Val} {p : List XStep} (sm : smV v) (hp : p.length ≤ 100000) (ox : ∀ x ∈ p, okXStep x) {d : Nat} {σ : AS} {K : AV → AS → Prop} : oC T0 d 25 [encV v, .lst (p.map encXStep)] σ K = K (gtR (rmO v p)) σ := (c25 v p sm hp ox).eq d σ K
theorem c26 (v : Val) (p : List XStep) (sm : smV v) (hp : p.length ≤ 100000) (ox : ∀ x ∈ p, okXStep x) : R T0 26 [encV v, .lst (p.map encXStep)] (gtR (rmO v p)) := by
  refine r26 _ _ (by rw [encV_eq]; rfl) (by rw [encV_eq]; rfl) ?_
  unfold w26
  dsimp only [prims]
  have e := fun (d : Nat) (σ : AS) (K : AV → AS → Prop) => e24 sm (show p.length ≤ 140737488351232 by omega) ox (d := d) (σ := σ) (K := K)
  rcases getR_cases v p with ⟨w, hr, hb, hg⟩ | ⟨hr, hn⟩
  · rw [hr] at e
    by_cases hne : p = []
    · rw [show rmO v p = none by unfold rmO; rw [if_neg (fun q => q.2.2 hne)]]
      subst hne
      rw [List.map_nil] at e
      simp (disch := first | first | assumption | exact clen_V | exact clen_F | (simp only [clen_V, clen_F]; omega) | omega | assumption | exact scell | exact clen_XStep | (simp only [clen_XStep]; omega) | exact scell | (simp only [List.length_append, List.length_cons, List.length_nil]; omega)) only [Nat.zero_add, oV_some', oN_eq, oM_some, oH_some, oD_some, oE_some, oS_eq, oT_true, oI_true, oI_false, pick_t, pick_f, un_not, oI_not, decide_not, toNat_sub1, toNat_add1, decide_true, decide_false, not_true, not_false_eq_true, Bool.not_true, Bool.not_false, Bool.not_not, oZ_b, oZ_i, oZ_s, oZ_l, slen_map, wr64, Int.toNat_natCast, Int.toNat_zero, ne_eq, bin_eq, b_snil, beq_4, load_get, loadB_some, get_put_same, get_put_ne, ofc_s, load_i, ext_t, List.getElem?_cons_zero, List.getElem?_cons_succ, ofc_encXStep, ofc0_encXStep, st_XStep, fld_XStep_kind_, fld_XStep_name_, fld_XStep_index_, fld_XStep_value_, prt_XStep_kind_, prt_XStep_name_, prt_XStep_index_, prt_XStep_value_, len_22, gtt_3, gff_3, gtf_3, gft_3, gvv_3, gnt_3, gnf_3, fld_V_kind, fld_V_n, fld_V_s, fld_V_list, fld_V_fields, ofc_encV, ofc0_encV, fld_F_name, fld_F_v, ofc_encF, ofc0_encF, st_V0, st_F0, len_32, len_33, ia_32, ia_33, Nat.reduceAdd, e, ex0, ex1, slen_map, decT, decF, bld35, st1z, ofz, ozz, gtR, List.map_nil, List.length_nil]
    · have hpos : 0 < p.length := by cases p with | nil => exact absurd rfl hne | cons a l => rw [List.length_cons]; omega
      rw [show rmO v p = some (rmV v p) by unfold rmO; rw [if_pos ⟨hb, by rw [hg]; rfl, hne⟩]]
      have e53' := fun (d : Nat) (σ : AS) (K : AV → AS → Prop) => e53 hp sm hne (by rw [hg]; rfl) (fun x hx => (step_facts ((path_facts hb).2 x hx)).1) (d := d) (σ := σ) (K := K)
      simp (disch := first | first | assumption | exact clen_V | exact clen_F | (simp only [clen_V, clen_F]; omega) | omega | assumption | exact scell | exact clen_XStep | (simp only [clen_XStep]; omega) | exact scell | (simp only [List.length_append, List.length_cons, List.length_nil]; omega)) only [Nat.zero_add, oV_some', oN_eq, oM_some, oH_some, oD_some, oE_some, oS_eq, oT_true, oI_true, oI_false, pick_t, pick_f, un_not, oI_not, decide_not, toNat_sub1, toNat_add1, decide_true, decide_false, not_true, not_false_eq_true, Bool.not_true, Bool.not_false, Bool.not_not, oZ_b, oZ_i, oZ_s, oZ_l, slen_map, wr64, Int.toNat_natCast, Int.toNat_zero, ne_eq, bin_eq, b_snil, beq_4, load_get, loadB_some, get_put_same, get_put_ne, ofc_s, load_i, ext_t, List.getElem?_cons_zero, List.getElem?_cons_succ, ofc_encXStep, ofc0_encXStep, st_XStep, fld_XStep_kind_, fld_XStep_name_, fld_XStep_index_, fld_XStep_value_, prt_XStep_kind_, prt_XStep_name_, prt_XStep_index_, prt_XStep_value_, len_22, gtt_3, gff_3, gtf_3, gft_3, gvv_3, gnt_3, gnf_3, fld_V_kind, fld_V_n, fld_V_s, fld_V_list, fld_V_fields, ofc_encV, ofc0_encV, fld_F_name, fld_F_v, ofc_encF, ofc0_encF, st_V0, st_F0, len_32, len_33, ia_32, ia_33, Nat.reduceAdd, e, ex0, ex1, slen_map, decT, decF, e53', st1v, ozvb, gtR]
  · rw [hr] at e
    rw [show rmO v p = none by unfold rmO; rw [if_neg (fun q => hn ⟨q.1, q.2.1⟩)]]
    simp (disch := first | first | assumption | exact clen_V | exact clen_F | (simp only [clen_V, clen_F]; omega) | omega | assumption | exact scell | exact clen_XStep | (simp only [clen_XStep]; omega) | exact scell | (simp only [List.length_append, List.length_cons, List.length_nil]; omega)) only [Nat.zero_add, oV_some', oN_eq, oM_some, oH_some, oD_some, oE_some, oS_eq, oT_true, oI_true, oI_false, pick_t, pick_f, un_not, oI_not, decide_not, toNat_sub1, toNat_add1, decide_true, decide_false, not_true, not_false_eq_true, Bool.not_true, Bool.not_false, Bool.not_not, oZ_b, oZ_i, oZ_s, oZ_l, slen_map, wr64, Int.toNat_natCast, Int.toNat_zero, ne_eq, bin_eq, b_snil, beq_4, load_get, loadB_some, get_put_same, get_put_ne, ofc_s, load_i, ext_t, List.getElem?_cons_zero, List.getElem?_cons_succ, ofc_encXStep, ofc0_encXStep, st_XStep, fld_XStep_kind_, fld_XStep_name_, fld_XStep_index_, fld_XStep_value_, prt_XStep_kind_, prt_XStep_name_, prt_XStep_index_, prt_XStep_value_, len_22, gtt_3, gff_3, gtf_3, gft_3, gvv_3, gnt_3, gnf_3, fld_V_kind, fld_V_n, fld_V_s, fld_V_list, fld_V_fields, ofc_encV, ofc0_encV, fld_F_name, fld_F_v, ofc_encF, ofc0_encF, st_V0, st_F0, len_32, len_33, ia_32, ia_33, Nat.reduceAdd, e, ex0, ex1, slen_map, decT, decF, bld35, st1z, ofz, ozz, gtR]
theorem e26 {v : Val} {p : List XStep} (sm : smV v) (hp : p.length ≤ 100000) (ox : ∀ x ∈ p, okXStep x) {d : Nat} {σ : AS} {K : AV → AS → Prop} : oC T0 d 26 [encV v, .lst (p.map encXStep)] σ K = K (gtR (rmO v p)) σ := (c26 v p sm hp ox).eq d σ K
theorem c27 (k : Nat) : ∀ v : Val, SizeOf.sizeOf v ≤ k → okV v → R T0 27 [encV v, encV v] (.b true) := by
  induction k with
  | zero => intro v h; obtain ⟨_, _, _, _, _⟩ := v; simp only [Val.mk.sizeOf_spec] at h; omega
  | succ k ih =>
    intro v hsz ov
    obtain ⟨ls, ll, lf, ol, of_⟩ := okV_list ov
    refine r27 _ _ (by rw [encV_eq]; rfl) (by rw [encV_eq]; rfl) ?_
    unfold w27
    dsimp only [prims]
    have nf : ∀ a : Int, decide (a ≠ a) = false := fun a => decide_eq_false (fun h => h rfl)
    have sf : ∀ (a : List UInt8) (c : Bool), evBin T0 .neq 9 c (.s a) (.s a) = some (.b false) := fun a c => by rw [bin_sne]; simp
    simp (disch := first | first | assumption | exact clen_V | exact clen_F | (simp only [clen_V, clen_F]; omega) | omega | assumption | exact scell | exact clen_XStep | (simp only [clen_XStep]; omega) | exact scell | (simp only [List.length_append, List.length_cons, List.length_nil]; omega)) only [Nat.zero_add, oV_some', oN_eq, oM_some, oH_some, oD_some, oE_some, oS_eq, oT_true, oI_true, oI_false, pick_t, pick_f, un_not, oI_not, decide_not, toNat_sub1, toNat_add1, decide_true, decide_false, not_true, not_false_eq_true, Bool.not_true, Bool.not_false, Bool.not_not, oZ_b, oZ_i, oZ_s, oZ_l, slen_map, wr64, Int.toNat_natCast, Int.toNat_zero, ne_eq, bin_lt, bin_slt, bin_ne, b_snnil, bne_4, bin_add, load_get, loadB_some, get_put_same, get_put_ne, ofc_s, load_i, off_i, off_p, ofc_encXStep, ofc0_encXStep, st_XStep, fld_XStep_kind_, fld_XStep_name_, fld_XStep_index_, fld_XStep_value_, prt_XStep_kind_, prt_XStep_name_, prt_XStep_index_, prt_XStep_value_, len_32, len_33, ia_32, ia_33, gtt_5, gff_5, gtf_5, gft_5, gvv_5, gnt_5, gnf_5, gtt_7, gff_7, gtf_7, gft_7, gvv_7, gnt_7, gnf_7, gtt_14, gff_14, gtf_14, gft_14, gvv_14, gnt_14, gnf_14, fld_V_kind, fld_V_n, fld_V_s, fld_V_list, fld_V_fields, ofc_encV, ofc0_encV, fld_F_name, fld_F_v, ofc_encF, ofc0_encF, st_V0, st_F0, len_32, len_33, ia_32, ia_33, Nat.reduceAdd, nf, sf, decF, decT]
    refine loop3 (X := Nat) (fun _ => .ptr 1 0) (fun _ => .ptr 0 0) (fun j => .i .i64 (j : Nat)) (fun j σ => j ≤ v.list.length ∧ σ.h.get 0 = some (.cells (encV v).cells 35 false) ∧ σ.h.get 1 = some (.cells (encV v).cells 35 false)) (fun j => v.list.length - j) ?_ 0 _ ⟨Nat.zero_le _, (get_put_ne _ _ (by decide)).trans (get_put_same _ _ _), get_put_same _ _ _⟩
    rintro R j σ ⟨hj, g0, g1⟩ hR
    by_cases hj' : j < v.list.length
    · have hm := getD_mem hj'
      have er := fun (d : Nat) (σ : AS) (K : AV → AS → Prop) => (ih _ (by have := size_list v hm; omega) (ol _ hm)).eq d σ K
      simp (disch := first | first | assumption | exact clen_V | exact clen_F | (simp only [clen_V, clen_F]; omega) | omega | assumption | exact scell | exact clen_XStep | (simp only [clen_XStep]; omega) | exact scell | (simp only [List.length_append, List.length_cons, List.length_nil]; omega)) only [Nat.zero_add, oV_some', oN_eq, oM_some, oH_some, oD_some, oE_some, oS_eq, oT_true, oI_true, oI_false, pick_t, pick_f, un_not, oI_not, decide_not, toNat_sub1, toNat_add1, decide_true, decide_false, not_true, not_false_eq_true, Bool.not_true, Bool.not_false, Bool.not_not, oZ_b, oZ_i, oZ_s, oZ_l, slen_map, wr64, Int.toNat_natCast, Int.toNat_zero, ne_eq, bin_lt, bin_slt, bin_ne, b_snnil, bne_4, bin_add, load_get, loadB_some, get_put_same, get_put_ne, ofc_s, load_i, off_i, off_p, ofc_encXStep, ofc0_encXStep, st_XStep, fld_XStep_kind_, fld_XStep_name_, fld_XStep_index_, fld_XStep_value_, prt_XStep_kind_, prt_XStep_name_, prt_XStep_index_, prt_XStep_value_, len_32, len_33, ia_32, ia_33, gtt_5, gff_5, gtf_5, gft_5, gvv_5, gnt_5, gnf_5, gtt_7, gff_7, gtf_7, gft_7, gvv_7, gnt_7, gnf_7, gtt_14, gff_14, gtf_14, gft_14, gvv_14, gnt_14, gnf_14, fld_V_kind, fld_V_n, fld_V_s, fld_V_list, fld_V_fields, ofc_encV, ofc0_encV, fld_F_name, fld_F_v, ofc_encF, ofc0_encF, st_V0, st_F0, len_32, len_33, ia_32, ia_33, Int.toNat_natCast, g0, g1, er, decT]
      exact hR (j + 1) _ ⟨by omega, g0, g1⟩ (by omega)
    · simp (disch := first | first | assumption | exact clen_V | exact clen_F | (simp only [clen_V, clen_F]; omega) | omega | assumption | exact scell | exact clen_XStep | (simp only [clen_XStep]; omega) | exact scell | (simp only [List.length_append, List.length_cons, List.length_nil]; omega)) only [Nat.zero_add, oV_some', oN_eq, oM_some, oH_some, oD_some, oE_some, oS_eq, oT_true, oI_true, oI_false, pick_t, pick_f, un_not, oI_not, decide_not, toNat_sub1, toNat_add1, decide_true, decide_false, not_true, not_false_eq_true, Bool.not_true, Bool.not_false, Bool.not_not, oZ_b, oZ_i, oZ_s, oZ_l, slen_map, wr64, Int.toNat_natCast, Int.toNat_zero, ne_eq, bin_lt, bin_slt, bin_ne, b_snnil, bne_4, bin_add, load_get, loadB_some, get_put_same, get_put_ne, ofc_s, load_i, off_i, off_p, ofc_encXStep, ofc0_encXStep, st_XStep, fld_XStep_kind_, fld_XStep_name_, fld_XStep_index_, fld_XStep_value_, prt_XStep_kind_, prt_XStep_name_, prt_XStep_index_, prt_XStep_value_, len_32, len_33, ia_32, ia_33, gtt_5, gff_5, gtf_5, gft_5, gvv_5, gnt_5, gnf_5, gtt_7, gff_7, gtf_7, gft_7, gvv_7, gnt_7, gnf_7, gtt_14, gff_14, gtf_14, gft_14, gvv_14, gnt_14, gnf_14, fld_V_kind, fld_V_n, fld_V_s, fld_V_list, fld_V_fields, ofc_encV, ofc0_encV, fld_F_name, fld_F_v, ofc_encF, ofc0_encF, st_V0, st_F0, len_32, len_33, ia_32, ia_33, Int.toNat_natCast, g0, g1, decF]
      clear hR
      refine loop3 (X := Nat) (fun _ => .ptr 1 0) (fun _ => .ptr 0 0) (fun j => .i .i64 (j : Nat)) (fun j σ => j ≤ v.fields.length ∧ σ.h.get 0 = some (.cells (encV v).cells 35 false) ∧ σ.h.get 1 = some (.cells (encV v).cells 35 false)) (fun j => v.fields.length - j) ?_ 0 _ ⟨Nat.zero_le _, g0, g1⟩
      clear g0 g1
      rintro R j σ ⟨hj, g0, g1⟩ hR
      by_cases hj' : j < v.fields.length
      · have hm := getD_mem hj'
        have er := fun (d : Nat) (σ : AS) (K : AV → AS → Prop) => (ih _ (by have := size_fields v hm; omega) (okF_v (of_ _ hm)).2).eq d σ K
        simp (disch := first | first | assumption | exact clen_V | exact clen_F | (simp only [clen_V, clen_F]; omega) | omega | assumption | exact scell | exact clen_XStep | (simp only [clen_XStep]; omega) | exact scell | (simp only [List.length_append, List.length_cons, List.length_nil]; omega)) only [Nat.zero_add, oV_some', oN_eq, oM_some, oH_some, oD_some, oE_some, oS_eq, oT_true, oI_true, oI_false, pick_t, pick_f, un_not, oI_not, decide_not, toNat_sub1, toNat_add1, decide_true, decide_false, not_true, not_false_eq_true, Bool.not_true, Bool.not_false, Bool.not_not, oZ_b, oZ_i, oZ_s, oZ_l, slen_map, wr64, Int.toNat_natCast, Int.toNat_zero, ne_eq, bin_lt, bin_slt, bin_ne, b_snnil, bne_4, bin_add, load_get, loadB_some, get_put_same, get_put_ne, ofc_s, load_i, off_i, off_p, ofc_encXStep, ofc0_encXStep, st_XStep, fld_XStep_kind_, fld_XStep_name_, fld_XStep_index_, fld_XStep_value_, prt_XStep_kind_, prt_XStep_name_, prt_XStep_index_, prt_XStep_value_, len_32, len_33, ia_32, ia_33, gtt_5, gff_5, gtf_5, gft_5, gvv_5, gnt_5, gnf_5, gtt_7, gff_7, gtf_7, gft_7, gvv_7, gnt_7, gnf_7, gtt_14, gff_14, gtf_14, gft_14, gvv_14, gnt_14, gnf_14, fld_V_kind, fld_V_n, fld_V_s, fld_V_list, fld_V_fields, ofc_encV, ofc0_encV, fld_F_name, fld_F_v, ofc_encF, ofc0_encF, st_V0, st_F0, len_32, len_33, ia_32, ia_33, Int.toNat_natCast, g0, g1, er, sf, decT]
        exact hR (j + 1) _ ⟨by omega, g0, g1⟩ (by omega)
      · simp (disch := first | first | assumption | exact clen_V | exact clen_F | (simp only [clen_V, clen_F]; omega) | omega | assumption | exact scell | exact clen_XStep | (simp only [clen_XStep]; omega) | exact scell | (simp only [List.length_append, List.length_cons, List.length_nil]; omega)) only [Nat.zero_add, oV_some', oN_eq, oM_some, oH_some, oD_some, oE_some, oS_eq, oT_true, oI_true, oI_false, pick_t, pick_f, un_not, oI_not, decide_not, toNat_sub1, toNat_add1, decide_true, decide_false, not_true, not_false_eq_true, Bool.not_true, Bool.not_false, Bool.not_not, oZ_b, oZ_i, oZ_s, oZ_l, slen_map, wr64, Int.toNat_natCast, Int.toNat_zero, ne_eq, bin_lt, bin_slt, bin_ne, b_snnil, bne_4, bin_add, load_get, loadB_some, get_put_same, get_put_ne, ofc_s, load_i, off_i, off_p, ofc_encXStep, ofc0_encXStep, st_XStep, fld_XStep_kind_, fld_XStep_name_, fld_XStep_index_, fld_XStep_value_, prt_XStep_kind_, prt_XStep_name_, prt_XStep_index_, prt_XStep_value_, len_32, len_33, ia_32, ia_33, gtt_5, gff_5, gtf_5, gft_5, gvv_5, gnt_5, gnf_5, gtt_7, gff_7, gtf_7, gft_7, gvv_7, gnt_7, gnf_7, gtt_14, gff_14, gtf_14, gft_14, gvv_14, gnt_14, gnf_14, fld_V_kind, fld_V_n, fld_V_s, fld_V_list, fld_V_fields, ofc_encV, ofc0_encV, fld_F_name, fld_F_v, ofc_encF, ofc0_encF, st_V0, st_F0, len_32, len_33, ia_32, ia_33, Int.toNat_natCast, g0, g1, decF]
theorem e27 {v : Val} (ov : okV v) {d : Nat} {σ : AS} {K : AV → AS → Prop} : oC T0 d 27 [encV v, encV v] σ K = K (.b true) σ := (c27 _ v (Nat.le_refl _) ov).eq d σ K
theorem fewB_len {p : List XStep} (h : fewB p = true) : p.length ≤ 20 := by
  unfold fewB at h; simp only [Bool.and_eq_true, decide_eq_true_eq] at h; exact h.1
theorem law_PathGets (v : Val) (p : List XStep) (ov : okV v) (op : p.length * 48 ≤ 140737488351232 ∧ ∀ x ∈ p, okXStep x) : R T0 6 [encV v, .lst (p.map encXStep)] (.b true) := by
  have hp : p.length ≤ 140737488351232 := by have := op.1; omega
  have eb : ∀ b : Bool, evBin T0 .eql 4 false (.b b) (.b b) = some (.b true) := fun b => by rw [bin_beq (by kernel_rfl)]; simp
  refine r6 _ _ (by rw [encV_eq]; rfl) (by rw [encV_eq]; rfl) ?_
  unfold w6
  dsimp only [prims]
  cases h1 : fewV v
  · simp (disch := first | first | assumption | exact clen_V | exact clen_F | (simp only [clen_V, clen_F]; omega) | omega | assumption | exact scell | exact clen_XStep | (simp only [clen_XStep]; omega) | exact scell | (simp only [List.length_append, List.length_cons, List.length_nil]; omega)) only [Nat.zero_add, oV_some', oN_eq, oM_some, oH_some, oD_some, oE_some, oS_eq, oT_true, oI_true, oI_false, pick_t, pick_f, un_not, oI_not, decide_not, toNat_sub1, toNat_add1, decide_true, decide_false, not_true, not_false_eq_true, Bool.not_true, Bool.not_false, Bool.not_not, oZ_b, oZ_i, oZ_s, oZ_l, slen_map, wr64, Int.toNat_natCast, Int.toNat_zero, ne_eq, bin_lt, bin_slt, bin_le, b_sle, bin_gt, b_sgt, bin_ge, bin_sge, bin_eq, b_snil, beq_4, bin_ne, b_snnil, bne_4, bin_add, bin_sub, min5, load_get, loadB_some, get_put_same, get_put_ne, ofc_s, load_i, off_i, off_p, part_a, nilc_p, nilc_i, nilc_f, ext_t, List.getElem?_cons_zero, List.getElem?_cons_succ, len_9, idx_9, ofc_encXStep, ofc0_encXStep, st_XStep, fld_XStep_kind_, fld_XStep_name_, fld_XStep_index_, fld_XStep_value_, prt_XStep_kind_, prt_XStep_name_, prt_XStep_index_, prt_XStep_value_, join0_eq, join1_eq, join2_eq, join3_eq, join4_eq, join5_eq, join6_eq, join7_eq, join8_eq, gtt_0, gff_0, gtf_0, gft_0, gvv_0, gnt_0, gnf_0, gtt_1, gff_1, gtf_1, gft_1, gvv_1, gnt_1, gnf_1, gtt_2, gff_2, gtf_2, gft_2, gvv_2, gnt_2, gnf_2, gtt_3, gff_3, gtf_3, gft_3, gvv_3, gnt_3, gnf_3, gtt_4, gff_4, gtf_4, gft_4, gvv_4, gnt_4, gnf_4, gtt_5, gff_5, gtf_5, gft_5, gvv_5, gnt_5, gnf_5, gtt_6, gff_6, gtf_6, gft_6, gvv_6, gnt_6, gnf_6, gtt_7, gff_7, gtf_7, gft_7, gvv_7, gnt_7, gnf_7, gtt_8, gff_8, gtf_8, gft_8, gvv_8, gnt_8, gnf_8, gtt_9, gff_9, gtf_9, gft_9, gvv_9, gnt_9, gnf_9, gtt_10, gff_10, gtf_10, gft_10, gvv_10, gnt_10, gnf_10, gtt_11, gff_11, gtf_11, gft_11, gvv_11, gnt_11, gnf_11, gtt_12, gff_12, gtf_12, gft_12, gvv_12, gnt_12, gnf_12, gtt_13, gff_13, gtf_13, gft_13, gvv_13, gnt_13, gnf_13, gtt_14, gff_14, gtf_14, gft_14, gvv_14, gnt_14, gnf_14, gtt_15, gff_15, gtf_15, gft_15, gvv_15, gnt_15, gnf_15, fld_V_kind, fld_V_n, fld_V_s, fld_V_list, fld_V_fields, ofc_encV, ofc0_encV, fld_F_name, fld_F_v, ofc_encF, ofc0_encF, st_V0, st_F0, len_32, len_33, ia_32, ia_33, Nat.reduceAdd, e22 ov, h1, e12]
  · cases h2 : fewB p
    · simp (disch := first | first | assumption | exact clen_V | exact clen_F | (simp only [clen_V, clen_F]; omega) | omega | assumption | exact scell | exact clen_XStep | (simp only [clen_XStep]; omega) | exact scell | (simp only [List.length_append, List.length_cons, List.length_nil]; omega)) only [Nat.zero_add, oV_some', oN_eq, oM_some, oH_some, oD_some, oE_some, oS_eq, oT_true, oI_true, oI_false, pick_t, pick_f, un_not, oI_not, decide_not, toNat_sub1, toNat_add1, decide_true, decide_false, not_true, not_false_eq_true, Bool.not_true, Bool.not_false, Bool.not_not, oZ_b, oZ_i, oZ_s, oZ_l, slen_map, wr64, Int.toNat_natCast, Int.toNat_zero, ne_eq, bin_lt, bin_slt, bin_le, b_sle, bin_gt, b_sgt, bin_ge, bin_sge, bin_eq, b_snil, beq_4, bin_ne, b_snnil, bne_4, bin_add, bin_sub, min5, load_get, loadB_some, get_put_same, get_put_ne, ofc_s, load_i, off_i, off_p, part_a, nilc_p, nilc_i, nilc_f, ext_t, List.getElem?_cons_zero, List.getElem?_cons_succ, len_9, idx_9, ofc_encXStep, ofc0_encXStep, st_XStep, fld_XStep_kind_, fld_XStep_name_, fld_XStep_index_, fld_XStep_value_, prt_XStep_kind_, prt_XStep_name_, prt_XStep_index_, prt_XStep_value_, join0_eq, join1_eq, join2_eq, join3_eq, join4_eq, join5_eq, join6_eq, join7_eq, join8_eq, gtt_0, gff_0, gtf_0, gft_0, gvv_0, gnt_0, gnf_0, gtt_1, gff_1, gtf_1, gft_1, gvv_1, gnt_1, gnf_1, gtt_2, gff_2, gtf_2, gft_2, gvv_2, gnt_2, gnf_2, gtt_3, gff_3, gtf_3, gft_3, gvv_3, gnt_3, gnf_3, gtt_4, gff_4, gtf_4, gft_4, gvv_4, gnt_4, gnf_4, gtt_5, gff_5, gtf_5, gft_5, gvv_5, gnt_5, gnf_5, gtt_6, gff_6, gtf_6, gft_6, gvv_6, gnt_6, gnf_6, gtt_7, gff_7, gtf_7, gft_7, gvv_7, gnt_7, gnf_7, gtt_8, gff_8, gtf_8, gft_8, gvv_8, gnt_8, gnf_8, gtt_9, gff_9, gtf_9, gft_9, gvv_9, gnt_9, gnf_9, gtt_10, gff_10, gtf_10, gft_10, gvv_10, gnt_10, gnf_10, gtt_11, gff_11, gtf_11, gft_11, gvv_11, gnt_11, gnf_11, gtt_12, gff_12, gtf_12, gft_12, gvv_12, gnt_12, gnf_12, gtt_13, gff_13, gtf_13, gft_13, gvv_13, gnt_13, gnf_13, gtt_14, gff_14, gtf_14, gft_14, gvv_14, gnt_14, gnf_14, gtt_15, gff_15, gtf_15, gft_15, gvv_15, gnt_15, gnf_15, fld_V_kind, fld_V_n, fld_V_s, fld_V_list, fld_V_fields, ofc_encV, ofc0_encV, fld_F_name, fld_F_v, ofc_encF, ofc0_encF, st_V0, st_F0, len_32, len_33, ia_32, ia_33, Nat.reduceAdd, e22 ov, h1, e11 hp op.2, h2, e12]
    · have sm := fewV_sm ov h1
      have hl := fewB_len h2
      have g23 := fun (d : Nat) (σ : AS) (K : AV → AS → Prop) => e23 sm hp op.2 (d := d) (σ := σ) (K := K)
      have g24 := fun (d : Nat) (σ : AS) (K : AV → AS → Prop) => e24 sm hp op.2 (d := d) (σ := σ) (K := K)
      have g25 := fun (d : Nat) (σ : AS) (K : AV → AS → Prop) => e25 sm (show p.length ≤ 100000 by omega) op.2 (d := d) (σ := σ) (K := K)
      have g26 := fun (d : Nat) (σ : AS) (K : AV → AS → Prop) => e26 sm (show p.length ≤ 100000 by omega) op.2 (d := d) (σ := σ) (K := K)
      obtain ⟨w, b, hw, sw⟩ := gtR_form (if pathB p = true then getV v p else none) (fun w h => by
        split at h
        · exact getV_sm sm h
        · cases h)
      obtain ⟨u, c, hu, su⟩ := gtR_form (rmO v p) (rmO_sm sm)
      rw [show getR v p = gtR (if pathB p = true then getV v p else none) from rfl, hw] at g23 g24
      rw [hu] at g25 g26
      simp (config := { maxSteps := 2000000 }) (disch := first | first | assumption | exact clen_V | exact clen_F | (simp only [clen_V, clen_F]; omega) | omega | assumption | exact scell | exact clen_XStep | (simp only [clen_XStep]; omega) | exact scell | (simp only [List.length_append, List.length_cons, List.length_nil]; omega)) only [Nat.zero_add, oV_some', oN_eq, oM_some, oH_some, oD_some, oE_some, oS_eq, oT_true, oI_true, oI_false, pick_t, pick_f, un_not, oI_not, decide_not, toNat_sub1, toNat_add1, decide_true, decide_false, not_true, not_false_eq_true, Bool.not_true, Bool.not_false, Bool.not_not, oZ_b, oZ_i, oZ_s, oZ_l, slen_map, wr64, Int.toNat_natCast, Int.toNat_zero, ne_eq, bin_lt, bin_slt, bin_le, b_sle, bin_gt, b_sgt, bin_ge, bin_sge, bin_eq, b_snil, beq_4, bin_ne, b_snnil, bne_4, bin_add, bin_sub, min5, load_get, loadB_some, get_put_same, get_put_ne, ofc_s, load_i, off_i, off_p, part_a, nilc_p, nilc_i, nilc_f, ext_t, List.getElem?_cons_zero, List.getElem?_cons_succ, len_9, idx_9, ofc_encXStep, ofc0_encXStep, st_XStep, fld_XStep_kind_, fld_XStep_name_, fld_XStep_index_, fld_XStep_value_, prt_XStep_kind_, prt_XStep_name_, prt_XStep_index_, prt_XStep_value_, join0_eq, join1_eq, join2_eq, join3_eq, join4_eq, join5_eq, join6_eq, join7_eq, join8_eq, gtt_0, gff_0, gtf_0, gft_0, gvv_0, gnt_0, gnf_0, gtt_1, gff_1, gtf_1, gft_1, gvv_1, gnt_1, gnf_1, gtt_2, gff_2, gtf_2, gft_2, gvv_2, gnt_2, gnf_2, gtt_3, gff_3, gtf_3, gft_3, gvv_3, gnt_3, gnf_3, gtt_4, gff_4, gtf_4, gft_4, gvv_4, gnt_4, gnf_4, gtt_5, gff_5, gtf_5, gft_5, gvv_5, gnt_5, gnf_5, gtt_6, gff_6, gtf_6, gft_6, gvv_6, gnt_6, gnf_6, gtt_7, gff_7, gtf_7, gft_7, gvv_7, gnt_7, gnf_7, gtt_8, gff_8, gtf_8, gft_8, gvv_8, gnt_8, gnf_8, gtt_9, gff_9, gtf_9, gft_9, gvv_9, gnt_9, gnf_9, gtt_10, gff_10, gtf_10, gft_10, gvv_10, gnt_10, gnf_10, gtt_11, gff_11, gtf_11, gft_11, gvv_11, gnt_11, gnf_11, gtt_12, gff_12, gtf_12, gft_12, gvv_12, gnt_12, gnf_12, gtt_13, gff_13, gtf_13, gft_13, gvv_13, gnt_13, gnf_13, gtt_14, gff_14, gtf_14, gft_14, gvv_14, gnt_14, gnf_14, gtt_15, gff_15, gtf_15, gft_15, gvv_15, gnt_15, gnf_15, fld_V_kind, fld_V_n, fld_V_s, fld_V_list, fld_V_fields, ofc_encV, ofc0_encV, fld_F_name, fld_F_v, ofc_encF, ofc0_encF, st_V0, st_F0, len_32, len_33, ia_32, ia_33, Nat.reduceAdd, e22 ov, h1, e11 hp op.2, h2, e12, g23, g24, g25, g26, ex0, ex1, eb, e27 sw.ok, e27 su.ok]
theorem V_aggV {φ : Nat → Nat × Nat} {A S : Nat → Prop} {w : World} {x : Val} {u : Value} (h : VR φ A S w (.agg (encV x).cells) u) : VR φ A S w (encV x) u := by
  have e : encV x = .agg (encV x).cells := by rw [encV_eq]; rfl
  rw [e]; exact h
end Go.Proofs.YtmfhmlhaofpeiaaGreatDoor.Ev
