/- Prefixes; the law PathValid. -/
import Derived.Test.YtmfhmlhaofpeiaaGreatDoorV10
namespace Go.Proofs.YtmfhmlhaofpeiaaGreatDoor.Ev
open Go Go.RowKit
set_option linter.unusedSimpArgs false
set_option linter.unusedVariables false
set_option maxRecDepth 100000

theorem allLen_map {α : Type} {enc : α → AV} {z : Nat} (h : ∀ x, (enc x).cells.length = z) (l : List α) : allLen z (l.map enc) = true := by
  induction l with
  | nil => rfl
  | cons x l ih => simp only [List.map_cons, allLen, h, Nat.beq_refl, ih, Bool.and_self]
theorem sl_pre {α : Type} {T : Tab} {enc : α → AV} {t e z : Nat} {l : List α} {n : Nat} {k : IntKind} (ht : T.ty t = some (.slice e)) (hz : T.sz e = some (z + 1)) (hE : ∀ x, (enc x).cells.length = z + 1) (hn : n ≤ l.length) : evSlice T t (.lst (l.map enc)) none (some (.i k (n : Nat))) none = some (.lst ((l.take n).map enc)) := by
  have b1 : bnd0 (l.map enc).length (l.map enc).length (some (.i k (n : Nat))) = some n := by
    simp only [bnd0, bnd, List.length_map]; rw [if_pos ⟨by omega, by omega⟩]; simp
  have b : bounds3 (l.map enc).length none none (some (.i k (n : Nat))) none = some (0, n, none) := by
    simp only [bounds3, Option.getD_none, bnd0]
    simp only [bnd0] at b1
    rw [b1]
  unfold evSlice
  simp only [ht, hz, b, allLen_map hE, List.drop_zero, Nat.sub_zero, List.map_take]
theorem sl_suf {α : Type} {T : Tab} {enc : α → AV} {t e z : Nat} {l : List α} {n : Nat} {k : IntKind} (ht : T.ty t = some (.slice e)) (hz : T.sz e = some (z + 1)) (hE : ∀ x, (enc x).cells.length = z + 1) (hn : n ≤ l.length) : evSlice T t (.lst (l.map enc)) (some (.i k (n : Nat))) none none = some (.lst ((l.drop n).map enc)) := by
  have b1 : bnd0 (l.map enc).length 0 (some (.i k (n : Nat))) = some n := by
    simp only [bnd0, bnd, List.length_map]; rw [if_pos ⟨by omega, by omega⟩]; simp
  have b : bounds3 (l.map enc).length none (some (.i k (n : Nat))) none none = some (n, (l.map enc).length, none) := by
    simp only [bounds3, Option.getD_none, bnd0, b1]
    simp only [bnd0] at b1
    rw [b1]
  have e2 : (l.map enc).drop n = (l.drop n).map enc := by rw [List.map_drop]
  have e3 : ((l.drop n).map enc).take ((l.map enc).length - n) = (l.drop n).map enc := List.take_of_length_le (by simp)
  unfold evSlice
  simp only [ht, hz, b, allLen_map hE, e2, e3]
theorem ty22 : T0.ty 22 = some (.slice 50) := by kernel_rfl
theorem slS_pre {p : List XStep} {h : Tr AB} {n : Nat} {k : IntKind} (hn : n ≤ p.length) : evSliceH T0 h 22 (.lst (p.map encXStep)) none (some (.i k (n : Nat))) none = some (.lst ((p.take n).map encXStep)) := slH_of (sl_pre ty22 sz_50 (fun _ => rfl) hn)
theorem slS_suf {p : List XStep} {h : Tr AB} {n : Nat} {k : IntKind} (hn : n ≤ p.length) : evSliceH T0 h 22 (.lst (p.map encXStep)) (some (.i k (n : Nat))) none none = some (.lst ((p.drop n).map encXStep)) := slH_of (sl_suf ty22 sz_50 (fun _ => rfl) hn)
theorem take_eq_succ {α : Type} [Inhabited α] {a b : List α} {j : Nat} (ha : j < a.length) (hb : j < b.length) (h : a.take j = b.take j) (he : a.getD j default = b.getD j default) : a.take (j + 1) = b.take (j + 1) := by
  rw [take_snoc ha, take_snoc hb, h, he]
theorem take_ne {α : Type} [Inhabited α] {a b : List α} {j : Nat} (he : ¬ a.getD j default = b.getD j default) : ¬ a = b := fun e => he (by rw [e])
theorem c37 (a b : List XStep) (ha : a.length ≤ 140737488351232) (hb : b.length ≤ 140737488351232) : R T0 37 [.lst (a.map encXStep), .lst (b.map encXStep)] (.b (decide (a = b))) := by
  refine r37 _ _ rfl rfl ?_
  unfold w37
  dsimp only [prims]
  by_cases hl : a.length = b.length
  · have hl' : decide (((a.length : Nat) : Int) = (b.length : Nat)) = true := decide_eq_true (by omega)
    simp (disch := first | omega | assumption | exact scell | exact clen_XStep | (simp only [clen_XStep]; omega)) only [Nat.zero_add, oV_some', oN_eq, oM_some, oH_some, oD_some, oE_some, oS_eq, oT_true, oI_true, oI_false, pick_t, pick_f, un_not, oI_not, decide_not, toNat_sub1, toNat_add1, decide_true, decide_false, not_true, not_false_eq_true, Bool.not_true, Bool.not_false, Bool.not_not, oZ_b, oZ_i, oZ_s, oZ_l, slen_map, wr64, Int.toNat_natCast, Int.toNat_zero, ne_eq, bin_lt, bin_slt, bin_ne, b_snnil, bne_4, bin_add, load_get, loadB_some, get_put_same, get_put_ne, ofc_s, load_i, ofc_encXStep, ofc0_encXStep, st_XStep, fld_XStep_kind_, fld_XStep_name_, fld_XStep_index_, fld_XStep_value_, prt_XStep_kind_, prt_XStep_name_, prt_XStep_index_, prt_XStep_value_, len_22, ia_22, hl']
    refine loop4 (X := Nat) (fun _ => .lst (b.map encXStep)) (fun _ => .lst (a.map encXStep)) (fun _ => .i .i64 (a.length : Nat)) (fun j => .i .i64 (j : Nat)) (fun j σ => j ≤ a.length ∧ a.take j = b.take j) (fun j => a.length - j) ?_ 0 _ ⟨Nat.zero_le _, rfl⟩
    rintro R j σ ⟨hj, ht⟩ hR
    simp only [oV_some', bin_lt]
    refine oI_decd (fun h => ?_) (fun h => ?_)
    · have hj' : j < a.length := by omega
      by_cases q : a.getD j default = b.getD j default
      · simp (disch := first | omega | assumption | exact scell | exact clen_XStep | (simp only [clen_XStep]; omega)) only [Nat.zero_add, oV_some', oN_eq, oM_some, oH_some, oD_some, oE_some, oS_eq, oT_true, oI_true, oI_false, pick_t, pick_f, un_not, oI_not, decide_not, toNat_sub1, toNat_add1, decide_true, decide_false, not_true, not_false_eq_true, Bool.not_true, Bool.not_false, Bool.not_not, oZ_b, oZ_i, oZ_s, oZ_l, slen_map, wr64, Int.toNat_natCast, Int.toNat_zero, ne_eq, bin_lt, bin_slt, bin_ne, b_snnil, bne_4, bin_add, load_get, loadB_some, get_put_same, get_put_ne, ofc_s, load_i, ofc_encXStep, ofc0_encXStep, st_XStep, fld_XStep_kind_, fld_XStep_name_, fld_XStep_index_, fld_XStep_value_, prt_XStep_kind_, prt_XStep_name_, prt_XStep_index_, prt_XStep_value_, len_22, ia_22, Int.toNat_natCast, bne_50, decide_eq_true q]
        exact hR (j + 1) _ ⟨by omega, take_eq_succ hj' (by omega) ht q⟩ (by omega)
      · simp (disch := first | omega | assumption | exact scell | exact clen_XStep | (simp only [clen_XStep]; omega)) only [Nat.zero_add, oV_some', oN_eq, oM_some, oH_some, oD_some, oE_some, oS_eq, oT_true, oI_true, oI_false, pick_t, pick_f, un_not, oI_not, decide_not, toNat_sub1, toNat_add1, decide_true, decide_false, not_true, not_false_eq_true, Bool.not_true, Bool.not_false, Bool.not_not, oZ_b, oZ_i, oZ_s, oZ_l, slen_map, wr64, Int.toNat_natCast, Int.toNat_zero, ne_eq, bin_lt, bin_slt, bin_ne, b_snnil, bne_4, bin_add, load_get, loadB_some, get_put_same, get_put_ne, ofc_s, load_i, ofc_encXStep, ofc0_encXStep, st_XStep, fld_XStep_kind_, fld_XStep_name_, fld_XStep_index_, fld_XStep_value_, prt_XStep_kind_, prt_XStep_name_, prt_XStep_index_, prt_XStep_value_, len_22, ia_22, Int.toNat_natCast, bne_50, decide_eq_false q]
        rw [decide_eq_false (take_ne q)]
    · have : a = b := by
        have h1 : a.take j = a := List.take_of_length_le (by omega)
        have h2 : b.take j = b := List.take_of_length_le (by omega)
        rw [← h1, ht, h2]
      try rw [oZ_b]
      rw [decide_eq_true this]
  · have hl' : decide (((a.length : Nat) : Int) = (b.length : Nat)) = false := decide_eq_false (by omega)
    simp (disch := first | omega | assumption | exact scell | exact clen_XStep | (simp only [clen_XStep]; omega)) only [Nat.zero_add, oV_some', oN_eq, oM_some, oH_some, oD_some, oE_some, oS_eq, oT_true, oI_true, oI_false, pick_t, pick_f, un_not, oI_not, decide_not, toNat_sub1, toNat_add1, decide_true, decide_false, not_true, not_false_eq_true, Bool.not_true, Bool.not_false, Bool.not_not, oZ_b, oZ_i, oZ_s, oZ_l, slen_map, wr64, Int.toNat_natCast, Int.toNat_zero, ne_eq, bin_lt, bin_slt, bin_ne, b_snnil, bne_4, bin_add, load_get, loadB_some, get_put_same, get_put_ne, ofc_s, load_i, ofc_encXStep, ofc0_encXStep, st_XStep, fld_XStep_kind_, fld_XStep_name_, fld_XStep_index_, fld_XStep_value_, prt_XStep_kind_, prt_XStep_name_, prt_XStep_index_, prt_XStep_value_, len_22, ia_22, hl']
    rw [decide_eq_false (fun e => hl (by rw [e]))]
theorem e37 {a b : List XStep} (ha : a.length ≤ 140737488351232) (hb : b.length ≤ 140737488351232) {d : Nat} {σ : AS} {K : AV → AS → Prop} : oC T0 d 37 [.lst (a.map encXStep), .lst (b.map encXStep)] σ K = K (.b (decide (a = b))) σ := (c37 a b ha hb).eq d σ K
def hpB (p q : List XStep) : Bool := decide (q.length ≤ p.length) && decide (p.take q.length = q)
theorem c15 (p q : List XStep) (hp : p.length ≤ 140737488351232) (hq : q.length ≤ 140737488351232) : R T0 15 [.lst (p.map encXStep), .lst (q.map encXStep)] (.b (hpB p q)) := by
  refine r15 _ _ rfl rfl ?_
  unfold w15
  dsimp only [prims]
  by_cases hl : q.length ≤ p.length
  · have hl' : decide (((q.length : Nat) : Int) ≤ (p.length : Nat)) = true := decide_eq_true (by omega)
    have ht : (p.take q.length).length ≤ 140737488351232 := by rw [List.length_take]; omega
    simp (disch := first | omega | assumption | exact scell | exact clen_XStep | (simp only [clen_XStep]; omega)) only [Nat.zero_add, oV_some', oN_eq, oM_some, oH_some, oD_some, oE_some, oS_eq, oT_true, oI_true, oI_false, pick_t, pick_f, un_not, oI_not, decide_not, toNat_sub1, toNat_add1, decide_true, decide_false, not_true, not_false_eq_true, Bool.not_true, Bool.not_false, Bool.not_not, oZ_b, oZ_i, oZ_s, oZ_l, slen_map, wr64, Int.toNat_natCast, Int.toNat_zero, ne_eq, bin_ge, bin_sge, ofc_encXStep, ofc0_encXStep, st_XStep, fld_XStep_kind_, fld_XStep_name_, fld_XStep_index_, fld_XStep_value_, prt_XStep_kind_, prt_XStep_name_, prt_XStep_index_, prt_XStep_value_, len_22, gtt_6, gff_6, gtf_6, gft_6, gvv_6, gnt_6, gnf_6, hl', slS_pre hl, e37 ht hq]
    unfold hpB; rw [decide_eq_true hl, Bool.true_and]
  · have hl' : decide (((q.length : Nat) : Int) ≤ (p.length : Nat)) = false := decide_eq_false (by omega)
    simp (disch := first | omega | assumption | exact scell | exact clen_XStep | (simp only [clen_XStep]; omega)) only [Nat.zero_add, oV_some', oN_eq, oM_some, oH_some, oD_some, oE_some, oS_eq, oT_true, oI_true, oI_false, pick_t, pick_f, un_not, oI_not, decide_not, toNat_sub1, toNat_add1, decide_true, decide_false, not_true, not_false_eq_true, Bool.not_true, Bool.not_false, Bool.not_not, oZ_b, oZ_i, oZ_s, oZ_l, slen_map, wr64, Int.toNat_natCast, Int.toNat_zero, ne_eq, bin_ge, bin_sge, ofc_encXStep, ofc0_encXStep, st_XStep, fld_XStep_kind_, fld_XStep_name_, fld_XStep_index_, fld_XStep_value_, prt_XStep_kind_, prt_XStep_name_, prt_XStep_index_, prt_XStep_value_, len_22, gtt_6, gff_6, gtf_6, gft_6, gvv_6, gnt_6, gnf_6, hl']
    unfold hpB; rw [decide_eq_false hl, Bool.false_and]
theorem e15 {p q : List XStep} (hp : p.length ≤ 140737488351232) (hq : q.length ≤ 140737488351232) {d : Nat} {σ : AS} {K : AV → AS → Prop} : oC T0 d 15 [.lst (p.map encXStep), .lst (q.map encXStep)] σ K = K (.b (hpB p q)) σ := (c15 p q hp hq).eq d σ K
theorem c16 (p q : List XStep) (hp : p.length ≤ 140737488351232) (hq : q.length ≤ 140737488351232) : R T0 16 [.lst (p.map encXStep), .lst (q.map encXStep)] (.b (hpB p q)) := by
  refine r16 _ _ rfl rfl ?_
  unfold w16
  dsimp only [prims]
  by_cases hl : q.length ≤ p.length
  · have hl' : decide (((p.length : Nat) : Int) < (q.length : Nat)) = false := decide_eq_false (by omega)
    simp (disch := first | omega | assumption | exact scell | exact clen_XStep | (simp only [clen_XStep]; omega)) only [len_22, slen_map, oV_some', bin_lt, hl', oI_false]
    refine loop3 (X := Nat) (fun _ => .lst (q.map encXStep)) (fun _ => .lst (p.map encXStep)) (fun j => .i .i64 (j : Nat)) (fun j σ => j ≤ q.length ∧ p.take j = q.take j) (fun j => q.length - j) ?_ 0 _ ⟨Nat.zero_le _, rfl⟩
    rintro R j σ ⟨hj, ht⟩ hR
    simp (disch := first | omega | assumption | exact scell | exact clen_XStep | (simp only [clen_XStep]; omega)) only [oV_some', len_22, slen_map, bin_lt]
    refine oI_decd (fun h => ?_) (fun h => ?_)
    · have hj' : j < q.length := by omega
      by_cases w : p.getD j default = q.getD j default
      · simp (disch := first | omega | assumption | exact scell | exact clen_XStep | (simp only [clen_XStep]; omega)) only [Nat.zero_add, oV_some', oN_eq, oM_some, oH_some, oD_some, oE_some, oS_eq, oT_true, oI_true, oI_false, pick_t, pick_f, un_not, oI_not, decide_not, toNat_sub1, toNat_add1, decide_true, decide_false, not_true, not_false_eq_true, Bool.not_true, Bool.not_false, Bool.not_not, oZ_b, oZ_i, oZ_s, oZ_l, slen_map, wr64, Int.toNat_natCast, Int.toNat_zero, ne_eq, bin_lt, bin_slt, bin_ne, b_snnil, bne_4, bin_add, load_get, loadB_some, get_put_same, get_put_ne, ofc_s, load_i, ofc_encXStep, ofc0_encXStep, st_XStep, fld_XStep_kind_, fld_XStep_name_, fld_XStep_index_, fld_XStep_value_, prt_XStep_kind_, prt_XStep_name_, prt_XStep_index_, prt_XStep_value_, len_22, ia_22, Int.toNat_natCast, bne_50, decide_eq_true w]
        exact hR (j + 1) _ ⟨by omega, take_eq_succ (by omega) hj' ht w⟩ (by omega)
      · simp (disch := first | omega | assumption | exact scell | exact clen_XStep | (simp only [clen_XStep]; omega)) only [Nat.zero_add, oV_some', oN_eq, oM_some, oH_some, oD_some, oE_some, oS_eq, oT_true, oI_true, oI_false, pick_t, pick_f, un_not, oI_not, decide_not, toNat_sub1, toNat_add1, decide_true, decide_false, not_true, not_false_eq_true, Bool.not_true, Bool.not_false, Bool.not_not, oZ_b, oZ_i, oZ_s, oZ_l, slen_map, wr64, Int.toNat_natCast, Int.toNat_zero, ne_eq, bin_lt, bin_slt, bin_ne, b_snnil, bne_4, bin_add, load_get, loadB_some, get_put_same, get_put_ne, ofc_s, load_i, ofc_encXStep, ofc0_encXStep, st_XStep, fld_XStep_kind_, fld_XStep_name_, fld_XStep_index_, fld_XStep_value_, prt_XStep_kind_, prt_XStep_name_, prt_XStep_index_, prt_XStep_value_, len_22, ia_22, Int.toNat_natCast, bne_50, decide_eq_false w]
        have : ¬ p.take q.length = q := fun e => w (by
          have h1 := congrArg (fun l => l.getD j default) e
          simp only [List.getD_eq_getElem?_getD, List.getElem?_take, if_pos hj'] at h1
          rw [List.getD_eq_getElem?_getD, List.getD_eq_getElem?_getD, h1])
        unfold hpB; rw [decide_eq_false this, Bool.and_false]
    · have : p.take q.length = q := by
        obtain rfl : j = q.length := by omega
        rw [ht, List.take_length]
      try rw [oZ_b]
      unfold hpB; rw [decide_eq_true hl, decide_eq_true this]; rfl
  · have hl' : decide (((p.length : Nat) : Int) < (q.length : Nat)) = true := decide_eq_true (by omega)
    simp (disch := first | omega | assumption | exact scell | exact clen_XStep | (simp only [clen_XStep]; omega)) only [len_22, slen_map, oV_some', bin_lt, hl', oI_true, oZ_b]
    unfold hpB; rw [decide_eq_false hl, Bool.false_and]
theorem e16 {p q : List XStep} (hp : p.length ≤ 140737488351232) (hq : q.length ≤ 140737488351232) {d : Nat} {σ : AS} {K : AV → AS → Prop} : oC T0 d 16 [.lst (p.map encXStep), .lst (q.map encXStep)] σ K = K (.b (hpB p q)) σ := (c16 p q hp hq).eq d σ K
def fewB (p : List XStep) : Bool := decide (p.length ≤ 20) && p.all (fun x => decide (x.name_.length ≤ 300) && decide (x.value_.length ≤ 300))
theorem c11 (p : List XStep) (hp : p.length ≤ 140737488351232) (ox : ∀ x ∈ p, okXStep x) : R T0 11 [.lst (p.map encXStep)] (.b (fewB p)) := by
  refine r11 _ rfl rfl ?_
  unfold w11
  dsimp only [prims]
  by_cases hl : p.length ≤ 20
  · have hl' : decide ((20 : Int) < (p.length : Nat)) = false := decide_eq_false (by omega)
    simp (disch := first | omega | assumption | exact scell | exact clen_XStep | (simp only [clen_XStep]; omega)) only [len_22, slen_map, oV_some', bin_gt, hl', oI_false]
    refine loop3 (X := Nat) (fun _ => .lst (p.map encXStep)) (fun _ => .i .i64 (p.length : Nat)) (fun j => .i .i64 (j : Nat)) (fun j σ => j ≤ p.length ∧ (p.take j).all (fun x => decide (x.name_.length ≤ 300) && decide (x.value_.length ≤ 300)) = true) (fun j => p.length - j) ?_ 0 _ ⟨Nat.zero_le _, rfl⟩
    rintro R j σ ⟨hj, ha⟩ hR
    simp only [oV_some', bin_lt]
    refine oI_decd (fun h => ?_) (fun h => ?_)
    · have hj' : j < p.length := by omega
      have no : (decide ((p.getD j default).name_.length ≤ 300) && decide ((p.getD j default).value_.length ≤ 300)) = false → fewB p = false := fun q => by
        unfold fewB; rw [all_false_at (p := fun x : XStep => decide (x.name_.length ≤ 300) && decide (x.value_.length ≤ 300)) (d := default) hj' q, Bool.and_false]
      by_cases q1 : (p.getD j default).name_.length ≤ 300
      · have q1' : decide ((300 : Int) < ((p.getD j default).name_.length : Nat)) = false := decide_eq_false (by omega)
        by_cases q2 : (p.getD j default).value_.length ≤ 300
        · have q2' : decide ((300 : Int) < ((p.getD j default).value_.length : Nat)) = false := decide_eq_false (by omega)
          simp (disch := first | omega | assumption | exact scell | exact clen_XStep | (simp only [clen_XStep]; omega)) only [Nat.zero_add, oV_some', oN_eq, oM_some, oH_some, oD_some, oE_some, oS_eq, oT_true, oI_true, oI_false, pick_t, pick_f, un_not, oI_not, decide_not, toNat_sub1, toNat_add1, decide_true, decide_false, not_true, not_false_eq_true, Bool.not_true, Bool.not_false, Bool.not_not, oZ_b, oZ_i, oZ_s, oZ_l, slen_map, wr64, Int.toNat_natCast, Int.toNat_zero, ne_eq, bin_lt, bin_slt, bin_gt, b_sgt, bin_add, load_get, loadB_some, get_put_same, get_put_ne, ofc_s, load_i, off_i, off_p, len_9, ofc_encXStep, ofc0_encXStep, st_XStep, fld_XStep_kind_, fld_XStep_name_, fld_XStep_index_, fld_XStep_value_, prt_XStep_kind_, prt_XStep_name_, prt_XStep_index_, prt_XStep_value_, len_22, ia_22, gtt_4, gff_4, gtf_4, gft_4, gvv_4, gnt_4, gnf_4, Int.toNat_natCast, q1', q2']
          exact hR (j + 1) _ ⟨by omega, all_take_succ (d := default) ha hj' (by rw [decide_eq_true q1, decide_eq_true q2]; rfl)⟩ (by omega)
        · have q2' : decide ((300 : Int) < ((p.getD j default).value_.length : Nat)) = true := decide_eq_true (by omega)
          simp (disch := first | omega | assumption | exact scell | exact clen_XStep | (simp only [clen_XStep]; omega)) only [Nat.zero_add, oV_some', oN_eq, oM_some, oH_some, oD_some, oE_some, oS_eq, oT_true, oI_true, oI_false, pick_t, pick_f, un_not, oI_not, decide_not, toNat_sub1, toNat_add1, decide_true, decide_false, not_true, not_false_eq_true, Bool.not_true, Bool.not_false, Bool.not_not, oZ_b, oZ_i, oZ_s, oZ_l, slen_map, wr64, Int.toNat_natCast, Int.toNat_zero, ne_eq, bin_lt, bin_slt, bin_gt, b_sgt, bin_add, load_get, loadB_some, get_put_same, get_put_ne, ofc_s, load_i, off_i, off_p, len_9, ofc_encXStep, ofc0_encXStep, st_XStep, fld_XStep_kind_, fld_XStep_name_, fld_XStep_index_, fld_XStep_value_, prt_XStep_kind_, prt_XStep_name_, prt_XStep_index_, prt_XStep_value_, len_22, ia_22, gtt_4, gff_4, gtf_4, gft_4, gvv_4, gnt_4, gnf_4, Int.toNat_natCast, q1', q2', no (by rw [decide_eq_false q2, Bool.and_false])]
      · have q1' : decide ((300 : Int) < ((p.getD j default).name_.length : Nat)) = true := decide_eq_true (by omega)
        simp (disch := first | omega | assumption | exact scell | exact clen_XStep | (simp only [clen_XStep]; omega)) only [Nat.zero_add, oV_some', oN_eq, oM_some, oH_some, oD_some, oE_some, oS_eq, oT_true, oI_true, oI_false, pick_t, pick_f, un_not, oI_not, decide_not, toNat_sub1, toNat_add1, decide_true, decide_false, not_true, not_false_eq_true, Bool.not_true, Bool.not_false, Bool.not_not, oZ_b, oZ_i, oZ_s, oZ_l, slen_map, wr64, Int.toNat_natCast, Int.toNat_zero, ne_eq, bin_lt, bin_slt, bin_gt, b_sgt, bin_add, load_get, loadB_some, get_put_same, get_put_ne, ofc_s, load_i, off_i, off_p, len_9, ofc_encXStep, ofc0_encXStep, st_XStep, fld_XStep_kind_, fld_XStep_name_, fld_XStep_index_, fld_XStep_value_, prt_XStep_kind_, prt_XStep_name_, prt_XStep_index_, prt_XStep_value_, len_22, ia_22, gtt_4, gff_4, gtf_4, gft_4, gvv_4, gnt_4, gnf_4, Int.toNat_natCast, q1', no (by rw [decide_eq_false q1, Bool.false_and])]
    · try rw [oZ_b]
      unfold fewB; rw [decide_eq_true hl, all_end ha (by omega)]; rfl
  · have hl' : decide ((20 : Int) < (p.length : Nat)) = true := decide_eq_true (by omega)
    simp (disch := first | omega | assumption | exact scell | exact clen_XStep | (simp only [clen_XStep]; omega)) only [len_22, slen_map, oV_some', bin_gt, hl', oI_true, oZ_b]
    unfold fewB; rw [decide_eq_false hl, Bool.false_and]
theorem e11 {p : List XStep} (hp : p.length ≤ 140737488351232) (ox : ∀ x ∈ p, okXStep x) {d : Nat} {σ : AS} {K : AV → AS → Prop} : oC T0 d 11 [.lst (p.map encXStep)] σ K = K (.b (fewB p)) σ := (c11 p hp ox).eq d σ K
theorem c12 : R T0 12 [] (.b true) := ⟨200, fun σ => by kernel_rfl⟩
theorem e12 {d : Nat} {σ : AS} {K : AV → AS → Prop} : oC T0 d 12 [] σ K = K (.b true) σ := c12.eq d σ K
theorem law_PathValid (p q : List XStep) (op : p.length * 48 ≤ 140737488351232 ∧ ∀ x ∈ p, okXStep x) (oq : q.length * 48 ≤ 140737488351232 ∧ ∀ x ∈ q, okXStep x) : R T0 3 [.lst (p.map encXStep), .lst (q.map encXStep)] (.b true) := by
  have hp : p.length ≤ 140737488351232 := by have := op.1; omega
  have hq : q.length ≤ 140737488351232 := by have := oq.1; omega
  have eb : ∀ b : Bool, evBin T0 .eql 4 false (.b b) (.b b) = some (.b true) := fun b => by rw [bin_beq (by kernel_rfl)]; simp
  refine r3 _ _ rfl rfl ?_
  unfold w3
  dsimp only [prims]
  cases h1 : fewB p
  · simp (disch := first | omega | assumption | exact scell | exact clen_XStep | (simp only [clen_XStep]; omega)) only [Nat.zero_add, oV_some', oN_eq, oM_some, oH_some, oD_some, oE_some, oS_eq, oT_true, oI_true, oI_false, pick_t, pick_f, un_not, oI_not, decide_not, toNat_sub1, toNat_add1, decide_true, decide_false, not_true, not_false_eq_true, Bool.not_true, Bool.not_false, Bool.not_not, oZ_b, oZ_i, oZ_s, oZ_l, slen_map, wr64, Int.toNat_natCast, Int.toNat_zero, ne_eq, bin_lt, bin_slt, bin_le, b_sle, bin_gt, b_sgt, bin_ge, bin_sge, bin_eq, b_snil, beq_4, bin_ne, b_snnil, bne_4, bin_add, bin_sub, min5, load_get, loadB_some, get_put_same, get_put_ne, ofc_s, load_i, off_i, off_p, part_a, nilc_p, nilc_i, nilc_f, ext_t, List.getElem?_cons_zero, List.getElem?_cons_succ, len_9, idx_9, ofc_encXStep, ofc0_encXStep, st_XStep, fld_XStep_kind_, fld_XStep_name_, fld_XStep_index_, fld_XStep_value_, prt_XStep_kind_, prt_XStep_name_, prt_XStep_index_, prt_XStep_value_, join0_eq, join1_eq, join2_eq, join3_eq, join4_eq, join5_eq, join6_eq, join7_eq, join8_eq, gtt_0, gff_0, gtf_0, gft_0, gvv_0, gnt_0, gnf_0, gtt_1, gff_1, gtf_1, gft_1, gvv_1, gnt_1, gnf_1, gtt_2, gff_2, gtf_2, gft_2, gvv_2, gnt_2, gnf_2, gtt_3, gff_3, gtf_3, gft_3, gvv_3, gnt_3, gnf_3, gtt_4, gff_4, gtf_4, gft_4, gvv_4, gnt_4, gnf_4, gtt_5, gff_5, gtf_5, gft_5, gvv_5, gnt_5, gnf_5, gtt_6, gff_6, gtf_6, gft_6, gvv_6, gnt_6, gnf_6, gtt_7, gff_7, gtf_7, gft_7, gvv_7, gnt_7, gnf_7, gtt_8, gff_8, gtf_8, gft_8, gvv_8, gnt_8, gnf_8, gtt_9, gff_9, gtf_9, gft_9, gvv_9, gnt_9, gnf_9, gtt_10, gff_10, gtf_10, gft_10, gvv_10, gnt_10, gnf_10, gtt_11, gff_11, gtf_11, gft_11, gvv_11, gnt_11, gnf_11, gtt_12, gff_12, gtf_12, gft_12, gvv_12, gnt_12, gnf_12, gtt_13, gff_13, gtf_13, gft_13, gvv_13, gnt_13, gnf_13, gtt_14, gff_14, gtf_14, gft_14, gvv_14, gnt_14, gnf_14, gtt_15, gff_15, gtf_15, gft_15, gvv_15, gnt_15, gnf_15, e11 hp op.2, h1, e12]
  · cases h2 : fewB q
    · simp (disch := first | omega | assumption | exact scell | exact clen_XStep | (simp only [clen_XStep]; omega)) only [Nat.zero_add, oV_some', oN_eq, oM_some, oH_some, oD_some, oE_some, oS_eq, oT_true, oI_true, oI_false, pick_t, pick_f, un_not, oI_not, decide_not, toNat_sub1, toNat_add1, decide_true, decide_false, not_true, not_false_eq_true, Bool.not_true, Bool.not_false, Bool.not_not, oZ_b, oZ_i, oZ_s, oZ_l, slen_map, wr64, Int.toNat_natCast, Int.toNat_zero, ne_eq, bin_lt, bin_slt, bin_le, b_sle, bin_gt, b_sgt, bin_ge, bin_sge, bin_eq, b_snil, beq_4, bin_ne, b_snnil, bne_4, bin_add, bin_sub, min5, load_get, loadB_some, get_put_same, get_put_ne, ofc_s, load_i, off_i, off_p, part_a, nilc_p, nilc_i, nilc_f, ext_t, List.getElem?_cons_zero, List.getElem?_cons_succ, len_9, idx_9, ofc_encXStep, ofc0_encXStep, st_XStep, fld_XStep_kind_, fld_XStep_name_, fld_XStep_index_, fld_XStep_value_, prt_XStep_kind_, prt_XStep_name_, prt_XStep_index_, prt_XStep_value_, join0_eq, join1_eq, join2_eq, join3_eq, join4_eq, join5_eq, join6_eq, join7_eq, join8_eq, gtt_0, gff_0, gtf_0, gft_0, gvv_0, gnt_0, gnf_0, gtt_1, gff_1, gtf_1, gft_1, gvv_1, gnt_1, gnf_1, gtt_2, gff_2, gtf_2, gft_2, gvv_2, gnt_2, gnf_2, gtt_3, gff_3, gtf_3, gft_3, gvv_3, gnt_3, gnf_3, gtt_4, gff_4, gtf_4, gft_4, gvv_4, gnt_4, gnf_4, gtt_5, gff_5, gtf_5, gft_5, gvv_5, gnt_5, gnf_5, gtt_6, gff_6, gtf_6, gft_6, gvv_6, gnt_6, gnf_6, gtt_7, gff_7, gtf_7, gft_7, gvv_7, gnt_7, gnf_7, gtt_8, gff_8, gtf_8, gft_8, gvv_8, gnt_8, gnf_8, gtt_9, gff_9, gtf_9, gft_9, gvv_9, gnt_9, gnf_9, gtt_10, gff_10, gtf_10, gft_10, gvv_10, gnt_10, gnf_10, gtt_11, gff_11, gtf_11, gft_11, gvv_11, gnt_11, gnf_11, gtt_12, gff_12, gtf_12, gft_12, gvv_12, gnt_12, gnf_12, gtt_13, gff_13, gtf_13, gft_13, gvv_13, gnt_13, gnf_13, gtt_14, gff_14, gtf_14, gft_14, gvv_14, gnt_14, gnf_14, gtt_15, gff_15, gtf_15, gft_15, gvv_15, gnt_15, gnf_15, e11 hp op.2, e11 hq oq.2, h1, h2, e12]
    · simp (disch := first | omega | assumption | exact scell | exact clen_XStep | (simp only [clen_XStep]; omega)) only [Nat.zero_add, oV_some', oN_eq, oM_some, oH_some, oD_some, oE_some, oS_eq, oT_true, oI_true, oI_false, pick_t, pick_f, un_not, oI_not, decide_not, toNat_sub1, toNat_add1, decide_true, decide_false, not_true, not_false_eq_true, Bool.not_true, Bool.not_false, Bool.not_not, oZ_b, oZ_i, oZ_s, oZ_l, slen_map, wr64, Int.toNat_natCast, Int.toNat_zero, ne_eq, bin_lt, bin_slt, bin_le, b_sle, bin_gt, b_sgt, bin_ge, bin_sge, bin_eq, b_snil, beq_4, bin_ne, b_snnil, bne_4, bin_add, bin_sub, min5, load_get, loadB_some, get_put_same, get_put_ne, ofc_s, load_i, off_i, off_p, part_a, nilc_p, nilc_i, nilc_f, ext_t, List.getElem?_cons_zero, List.getElem?_cons_succ, len_9, idx_9, ofc_encXStep, ofc0_encXStep, st_XStep, fld_XStep_kind_, fld_XStep_name_, fld_XStep_index_, fld_XStep_value_, prt_XStep_kind_, prt_XStep_name_, prt_XStep_index_, prt_XStep_value_, join0_eq, join1_eq, join2_eq, join3_eq, join4_eq, join5_eq, join6_eq, join7_eq, join8_eq, gtt_0, gff_0, gtf_0, gft_0, gvv_0, gnt_0, gnf_0, gtt_1, gff_1, gtf_1, gft_1, gvv_1, gnt_1, gnf_1, gtt_2, gff_2, gtf_2, gft_2, gvv_2, gnt_2, gnf_2, gtt_3, gff_3, gtf_3, gft_3, gvv_3, gnt_3, gnf_3, gtt_4, gff_4, gtf_4, gft_4, gvv_4, gnt_4, gnf_4, gtt_5, gff_5, gtf_5, gft_5, gvv_5, gnt_5, gnf_5, gtt_6, gff_6, gtf_6, gft_6, gvv_6, gnt_6, gnf_6, gtt_7, gff_7, gtf_7, gft_7, gvv_7, gnt_7, gnf_7, gtt_8, gff_8, gtf_8, gft_8, gvv_8, gnt_8, gnf_8, gtt_9, gff_9, gtf_9, gft_9, gvv_9, gnt_9, gnf_9, gtt_10, gff_10, gtf_10, gft_10, gvv_10, gnt_10, gnf_10, gtt_11, gff_11, gtf_11, gft_11, gvv_11, gnt_11, gnf_11, gtt_12, gff_12, gtf_12, gft_12, gvv_12, gnt_12, gnf_12, gtt_13, gff_13, gtf_13, gft_13, gvv_13, gnt_13, gnf_13, gtt_14, gff_14, gtf_14, gft_14, gvv_14, gnt_14, gnf_14, gtt_15, gff_15, gtf_15, gft_15, gvv_15, gnt_15, gnf_15, e11 hp op.2, e11 hq oq.2, h1, h2, e12, e13 hp op.2, e14 hp op.2, e15 hp hq, e16 hp hq, eb]
end Go.Proofs.YtmfhmlhaofpeiaaGreatDoor.Ev
