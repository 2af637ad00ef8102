/- What the functions on finalizers and owners answer. -/
import Derived.Test.YtpnoongjaehmlaaDoorV3
namespace Go.Proofs.YtpnoongjaehmlaaDoor.Ev
open Go Go.RowKit
set_option linter.unusedSimpArgs false
set_option linter.unusedVariables false
set_option maxRecDepth 100000

def mset {α : Type} (kE : α → AV) (ks : List α) : List (AV × AV) := ks.map fun k => (kE k, .b true)
def lkM (k : AV) (b : Option AB) : Option AV := match b with
  | some (.map es) => match findE k es with
    | some (some v) => some v
    | some none => some (.b false)
    | none => none
  | _ => none
def upM (h : Tr AB) (id : Nat) (k v : AV) (b : Option AB) : Option (Tr AB) := match b with
  | some (.map es) => match updE k v es with
    | some es' => some (h.put id (some (.map es')))
    | none => none
  | _ => none
section
variable {α : Type} [DecidableEq α] {kE : α → AV} (hE : ∀ a b, eqLeaf (kE a) (kE b) = some (decide (a = b)))
theorem lkM_mset (hE : ∀ a b, eqLeaf (kE a) (kE b) = some (decide (a = b))) (k : α) (ks : List α) : lkM (kE k) (some (.map (mset kE ks))) = some (.b (decide (k ∈ ks))) := by
  unfold lkM
  have : findE (kE k) (mset kE ks) = some (if k ∈ ks then some (.b true) else none) := by
    induction ks with
    | nil => rfl
    | cons a ks ih =>
      unfold mset at ih ⊢
      simp only [List.map_cons, findE, hE]
      by_cases q : k = a
      · subst q; simp
      · simp only [q, decide_false, ih, List.mem_cons, false_or]
  simp only [this]
  by_cases q : k ∈ ks <;> simp [q]
theorem upM_mset (hE : ∀ a b, eqLeaf (kE a) (kE b) = some (decide (a = b))) {h : Tr AB} {id : Nat} {k : α} {ks : List α} (hn : ¬ k ∈ ks) : upM h id (kE k) (.b true) (some (.map (mset kE ks))) = some (h.put id (some (.map (mset kE (ks ++ [k]))))) := by
  unfold upM
  have : updE (kE k) (.b true) (mset kE ks) = some (mset kE (ks ++ [k])) := by
    induction ks with
    | nil => rfl
    | cons a ks ih =>
      simp only [List.mem_cons, not_or] at hn
      have ih' := ih hn.2
      unfold mset at ih' ⊢
      simp only [List.map_cons, updE, hE, hn.1, decide_false, ih', Option.map_some, List.cons_append]
  simp only [this]
end
theorem eqS (a b : List UInt8) : eqLeaf (.s a) (.s b) = some (decide (a = b)) := by
  show some (a == b) = _
  congr 1; rw [Bool.eq_iff_iff]; simp
def kI (n : Int) : AV := .i .i64 n
theorem eqI (a b : Int) : eqLeaf (kI a) (kI b) = some (decide (a = b)) := by
  unfold kI eqLeaf; simp only [if_true]; congr 1
theorem look_75 {h : Tr AB} {id : Nat} {k : List UInt8} : evLookup T0 h 75 (.mp id) (.s k) false = lkM (.s k) (h.get id) := by
  have e1 : T0.ty 75 = some (.map 9 4) := by kernel_rfl
  have e2 : T0.ty 9 = some .string := by kernel_rfl
  have e3 : T0.zr 4 = some (.b false) := by kernel_rfl
  unfold evLookup lkM
  simp only [e1, e2, e3, keyOK]
  generalize h.get id = b
  match b with
  | none => rfl
  | some (.map es) => simp only; generalize findE (.s k) es = q; match q with
    | none => rfl
    | some none => rfl
    | some (some v) => rfl
  | some (.cells _ _ _) => rfl
  | some (.siter _ _) => rfl
theorem look_74 {h : Tr AB} {id : Nat} {k : Int} : evLookup T0 h 74 (.mp id) (.i .i64 k) false = lkM (kI k) (h.get id) := by
  have e1 : T0.ty 74 = some (.map 3 4) := by kernel_rfl
  have e2 : T0.ty 3 = some (.int .i64) := by kernel_rfl
  have e3 : T0.zr 4 = some (.b false) := by kernel_rfl
  unfold evLookup lkM kI
  simp only [e1, e2, e3, keyOK]
  generalize h.get id = b
  match b with
  | none => rfl
  | some (.map es) => simp only; generalize findE (.i .i64 k) es = q; match q with
    | none => rfl
    | some none => rfl
    | some (some v) => rfl
  | some (.cells _ _ _) => rfl
  | some (.siter _ _) => rfl
theorem upd_75 {h : Tr AB} {id : Nat} {k : List UInt8} {v : AV} : evMapUpdate T0 h 75 (.mp id) (.s k) v = upM h id (.s k) v (h.get id) := by
  have e1 : T0.ty 75 = some (.map 9 4) := by kernel_rfl
  have e2 : T0.ty 9 = some .string := by kernel_rfl
  unfold evMapUpdate upM
  simp only [e1, e2, keyOK]
  rfl
theorem upd_74 {h : Tr AB} {id : Nat} {k : Int} {v : AV} : evMapUpdate T0 h 74 (.mp id) (.i .i64 k) v = upM h id (kI k) v (h.get id) := by
  have e1 : T0.ty 74 = some (.map 3 4) := by kernel_rfl
  have e2 : T0.ty 3 = some (.int .i64) := by kernel_rfl
  unfold evMapUpdate upM kI
  simp only [e1, e2, keyOK]
  rfl
theorem take_snoc {α : Type} [Inhabited α] {l : List α} {j : Nat} (hj : j < l.length) : l.take (j + 1) = l.take j ++ [l.getD j default] := by
  rw [List.take_add_one, List.getD_eq_getElem?_getD, List.getElem?_eq_getElem hj]; rfl

def finAt (l : List (List UInt8)) (j : Nat) : Bool := vname (l.getD j default) && !decide (l.getD j default ∈ l.take j)
def vfins (l : List (List UInt8)) : Bool := (List.range l.length).all (finAt l) && decide (l.length ≤ 16)
theorem c30 (l : List (List UInt8)) (hl : l.length ≤ 140737488351232) (ho : ∀ x ∈ l, x.length ≤ 140737488351232) : R T0 30 [.lst (l.map AV.s)] (.b (vfins l)) := by
  have hn : ∀ j, (l.getD j default).length ≤ 140737488351232 := getD_all (p := fun x : List UInt8 => x.length ≤ 140737488351232) (by simp [default]) ho
  refine r30 _ rfl rfl ?_
  unfold w30
  dsimp only [prims]
  simp (disch := first | omega | exact hk _ | exact hv _ | exact hn _ | exact hf _ | assumption | exact clen_Lb | exact clen_Ow | exact clen_Mg | exact clen_Mt | exact scell | (simp only [clen_Lb, clen_Ow, clen_Mg, clen_Mt]; omega)) only [Nat.zero_add, oV_some', oN_eq, oM_some, oH_some, oD_some, oE_some, oS_eq, oT_true, oI_true, oI_false, pick_t, pick_f, un_not, oI_not, decide_not, toNat_sub1, toNat_add1, decide_true, decide_false, not_true, not_false_eq_true, Bool.not_true, Bool.not_false, Bool.not_not, oZ_b, oZ_i, oZ_s, oZ_l, slen_map, wr64, Int.toNat_natCast, Int.toNat_zero, ne_eq, bin_lt, bin_slt, bin_le, b_sle, bin_add, load_get, loadB_some, get_put_same, get_put_ne, ofc_s, load_i, ofc_encOw, ofc0_encOw, st_Ow, fld_Ow_kind, fld_Ow_name, fld_Ow_uid, fld_Ow_ctl, fld_Ow_blk, prt_Ow_kind, prt_Ow_name, prt_Ow_uid, prt_Ow_ctl, prt_Ow_blk, ofc_encMg, ofc0_encMg, st_Mg, fld_Mg_name, fld_Mg_fields, prt_Mg_name, prt_Mg_fields, len_23, ia_23, len_24, ia_24, len_25, ia_25, gtt_3, gff_3, gtf_3, gft_3, gvv_3, gnt_3, gnf_3]
  refine loop5 (X := Nat) (fun _ => .lst (l.map AV.s)) (fun _ => .mp 0) (fun _ => .lst (l.map AV.s)) (fun _ => .i .i64 l.length) (fun j => .i .i64 j) (fun j σ => j ≤ l.length ∧ (List.range j).all (finAt l) = true ∧ σ.h.get 0 = some (.map (mset AV.s (l.take j)))) (fun j => l.length - j) ?_ 0 _ ⟨Nat.zero_le _, rfl, by rw [get_put_same]; rfl⟩
  rintro R j σ ⟨hj, ha, hg⟩ hR
  simp (disch := first | omega | exact hk _ | exact hv _ | exact hn _ | exact hf _ | assumption | exact clen_Lb | exact clen_Ow | exact clen_Mg | exact clen_Mt | exact scell | (simp only [clen_Lb, clen_Ow, clen_Mg, clen_Mt]; omega)) only [Nat.zero_add, oV_some', oN_eq, oM_some, oH_some, oD_some, oE_some, oS_eq, oT_true, oI_true, oI_false, pick_t, pick_f, un_not, oI_not, decide_not, toNat_sub1, toNat_add1, decide_true, decide_false, not_true, not_false_eq_true, Bool.not_true, Bool.not_false, Bool.not_not, oZ_b, oZ_i, oZ_s, oZ_l, slen_map, wr64, Int.toNat_natCast, Int.toNat_zero, ne_eq, bin_lt, bin_slt, bin_le, b_sle, bin_add, load_get, loadB_some, get_put_same, get_put_ne, ofc_s, load_i, ofc_encOw, ofc0_encOw, st_Ow, fld_Ow_kind, fld_Ow_name, fld_Ow_uid, fld_Ow_ctl, fld_Ow_blk, prt_Ow_kind, prt_Ow_name, prt_Ow_uid, prt_Ow_ctl, prt_Ow_blk, ofc_encMg, ofc0_encMg, st_Mg, fld_Mg_name, fld_Mg_fields, prt_Mg_name, prt_Mg_fields, len_23, ia_23, len_24, ia_24, len_25, ia_25, gtt_3, gff_3, gtf_3, gft_3, gvv_3, gnt_3, gnf_3, e13, look_75, upd_75, hg, lkM_mset eqS, upM_mset eqS]
  repeat' ((first | with_reducible refine oI_decd (fun h => ?_) (fun h => ?_) | with_reducible refine gdt_3 (fun h => ?_) (fun h => ?_) | with_reducible refine gdf_3 (fun h => ?_) (fun h => ?_) | with_reducible refine gbt_3 (fun h => ?_) (fun h => ?_) | with_reducible refine gbf_3 (fun h => ?_) (fun h => ?_) | with_reducible refine oI_bool (fun h => ?_) (fun h => ?_)) <;> try simp (disch := first | omega | exact hk _ | exact hv _ | exact hn _ | exact hf _ | assumption | exact clen_Lb | exact clen_Ow | exact clen_Mg | exact clen_Mt | exact scell | (simp only [clen_Lb, clen_Ow, clen_Mg, clen_Mt]; omega)) only [h, Nat.zero_add, oV_some', oN_eq, oM_some, oH_some, oD_some, oE_some, oS_eq, oT_true, oI_true, oI_false, pick_t, pick_f, un_not, oI_not, decide_not, toNat_sub1, toNat_add1, decide_true, decide_false, not_true, not_false_eq_true, Bool.not_true, Bool.not_false, Bool.not_not, oZ_b, oZ_i, oZ_s, oZ_l, slen_map, wr64, Int.toNat_natCast, Int.toNat_zero, ne_eq, bin_lt, bin_slt, bin_le, b_sle, bin_add, load_get, loadB_some, get_put_same, get_put_ne, ofc_s, load_i, ofc_encOw, ofc0_encOw, st_Ow, fld_Ow_kind, fld_Ow_name, fld_Ow_uid, fld_Ow_ctl, fld_Ow_blk, prt_Ow_kind, prt_Ow_name, prt_Ow_uid, prt_Ow_ctl, prt_Ow_blk, ofc_encMg, ofc0_encMg, st_Mg, fld_Mg_name, fld_Mg_fields, prt_Mg_name, prt_Mg_fields, len_23, ia_23, len_24, ia_24, len_25, ia_25, gtt_3, gff_3, gtf_3, gft_3, gvv_3, gnt_3, gnf_3, e13, look_75, upd_75, hg, lkM_mset eqS, upM_mset eqS])
  all_goals first
    | exact hR (j + 1) _ ⟨by omega, rall_succ ha (by simp only [finAt, *, Bool.true_or, Bool.false_or, decide_true, decide_false, Bool.not_true, Bool.not_false, or_true, true_or, or_false, false_or, not_true, not_false_eq_true, not_true_eq_false, and_false, Bool.or_false, Bool.or_true, Bool.and_false, Bool.and_true, true_and, and_true, Bool.or_eq_true, Bool.and_eq_true, decide_eq_true_eq, ne_eq, Bool.not_eq_true', decide_eq_false_iff_not, iff_true, true_iff, false_iff, iff_false, Bool.true_eq, Bool.false_eq_true, reduceCtorEq, Bool.false_and, Bool.true_and, false_and]; first | done | omega | (left; omega) | (right; omega) | skip), by rw [get_put_same, take_snoc (by omega)]⟩ (by omega)
    | (rw [vfins, rall_false (p := finAt l) (j := j) (by omega) (by simp only [finAt, *, Bool.or_eq_false_iff, Bool.and_eq_false_iff, decide_eq_false_iff_not, ne_eq, Bool.true_or, Bool.false_or, decide_true, decide_false, Bool.not_true, Bool.not_false, or_true, true_or, or_false, false_or, not_true, not_false_eq_true, not_true_eq_false, and_false, Bool.or_false, Bool.or_true, Bool.and_false, Bool.and_true, true_and, and_true, Bool.or_eq_true, Bool.and_eq_true, decide_eq_true_eq, ne_eq, Bool.not_eq_true', decide_eq_false_iff_not, iff_true, true_iff, false_iff, iff_false, Bool.true_eq, Bool.false_eq_true, reduceCtorEq, Bool.false_and, Bool.true_and, false_and]; first | done | omega | (left; omega) | (right; omega) | skip)]; rfl)
    | (apply congrArg AV.b; rw [vfins, rall_of ha hj (by omega), Bool.eq_iff_iff]; simp only [Bool.true_or, Bool.false_or, decide_true, decide_false, Bool.not_true, Bool.not_false, or_true, true_or, or_false, false_or, not_true, not_false_eq_true, not_true_eq_false, and_false, Bool.or_false, Bool.or_true, Bool.and_false, Bool.and_true, true_and, and_true, Bool.or_eq_true, Bool.and_eq_true, decide_eq_true_eq, ne_eq, Bool.not_eq_true', decide_eq_false_iff_not, iff_true, true_iff, false_iff, iff_false, Bool.true_eq, Bool.false_eq_true, reduceCtorEq, Bool.false_and, Bool.true_and, false_and]; first | omega | (constructor <;> intro _ <;> omega))
theorem mem_take_snoc {α : Type} [Inhabited α] {l : List α} {k : Nat} {x : α} (hk : k < l.length) : x ∈ l.take (k + 1) ↔ x ∈ l.take k ∨ x = l.getD k default := by
  rw [take_snoc hk, List.mem_append, List.mem_singleton]
theorem c35 (l : List (List UInt8)) (hl : l.length ≤ 140737488351232) (ho : ∀ x ∈ l, x.length ≤ 140737488351232) : R T0 35 [.lst (l.map AV.s)] (.b (vfins l)) := by
  have hn : ∀ j, (l.getD j default).length ≤ 140737488351232 := getD_all (p := fun x : List UInt8 => x.length ≤ 140737488351232) (by simp [default]) ho
  refine r35 _ rfl rfl ?_
  unfold w35
  dsimp only [prims]
  refine loop2 (X := Nat) (fun _ => .lst (l.map AV.s)) (fun j => .i .i64 j) (fun j σ => j ≤ l.length ∧ (List.range j).all (finAt l) = true) (fun j => l.length - j) ?_ 0 _ ⟨Nat.zero_le _, rfl⟩
  rintro R j σ ⟨hj, ha⟩ hR
  simp (disch := first | omega | exact hk _ | exact hv _ | exact hn _ | exact hf _ | assumption | exact clen_Lb | exact clen_Ow | exact clen_Mg | exact clen_Mt | exact scell | (simp only [clen_Lb, clen_Ow, clen_Mg, clen_Mt]; omega)) only [Nat.zero_add, oV_some', oN_eq, oM_some, oH_some, oD_some, oE_some, oS_eq, oT_true, oI_true, oI_false, pick_t, pick_f, un_not, oI_not, decide_not, toNat_sub1, toNat_add1, decide_true, decide_false, not_true, not_false_eq_true, Bool.not_true, Bool.not_false, Bool.not_not, oZ_b, oZ_i, oZ_s, oZ_l, slen_map, wr64, Int.toNat_natCast, Int.toNat_zero, ne_eq, bin_lt, bin_slt, bin_le, b_sle, bin_eq, b_snil, beq_4, bin_add, load_get, loadB_some, get_put_same, get_put_ne, ofc_s, load_i, ofc_encMg, ofc0_encMg, st_Mg, fld_Mg_name, fld_Mg_fields, prt_Mg_name, prt_Mg_fields, len_24, ia_24, len_25, ia_25, e14]
  repeat' ((first | with_reducible refine oI_decd (fun h => ?_) (fun h => ?_)  | with_reducible refine oI_bool (fun h => ?_) (fun h => ?_)) <;> try simp (disch := first | omega | exact hk _ | exact hv _ | exact hn _ | exact hf _ | assumption | exact clen_Lb | exact clen_Ow | exact clen_Mg | exact clen_Mt | exact scell | (simp only [clen_Lb, clen_Ow, clen_Mg, clen_Mt]; omega)) only [h, Nat.zero_add, oV_some', oN_eq, oM_some, oH_some, oD_some, oE_some, oS_eq, oT_true, oI_true, oI_false, pick_t, pick_f, un_not, oI_not, decide_not, toNat_sub1, toNat_add1, decide_true, decide_false, not_true, not_false_eq_true, Bool.not_true, Bool.not_false, Bool.not_not, oZ_b, oZ_i, oZ_s, oZ_l, slen_map, wr64, Int.toNat_natCast, Int.toNat_zero, ne_eq, bin_lt, bin_slt, bin_le, b_sle, bin_eq, b_snil, beq_4, bin_add, load_get, loadB_some, get_put_same, get_put_ne, ofc_s, load_i, ofc_encMg, ofc0_encMg, st_Mg, fld_Mg_name, fld_Mg_fields, prt_Mg_name, prt_Mg_fields, len_24, ia_24, len_25, ia_25, e14])
  all_goals first
    | (rw [vfins, rall_false (p := finAt l) (j := j) (by omega) (by simp only [finAt, *, Bool.or_eq_false_iff, Bool.and_eq_false_iff, decide_eq_false_iff_not, ne_eq, Bool.true_or, Bool.false_or, decide_true, decide_false, Bool.not_true, Bool.not_false, or_true, true_or, or_false, false_or, not_true, not_false_eq_true, not_true_eq_false, and_false, Bool.or_false, Bool.or_true, Bool.and_false, Bool.and_true, true_and, and_true, Bool.or_eq_true, Bool.and_eq_true, decide_eq_true_eq, ne_eq, Bool.not_eq_true', decide_eq_false_iff_not, iff_true, true_iff, false_iff, iff_false, Bool.true_eq, Bool.false_eq_true, reduceCtorEq, Bool.false_and, Bool.true_and, false_and]; first | done | omega | (left; omega) | (right; omega) | skip)]; rfl)
    | (apply congrArg AV.b; rw [vfins, rall_of ha hj (by omega), Bool.eq_iff_iff]; simp only [Bool.true_or, Bool.false_or, decide_true, decide_false, Bool.not_true, Bool.not_false, or_true, true_or, or_false, false_or, not_true, not_false_eq_true, not_true_eq_false, and_false, Bool.or_false, Bool.or_true, Bool.and_false, Bool.and_true, true_and, and_true, Bool.or_eq_true, Bool.and_eq_true, decide_eq_true_eq, ne_eq, Bool.not_eq_true', decide_eq_false_iff_not, iff_true, true_iff, false_iff, iff_false, Bool.true_eq, Bool.false_eq_true, reduceCtorEq, Bool.false_and, Bool.true_and, false_and]; first | omega | (constructor <;> intro _ <;> omega))
    | skip
  refine loop3 (X := Nat) (fun _ => .lst (l.map AV.s)) (fun _ => .i .i64 j) (fun k => .i .i64 k) (fun k σ => k ≤ j ∧ ¬ l.getD j default ∈ l.take k) (fun k => j - k) ?_ 0 _ ⟨Nat.zero_le _, by simp⟩
  rintro R2 k σ2 ⟨hk2, hm⟩ hR2
  simp (disch := first | omega | exact hk _ | exact hv _ | exact hn _ | exact hf _ | assumption | exact clen_Lb | exact clen_Ow | exact clen_Mg | exact clen_Mt | exact scell | (simp only [clen_Lb, clen_Ow, clen_Mg, clen_Mt]; omega)) only [Nat.zero_add, oV_some', oN_eq, oM_some, oH_some, oD_some, oE_some, oS_eq, oT_true, oI_true, oI_false, pick_t, pick_f, un_not, oI_not, decide_not, toNat_sub1, toNat_add1, decide_true, decide_false, not_true, not_false_eq_true, Bool.not_true, Bool.not_false, Bool.not_not, oZ_b, oZ_i, oZ_s, oZ_l, slen_map, wr64, Int.toNat_natCast, Int.toNat_zero, ne_eq, bin_lt, bin_slt, bin_le, b_sle, bin_eq, b_snil, beq_4, bin_add, load_get, loadB_some, get_put_same, get_put_ne, ofc_s, load_i, ofc_encMg, ofc0_encMg, st_Mg, fld_Mg_name, fld_Mg_fields, prt_Mg_name, prt_Mg_fields, len_24, ia_24, len_25, ia_25, b_seq]
  repeat' ((first | with_reducible refine oI_decd (fun h => ?_) (fun h => ?_)  | with_reducible refine oI_bool (fun h => ?_) (fun h => ?_)) <;> try simp (disch := first | omega | exact hk _ | exact hv _ | exact hn _ | exact hf _ | assumption | exact clen_Lb | exact clen_Ow | exact clen_Mg | exact clen_Mt | exact scell | (simp only [clen_Lb, clen_Ow, clen_Mg, clen_Mt]; omega)) only [h, Nat.zero_add, oV_some', oN_eq, oM_some, oH_some, oD_some, oE_some, oS_eq, oT_true, oI_true, oI_false, pick_t, pick_f, un_not, oI_not, decide_not, toNat_sub1, toNat_add1, decide_true, decide_false, not_true, not_false_eq_true, Bool.not_true, Bool.not_false, Bool.not_not, oZ_b, oZ_i, oZ_s, oZ_l, slen_map, wr64, Int.toNat_natCast, Int.toNat_zero, ne_eq, bin_lt, bin_slt, bin_le, b_sle, bin_eq, b_snil, beq_4, bin_add, load_get, loadB_some, get_put_same, get_put_ne, ofc_s, load_i, ofc_encMg, ofc0_encMg, st_Mg, fld_Mg_name, fld_Mg_fields, prt_Mg_name, prt_Mg_fields, len_24, ia_24, len_25, ia_25, b_seq])
  all_goals first
    | exact hR2 (k + 1) _ ⟨by omega, by rw [mem_take_snoc (by omega), not_or]; exact ⟨hm, fun q => h q.symm⟩⟩ (by omega)
    | (obtain rfl : k = j := by omega
       exact hR (k + 1) _ ⟨by omega, rall_succ ha (by simp only [finAt, *, Bool.true_or, Bool.false_or, decide_true, decide_false, Bool.not_true, Bool.not_false, or_true, true_or, or_false, false_or, not_true, not_false_eq_true, not_true_eq_false, and_false, Bool.or_false, Bool.or_true, Bool.and_false, Bool.and_true, true_and, and_true, Bool.or_eq_true, Bool.and_eq_true, decide_eq_true_eq, ne_eq, Bool.not_eq_true', decide_eq_false_iff_not, iff_true, true_iff, false_iff, iff_false, Bool.true_eq, Bool.false_eq_true, reduceCtorEq, Bool.false_and, Bool.true_and, false_and])⟩ (by omega))
    | (rw [vfins, rall_false (p := finAt l) (j := j) (by omega) (by
        have : l.getD j default ∈ l.take j := by
          rw [← h]
          have hq : k < (l.take j).length := by rw [List.length_take]; omega
          have := List.getElem_mem hq
          rw [List.getElem_take] at this
          rw [List.getD_eq_getElem?_getD, List.getElem?_eq_getElem (by omega)]
          exact this
        simp only [finAt, this, Bool.true_or, Bool.false_or, decide_true, decide_false, Bool.not_true, Bool.not_false, or_true, true_or, or_false, false_or, not_true, not_false_eq_true, not_true_eq_false, and_false, Bool.or_false, Bool.or_true, Bool.and_false, Bool.and_true, true_and, and_true, Bool.or_eq_true, Bool.and_eq_true, decide_eq_true_eq, ne_eq, Bool.not_eq_true', decide_eq_false_iff_not, iff_true, true_iff, false_iff, iff_false, Bool.true_eq, Bool.false_eq_true, reduceCtorEq, Bool.false_and, Bool.true_and, false_and])]; rfl)

def okOw (x : Ow) : Prop := x.kind.length ≤ 140737488351232 ∧ x.name.length ≤ 140737488351232
def uids (l : List Ow) : List Int := l.map (·.uid)
def cnt (l : List Ow) : Nat := (l.filter (·.ctl)).length
def owAt (l : List Ow) (j : Nat) : Bool := vkind (l.getD j default).kind && vname (l.getD j default).name && decide (0 < (l.getD j default).uid) && !decide ((l.getD j default).uid ∈ uids (l.take j))
def vows (l : List Ow) : Bool := (List.range l.length).all (owAt l) && (decide (l.length ≤ 16) && decide (cnt l ≤ 1))
theorem cnt_snoc {l : List Ow} {j : Nat} (hj : j < l.length) : cnt (l.take (j + 1)) = cnt (l.take j) + if (l.getD j default).ctl then 1 else 0 := by
  unfold cnt
  rw [take_snoc hj, List.filter_append, List.length_append]
  congr 1
  generalize l.getD j default = x
  cases h : x.ctl <;> simp [h]
theorem cnt_le (l : List Ow) (j : Nat) : cnt (l.take j) ≤ j := by
  unfold cnt
  refine Nat.le_trans (List.length_filter_le _ _) ?_
  rw [List.length_take]; omega
theorem uids_snoc {l : List Ow} {j : Nat} (hj : j < l.length) : uids (l.take (j + 1)) = uids (l.take j) ++ [(l.getD j default).uid] := by
  unfold uids; rw [take_snoc hj, List.map_append]; rfl
theorem kI_eq (n : Int) : AV.i .i64 n = kI n := rfl
theorem c29 (l : List Ow) (hl : l.length ≤ 140737488351232) (ho : ∀ x ∈ l, okOw x) : R T0 29 [.lst (l.map encOw)] (.b (vows l)) := by
  have hk : ∀ j, (l.getD j default).kind.length ≤ 140737488351232 := fun j => (getD_all (p := okOw) (by simp [okOw, default]) ho j).1
  have hn : ∀ j, (l.getD j default).name.length ≤ 140737488351232 := fun j => (getD_all (p := okOw) (by simp [okOw, default]) ho j).2
  refine r29 _ rfl rfl ?_
  unfold w29
  dsimp only [prims]
  simp (disch := first | omega | exact hk _ | exact hv _ | exact hn _ | exact hf _ | assumption | exact clen_Lb | exact clen_Ow | exact clen_Mg | exact clen_Mt | exact scell | (simp only [clen_Lb, clen_Ow, clen_Mg, clen_Mt]; omega)) only [Nat.zero_add, oV_some', oN_eq, oM_some, oH_some, oD_some, oE_some, oS_eq, oT_true, oI_true, oI_false, pick_t, pick_f, un_not, oI_not, decide_not, toNat_sub1, toNat_add1, decide_true, decide_false, not_true, not_false_eq_true, Bool.not_true, Bool.not_false, Bool.not_not, oZ_b, oZ_i, oZ_s, oZ_l, slen_map, wr64, Int.toNat_natCast, Int.toNat_zero, ne_eq, bin_lt, bin_slt, bin_le, b_sle, bin_add, load_get, loadB_some, get_put_same, get_put_ne, ofc_s, load_i, off_i, off_p, ofc_encLb, ofc0_encLb, st_Lb, fld_Lb_k, fld_Lb_v, prt_Lb_k, prt_Lb_v, ofc_encOw, ofc0_encOw, st_Ow, fld_Ow_kind, fld_Ow_name, fld_Ow_uid, fld_Ow_ctl, fld_Ow_blk, prt_Ow_kind, prt_Ow_name, prt_Ow_uid, prt_Ow_ctl, prt_Ow_blk, ofc_encMg, ofc0_encMg, st_Mg, fld_Mg_name, fld_Mg_fields, prt_Mg_name, prt_Mg_fields, ofc_encMt, ofc0_encMt, st_Mt, fld_Mt_kind, fld_Mt_ns, fld_Mt_name, fld_Mt_uid, fld_Mt_ver, fld_Mt_gen, fld_Mt_created, fld_Mt_deleting, fld_Mt_delAt, fld_Mt_labels, fld_Mt_owners, fld_Mt_fins, fld_Mt_mgrs, prt_Mt_kind, prt_Mt_ns, prt_Mt_name, prt_Mt_uid, prt_Mt_ver, prt_Mt_gen, prt_Mt_created, prt_Mt_deleting, prt_Mt_delAt, prt_Mt_labels, prt_Mt_owners, prt_Mt_fins, prt_Mt_mgrs, len_22, ia_22, len_23, ia_23, len_25, ia_25, join6_eq, gtt_2, gff_2, gtf_2, gft_2, gvv_2, gnt_2, gnf_2, gtt_3, gff_3, gtf_3, gft_3, gvv_3, gnt_3, gnf_3, gtt_4, gff_4, gtf_4, gft_4, gvv_4, gnt_4, gnf_4]
  refine loop6 (X := Nat) (fun j => .i .i64 (cnt (l.take j))) (fun _ => .lst (l.map encOw)) (fun _ => .mp 0) (fun _ => .lst (l.map encOw)) (fun _ => .i .i64 l.length) (fun j => .i .i64 j) (fun j σ => j ≤ l.length ∧ (List.range j).all (owAt l) = true ∧ σ.h.get 0 = some (.map (mset kI (uids (l.take j)))) ∧ 1 ≤ σ.n) (fun j => l.length - j) ?_ 0 _ ⟨Nat.zero_le _, rfl, by rw [get_put_same]; rfl, Nat.le_refl _⟩
  rintro R j σ ⟨hj, ha, hg, hn1⟩ hR
  have hc := cnt_le l j
  simp (disch := first | omega | exact hk _ | exact hv _ | exact hn _ | exact hf _ | assumption | exact clen_Lb | exact clen_Ow | exact clen_Mg | exact clen_Mt | exact scell | (simp only [clen_Lb, clen_Ow, clen_Mg, clen_Mt]; omega)) only [Nat.zero_add, oV_some', oN_eq, oM_some, oH_some, oD_some, oE_some, oS_eq, oT_true, oI_true, oI_false, pick_t, pick_f, un_not, oI_not, decide_not, toNat_sub1, toNat_add1, decide_true, decide_false, not_true, not_false_eq_true, Bool.not_true, Bool.not_false, Bool.not_not, oZ_b, oZ_i, oZ_s, oZ_l, slen_map, wr64, Int.toNat_natCast, Int.toNat_zero, ne_eq, bin_lt, bin_slt, bin_le, b_sle, bin_add, load_get, loadB_some, get_put_same, get_put_ne, ofc_s, load_i, off_i, off_p, ofc_encLb, ofc0_encLb, st_Lb, fld_Lb_k, fld_Lb_v, prt_Lb_k, prt_Lb_v, ofc_encOw, ofc0_encOw, st_Ow, fld_Ow_kind, fld_Ow_name, fld_Ow_uid, fld_Ow_ctl, fld_Ow_blk, prt_Ow_kind, prt_Ow_name, prt_Ow_uid, prt_Ow_ctl, prt_Ow_blk, ofc_encMg, ofc0_encMg, st_Mg, fld_Mg_name, fld_Mg_fields, prt_Mg_name, prt_Mg_fields, ofc_encMt, ofc0_encMt, st_Mt, fld_Mt_kind, fld_Mt_ns, fld_Mt_name, fld_Mt_uid, fld_Mt_ver, fld_Mt_gen, fld_Mt_created, fld_Mt_deleting, fld_Mt_delAt, fld_Mt_labels, fld_Mt_owners, fld_Mt_fins, fld_Mt_mgrs, prt_Mt_kind, prt_Mt_ns, prt_Mt_name, prt_Mt_uid, prt_Mt_ver, prt_Mt_gen, prt_Mt_created, prt_Mt_deleting, prt_Mt_delAt, prt_Mt_labels, prt_Mt_owners, prt_Mt_fins, prt_Mt_mgrs, len_22, ia_22, len_23, ia_23, len_25, ia_25, join6_eq, gtt_2, gff_2, gtf_2, gft_2, gvv_2, gnt_2, gnf_2, gtt_3, gff_3, gtf_3, gft_3, gvv_3, gnt_3, gnf_3, gtt_4, gff_4, gtf_4, gft_4, gvv_4, gnt_4, gnf_4, e26, e13, look_74, upd_74, hg, lkM_mset eqI, upM_mset eqI]
  repeat' ((first | with_reducible refine oI_decd (fun h => ?_) (fun h => ?_) | with_reducible refine gdt_2 (fun h => ?_) (fun h => ?_) | with_reducible refine gdt_3 (fun h => ?_) (fun h => ?_) | with_reducible refine gdt_4 (fun h => ?_) (fun h => ?_) | with_reducible refine gdf_2 (fun h => ?_) (fun h => ?_) | with_reducible refine gdf_3 (fun h => ?_) (fun h => ?_) | with_reducible refine gdf_4 (fun h => ?_) (fun h => ?_) | with_reducible refine gbt_2 (fun h => ?_) (fun h => ?_) | with_reducible refine gbt_3 (fun h => ?_) (fun h => ?_) | with_reducible refine gbt_4 (fun h => ?_) (fun h => ?_) | with_reducible refine gbf_2 (fun h => ?_) (fun h => ?_) | with_reducible refine gbf_3 (fun h => ?_) (fun h => ?_) | with_reducible refine gbf_4 (fun h => ?_) (fun h => ?_) | with_reducible refine oI_bool (fun h => ?_) (fun h => ?_)) <;> try simp (disch := first | omega | exact hk _ | exact hv _ | exact hn _ | exact hf _ | assumption | exact clen_Lb | exact clen_Ow | exact clen_Mg | exact clen_Mt | exact scell | (simp only [clen_Lb, clen_Ow, clen_Mg, clen_Mt]; omega)) only [h, Nat.zero_add, oV_some', oN_eq, oM_some, oH_some, oD_some, oE_some, oS_eq, oT_true, oI_true, oI_false, pick_t, pick_f, un_not, oI_not, decide_not, toNat_sub1, toNat_add1, decide_true, decide_false, not_true, not_false_eq_true, Bool.not_true, Bool.not_false, Bool.not_not, oZ_b, oZ_i, oZ_s, oZ_l, slen_map, wr64, Int.toNat_natCast, Int.toNat_zero, ne_eq, bin_lt, bin_slt, bin_le, b_sle, bin_add, load_get, loadB_some, get_put_same, get_put_ne, ofc_s, load_i, off_i, off_p, ofc_encLb, ofc0_encLb, st_Lb, fld_Lb_k, fld_Lb_v, prt_Lb_k, prt_Lb_v, ofc_encOw, ofc0_encOw, st_Ow, fld_Ow_kind, fld_Ow_name, fld_Ow_uid, fld_Ow_ctl, fld_Ow_blk, prt_Ow_kind, prt_Ow_name, prt_Ow_uid, prt_Ow_ctl, prt_Ow_blk, ofc_encMg, ofc0_encMg, st_Mg, fld_Mg_name, fld_Mg_fields, prt_Mg_name, prt_Mg_fields, ofc_encMt, ofc0_encMt, st_Mt, fld_Mt_kind, fld_Mt_ns, fld_Mt_name, fld_Mt_uid, fld_Mt_ver, fld_Mt_gen, fld_Mt_created, fld_Mt_deleting, fld_Mt_delAt, fld_Mt_labels, fld_Mt_owners, fld_Mt_fins, fld_Mt_mgrs, prt_Mt_kind, prt_Mt_ns, prt_Mt_name, prt_Mt_uid, prt_Mt_ver, prt_Mt_gen, prt_Mt_created, prt_Mt_deleting, prt_Mt_delAt, prt_Mt_labels, prt_Mt_owners, prt_Mt_fins, prt_Mt_mgrs, len_22, ia_22, len_23, ia_23, len_25, ia_25, join6_eq, gtt_2, gff_2, gtf_2, gft_2, gvv_2, gnt_2, gnf_2, gtt_3, gff_3, gtf_3, gft_3, gvv_3, gnt_3, gnf_3, gtt_4, gff_4, gtf_4, gft_4, gvv_4, gnt_4, gnf_4, e26, e13, look_74, upd_74, hg, lkM_mset eqI, upM_mset eqI])
  all_goals first
    | (have e1 : cnt (l.take (j + 1)) = cnt (l.take j) + 1 := by rw [cnt_snoc (by omega), if_pos h]
       have e2 : ((cnt (l.take j) : Nat) : Int) + 1 = ((cnt (l.take (j + 1)) : Nat) : Int) := by omega
       rw [e2]
       exact hR (j + 1) _ ⟨by omega, rall_succ ha (by simp only [owAt, *, Bool.true_or, Bool.false_or, decide_true, decide_false, Bool.not_true, Bool.not_false, or_true, true_or, or_false, false_or, not_true, not_false_eq_true, not_true_eq_false, and_false, Bool.or_false, Bool.or_true, Bool.and_false, Bool.and_true, true_and, and_true, Bool.or_eq_true, Bool.and_eq_true, decide_eq_true_eq, ne_eq, Bool.not_eq_true', decide_eq_false_iff_not, iff_true, true_iff, false_iff, iff_false, Bool.true_eq, Bool.false_eq_true, reduceCtorEq, Bool.false_and, Bool.true_and, false_and]; first | done | omega | (left; omega) | (right; omega) | skip), by rw [get_put_same, uids_snoc (by omega)], Nat.le_succ_of_le hn1⟩ (by omega))
    | (have e1 : cnt (l.take (j + 1)) = cnt (l.take j) := by rw [cnt_snoc (by omega), if_neg (fun q => Bool.noConfusion (h.symm.trans q)), Nat.add_zero]
       rw [← e1]
       exact hR (j + 1) _ ⟨by omega, rall_succ ha (by simp only [owAt, *, Bool.true_or, Bool.false_or, decide_true, decide_false, Bool.not_true, Bool.not_false, or_true, true_or, or_false, false_or, not_true, not_false_eq_true, not_true_eq_false, and_false, Bool.or_false, Bool.or_true, Bool.and_false, Bool.and_true, true_and, and_true, Bool.or_eq_true, Bool.and_eq_true, decide_eq_true_eq, ne_eq, Bool.not_eq_true', decide_eq_false_iff_not, iff_true, true_iff, false_iff, iff_false, Bool.true_eq, Bool.false_eq_true, reduceCtorEq, Bool.false_and, Bool.true_and, false_and]; first | done | omega | (left; omega) | (right; omega) | skip), by rw [get_put_same, uids_snoc (by omega)], Nat.le_succ_of_le hn1⟩ (by omega))
    | (rw [vows, rall_false (p := owAt l) (j := j) (by omega) (by simp only [owAt, *, Bool.or_eq_false_iff, Bool.and_eq_false_iff, decide_eq_false_iff_not, ne_eq, Bool.true_or, Bool.false_or, decide_true, decide_false, Bool.not_true, Bool.not_false, or_true, true_or, or_false, false_or, not_true, not_false_eq_true, not_true_eq_false, and_false, Bool.or_false, Bool.or_true, Bool.and_false, Bool.and_true, true_and, and_true, Bool.or_eq_true, Bool.and_eq_true, decide_eq_true_eq, ne_eq, Bool.not_eq_true', decide_eq_false_iff_not, iff_true, true_iff, false_iff, iff_false, Bool.true_eq, Bool.false_eq_true, reduceCtorEq, Bool.false_and, Bool.true_and, false_and]; first | done | omega | (left; omega) | (right; omega) | skip)]; rfl)
    | (have e : l.take j = l := List.take_of_length_le (by omega)
       rw [e] at *
       apply congrArg AV.b; rw [vows, rall_of ha hj (by omega), Bool.eq_iff_iff]; simp only [Bool.true_or, Bool.false_or, decide_true, decide_false, Bool.not_true, Bool.not_false, or_true, true_or, or_false, false_or, not_true, not_false_eq_true, not_true_eq_false, and_false, Bool.or_false, Bool.or_true, Bool.and_false, Bool.and_true, true_and, and_true, Bool.or_eq_true, Bool.and_eq_true, decide_eq_true_eq, ne_eq, Bool.not_eq_true', decide_eq_false_iff_not, iff_true, true_iff, false_iff, iff_false, Bool.true_eq, Bool.false_eq_true, reduceCtorEq, Bool.false_and, Bool.true_and, false_and]; first | omega | (constructor <;> intro _ <;> omega))
theorem mem_uids {l : List Ow} {k j : Nat} (hk : k < j) (hj : j ≤ l.length) : (l.getD k default).uid ∈ uids (l.take j) := by
  have hq : k < (l.take j).length := by rw [List.length_take]; omega
  have := List.getElem_mem hq
  rw [List.getElem_take] at this
  rw [List.getD_eq_getElem?_getD, List.getElem?_eq_getElem (by omega)]
  exact List.mem_map_of_mem this
theorem c34 (l : List Ow) (hl : l.length ≤ 140737488351232) (ho : ∀ x ∈ l, okOw x) : R T0 34 [.lst (l.map encOw)] (.b (vows l)) := by
  have hk : ∀ j, (l.getD j default).kind.length ≤ 140737488351232 := fun j => (getD_all (p := okOw) (by simp [okOw, default]) ho j).1
  have hn : ∀ j, (l.getD j default).name.length ≤ 140737488351232 := fun j => (getD_all (p := okOw) (by simp [okOw, default]) ho j).2
  refine r34 _ rfl rfl ?_
  unfold w34
  dsimp only [prims]
  refine loop3 (X := Nat) (fun j => .i .i64 (cnt (l.take j) : Nat)) (fun _ => .lst (l.map encOw)) (fun j => .i .i64 j) (fun j σ => j ≤ l.length ∧ (List.range j).all (owAt l) = true) (fun j => l.length - j) ?_ 0 _ ⟨Nat.zero_le _, rfl⟩
  rintro R j σ ⟨hj, ha⟩ hR
  have hc := cnt_le l j
  simp (disch := first | omega | exact hk _ | exact hv _ | exact hn _ | exact hf _ | assumption | exact clen_Lb | exact clen_Ow | exact clen_Mg | exact clen_Mt | exact scell | (simp only [clen_Lb, clen_Ow, clen_Mg, clen_Mt]; omega)) only [Nat.zero_add, oV_some', oN_eq, oM_some, oH_some, oD_some, oE_some, oS_eq, oT_true, oI_true, oI_false, pick_t, pick_f, un_not, oI_not, decide_not, toNat_sub1, toNat_add1, decide_true, decide_false, not_true, not_false_eq_true, Bool.not_true, Bool.not_false, Bool.not_not, oZ_b, oZ_i, oZ_s, oZ_l, slen_map, wr64, Int.toNat_natCast, Int.toNat_zero, ne_eq, bin_lt, bin_slt, bin_le, b_sle, bin_eq, b_snil, beq_4, bin_add, load_get, loadB_some, get_put_same, get_put_ne, ofc_s, load_i, off_i, off_p, ofc_encLb, ofc0_encLb, st_Lb, fld_Lb_k, fld_Lb_v, prt_Lb_k, prt_Lb_v, ofc_encOw, ofc0_encOw, st_Ow, fld_Ow_kind, fld_Ow_name, fld_Ow_uid, fld_Ow_ctl, fld_Ow_blk, prt_Ow_kind, prt_Ow_name, prt_Ow_uid, prt_Ow_ctl, prt_Ow_blk, ofc_encMg, ofc0_encMg, st_Mg, fld_Mg_name, fld_Mg_fields, prt_Mg_name, prt_Mg_fields, ofc_encMt, ofc0_encMt, st_Mt, fld_Mt_kind, fld_Mt_ns, fld_Mt_name, fld_Mt_uid, fld_Mt_ver, fld_Mt_gen, fld_Mt_created, fld_Mt_deleting, fld_Mt_delAt, fld_Mt_labels, fld_Mt_owners, fld_Mt_fins, fld_Mt_mgrs, prt_Mt_kind, prt_Mt_ns, prt_Mt_name, prt_Mt_uid, prt_Mt_ver, prt_Mt_gen, prt_Mt_created, prt_Mt_deleting, prt_Mt_delAt, prt_Mt_labels, prt_Mt_owners, prt_Mt_fins, prt_Mt_mgrs, len_22, ia_22, len_23, ia_23, len_24, ia_24, len_25, ia_25, join3_eq, gtt_2, gff_2, gtf_2, gft_2, gvv_2, gnt_2, gnf_2, gtt_6, gff_6, gtf_6, gft_6, gvv_6, gnt_6, gnf_6, gtt_7, gff_7, gtf_7, gft_7, gvv_7, gnt_7, gnf_7, e32, e14]
  repeat' ((first | with_reducible refine oI_decd (fun h => ?_) (fun h => ?_) | with_reducible refine gdt_2 (fun h => ?_) (fun h => ?_) | with_reducible refine gdt_6 (fun h => ?_) (fun h => ?_) | with_reducible refine gdt_7 (fun h => ?_) (fun h => ?_) | with_reducible refine gdf_2 (fun h => ?_) (fun h => ?_) | with_reducible refine gdf_6 (fun h => ?_) (fun h => ?_) | with_reducible refine gdf_7 (fun h => ?_) (fun h => ?_) | with_reducible refine gbt_2 (fun h => ?_) (fun h => ?_) | with_reducible refine gbt_6 (fun h => ?_) (fun h => ?_) | with_reducible refine gbt_7 (fun h => ?_) (fun h => ?_) | with_reducible refine gbf_2 (fun h => ?_) (fun h => ?_) | with_reducible refine gbf_6 (fun h => ?_) (fun h => ?_) | with_reducible refine gbf_7 (fun h => ?_) (fun h => ?_) | with_reducible refine oI_bool (fun h => ?_) (fun h => ?_)) <;> try simp (disch := first | omega | exact hk _ | exact hv _ | exact hn _ | exact hf _ | assumption | exact clen_Lb | exact clen_Ow | exact clen_Mg | exact clen_Mt | exact scell | (simp only [clen_Lb, clen_Ow, clen_Mg, clen_Mt]; omega)) only [h, Nat.zero_add, oV_some', oN_eq, oM_some, oH_some, oD_some, oE_some, oS_eq, oT_true, oI_true, oI_false, pick_t, pick_f, un_not, oI_not, decide_not, toNat_sub1, toNat_add1, decide_true, decide_false, not_true, not_false_eq_true, Bool.not_true, Bool.not_false, Bool.not_not, oZ_b, oZ_i, oZ_s, oZ_l, slen_map, wr64, Int.toNat_natCast, Int.toNat_zero, ne_eq, bin_lt, bin_slt, bin_le, b_sle, bin_eq, b_snil, beq_4, bin_add, load_get, loadB_some, get_put_same, get_put_ne, ofc_s, load_i, off_i, off_p, ofc_encLb, ofc0_encLb, st_Lb, fld_Lb_k, fld_Lb_v, prt_Lb_k, prt_Lb_v, ofc_encOw, ofc0_encOw, st_Ow, fld_Ow_kind, fld_Ow_name, fld_Ow_uid, fld_Ow_ctl, fld_Ow_blk, prt_Ow_kind, prt_Ow_name, prt_Ow_uid, prt_Ow_ctl, prt_Ow_blk, ofc_encMg, ofc0_encMg, st_Mg, fld_Mg_name, fld_Mg_fields, prt_Mg_name, prt_Mg_fields, ofc_encMt, ofc0_encMt, st_Mt, fld_Mt_kind, fld_Mt_ns, fld_Mt_name, fld_Mt_uid, fld_Mt_ver, fld_Mt_gen, fld_Mt_created, fld_Mt_deleting, fld_Mt_delAt, fld_Mt_labels, fld_Mt_owners, fld_Mt_fins, fld_Mt_mgrs, prt_Mt_kind, prt_Mt_ns, prt_Mt_name, prt_Mt_uid, prt_Mt_ver, prt_Mt_gen, prt_Mt_created, prt_Mt_deleting, prt_Mt_delAt, prt_Mt_labels, prt_Mt_owners, prt_Mt_fins, prt_Mt_mgrs, len_22, ia_22, len_23, ia_23, len_24, ia_24, len_25, ia_25, join3_eq, gtt_2, gff_2, gtf_2, gft_2, gvv_2, gnt_2, gnf_2, gtt_6, gff_6, gtf_6, gft_6, gvv_6, gnt_6, gnf_6, gtt_7, gff_7, gtf_7, gft_7, gvv_7, gnt_7, gnf_7, e32, e14])
  all_goals first
    | (rw [vows, rall_false (p := owAt l) (j := j) (by omega) (by simp only [owAt, *, Bool.or_eq_false_iff, Bool.and_eq_false_iff, decide_eq_false_iff_not, ne_eq, Bool.true_or, Bool.false_or, decide_true, decide_false, Bool.not_true, Bool.not_false, or_true, true_or, or_false, false_or, not_true, not_false_eq_true, not_true_eq_false, and_false, Bool.or_false, Bool.or_true, Bool.and_false, Bool.and_true, true_and, and_true, Bool.or_eq_true, Bool.and_eq_true, decide_eq_true_eq, ne_eq, Bool.not_eq_true', decide_eq_false_iff_not, iff_true, true_iff, false_iff, iff_false, Bool.true_eq, Bool.false_eq_true, reduceCtorEq, Bool.false_and, Bool.true_and, false_and]; first | done | omega | (left; omega) | (right; omega) | skip)]; rfl)
    | (have e : l.take j = l := List.take_of_length_le (by omega)
       rw [e] at *
       apply congrArg AV.b; rw [vows, rall_of ha hj (by omega), Bool.eq_iff_iff]; simp only [Bool.true_or, Bool.false_or, decide_true, decide_false, Bool.not_true, Bool.not_false, or_true, true_or, or_false, false_or, not_true, not_false_eq_true, not_true_eq_false, and_false, Bool.or_false, Bool.or_true, Bool.and_false, Bool.and_true, true_and, and_true, Bool.or_eq_true, Bool.and_eq_true, decide_eq_true_eq, ne_eq, Bool.not_eq_true', decide_eq_false_iff_not, iff_true, true_iff, false_iff, iff_false, Bool.true_eq, Bool.false_eq_true, reduceCtorEq, Bool.false_and, Bool.true_and, false_and]; first | omega | (constructor <;> intro _ <;> omega))
    | (have e1 : cnt (l.take (j + 1)) = cnt (l.take j) + 1 := by rw [cnt_snoc (by omega), if_pos h]
       have e2 : ((cnt (l.take j) : Nat) : Int) + 1 = ((cnt (l.take (j + 1)) : Nat) : Int) := by omega
       rw [e2])
    | (have e1 : cnt (l.take (j + 1)) = cnt (l.take j) := by rw [cnt_snoc (by omega), if_neg (fun q => Bool.noConfusion (h.symm.trans q)), Nat.add_zero]
       rw [← e1])
  all_goals
    refine loop4 (X := Nat) (fun _ => .i .i64 (cnt (l.take (j + 1)) : Nat)) (fun _ => .lst (l.map encOw)) (fun _ => .i .i64 j) (fun k => .i .i64 k) (fun k σ => k ≤ j ∧ ¬ (l.getD j default).uid ∈ uids (l.take k)) (fun k => j - k) ?_ 0 _ ⟨Nat.zero_le _, by simp [uids]⟩
    clear h
    rintro R2 k σ2 ⟨hk2, hm⟩ hR2
    simp (disch := first | omega | exact hk _ | exact hv _ | exact hn _ | exact hf _ | assumption | exact clen_Lb | exact clen_Ow | exact clen_Mg | exact clen_Mt | exact scell | (simp only [clen_Lb, clen_Ow, clen_Mg, clen_Mt]; omega)) only [Nat.zero_add, oV_some', oN_eq, oM_some, oH_some, oD_some, oE_some, oS_eq, oT_true, oI_true, oI_false, pick_t, pick_f, un_not, oI_not, decide_not, toNat_sub1, toNat_add1, decide_true, decide_false, not_true, not_false_eq_true, Bool.not_true, Bool.not_false, Bool.not_not, oZ_b, oZ_i, oZ_s, oZ_l, slen_map, wr64, Int.toNat_natCast, Int.toNat_zero, ne_eq, bin_lt, bin_slt, bin_le, b_sle, bin_eq, b_snil, beq_4, bin_add, load_get, loadB_some, get_put_same, get_put_ne, ofc_s, load_i, off_i, off_p, ofc_encLb, ofc0_encLb, st_Lb, fld_Lb_k, fld_Lb_v, prt_Lb_k, prt_Lb_v, ofc_encOw, ofc0_encOw, st_Ow, fld_Ow_kind, fld_Ow_name, fld_Ow_uid, fld_Ow_ctl, fld_Ow_blk, prt_Ow_kind, prt_Ow_name, prt_Ow_uid, prt_Ow_ctl, prt_Ow_blk, ofc_encMg, ofc0_encMg, st_Mg, fld_Mg_name, fld_Mg_fields, prt_Mg_name, prt_Mg_fields, ofc_encMt, ofc0_encMt, st_Mt, fld_Mt_kind, fld_Mt_ns, fld_Mt_name, fld_Mt_uid, fld_Mt_ver, fld_Mt_gen, fld_Mt_created, fld_Mt_deleting, fld_Mt_delAt, fld_Mt_labels, fld_Mt_owners, fld_Mt_fins, fld_Mt_mgrs, prt_Mt_kind, prt_Mt_ns, prt_Mt_name, prt_Mt_uid, prt_Mt_ver, prt_Mt_gen, prt_Mt_created, prt_Mt_deleting, prt_Mt_delAt, prt_Mt_labels, prt_Mt_owners, prt_Mt_fins, prt_Mt_mgrs, len_22, ia_22, len_23, ia_23, len_24, ia_24, len_25, ia_25, join3_eq, gtt_2, gff_2, gtf_2, gft_2, gvv_2, gnt_2, gnf_2, gtt_6, gff_6, gtf_6, gft_6, gvv_6, gnt_6, gnf_6, gtt_7, gff_7, gtf_7, gft_7, gvv_7, gnt_7, gnf_7]
    repeat' ((first | with_reducible refine oI_decd (fun h => ?_) (fun h => ?_) | with_reducible refine gdt_2 (fun h => ?_) (fun h => ?_) | with_reducible refine gdt_6 (fun h => ?_) (fun h => ?_) | with_reducible refine gdt_7 (fun h => ?_) (fun h => ?_) | with_reducible refine gdf_2 (fun h => ?_) (fun h => ?_) | with_reducible refine gdf_6 (fun h => ?_) (fun h => ?_) | with_reducible refine gdf_7 (fun h => ?_) (fun h => ?_) | with_reducible refine gbt_2 (fun h => ?_) (fun h => ?_) | with_reducible refine gbt_6 (fun h => ?_) (fun h => ?_) | with_reducible refine gbt_7 (fun h => ?_) (fun h => ?_) | with_reducible refine gbf_2 (fun h => ?_) (fun h => ?_) | with_reducible refine gbf_6 (fun h => ?_) (fun h => ?_) | with_reducible refine gbf_7 (fun h => ?_) (fun h => ?_) | with_reducible refine oI_bool (fun h => ?_) (fun h => ?_)) <;> try simp (disch := first | omega | exact hk _ | exact hv _ | exact hn _ | exact hf _ | assumption | exact clen_Lb | exact clen_Ow | exact clen_Mg | exact clen_Mt | exact scell | (simp only [clen_Lb, clen_Ow, clen_Mg, clen_Mt]; omega)) only [h, Nat.zero_add, oV_some', oN_eq, oM_some, oH_some, oD_some, oE_some, oS_eq, oT_true, oI_true, oI_false, pick_t, pick_f, un_not, oI_not, decide_not, toNat_sub1, toNat_add1, decide_true, decide_false, not_true, not_false_eq_true, Bool.not_true, Bool.not_false, Bool.not_not, oZ_b, oZ_i, oZ_s, oZ_l, slen_map, wr64, Int.toNat_natCast, Int.toNat_zero, ne_eq, bin_lt, bin_slt, bin_le, b_sle, bin_eq, b_snil, beq_4, bin_add, load_get, loadB_some, get_put_same, get_put_ne, ofc_s, load_i, off_i, off_p, ofc_encLb, ofc0_encLb, st_Lb, fld_Lb_k, fld_Lb_v, prt_Lb_k, prt_Lb_v, ofc_encOw, ofc0_encOw, st_Ow, fld_Ow_kind, fld_Ow_name, fld_Ow_uid, fld_Ow_ctl, fld_Ow_blk, prt_Ow_kind, prt_Ow_name, prt_Ow_uid, prt_Ow_ctl, prt_Ow_blk, ofc_encMg, ofc0_encMg, st_Mg, fld_Mg_name, fld_Mg_fields, prt_Mg_name, prt_Mg_fields, ofc_encMt, ofc0_encMt, st_Mt, fld_Mt_kind, fld_Mt_ns, fld_Mt_name, fld_Mt_uid, fld_Mt_ver, fld_Mt_gen, fld_Mt_created, fld_Mt_deleting, fld_Mt_delAt, fld_Mt_labels, fld_Mt_owners, fld_Mt_fins, fld_Mt_mgrs, prt_Mt_kind, prt_Mt_ns, prt_Mt_name, prt_Mt_uid, prt_Mt_ver, prt_Mt_gen, prt_Mt_created, prt_Mt_deleting, prt_Mt_delAt, prt_Mt_labels, prt_Mt_owners, prt_Mt_fins, prt_Mt_mgrs, len_22, ia_22, len_23, ia_23, len_24, ia_24, len_25, ia_25, join3_eq, gtt_2, gff_2, gtf_2, gft_2, gvv_2, gnt_2, gnf_2, gtt_6, gff_6, gtf_6, gft_6, gvv_6, gnt_6, gnf_6, gtt_7, gff_7, gtf_7, gft_7, gvv_7, gnt_7, gnf_7])
    all_goals first
      | exact hR2 (k + 1) _ ⟨by omega, by rw [uids_snoc (by omega), List.mem_append, List.mem_singleton, not_or]; exact ⟨hm, fun q => h q.symm⟩⟩ (by omega)
      | (obtain rfl : k = j := by omega
         exact hR (k + 1) _ ⟨by omega, rall_succ ha (by simp only [owAt, *, Bool.true_or, Bool.false_or, decide_true, decide_false, Bool.not_true, Bool.not_false, or_true, true_or, or_false, false_or, not_true, not_false_eq_true, not_true_eq_false, and_false, Bool.or_false, Bool.or_true, Bool.and_false, Bool.and_true, true_and, and_true, Bool.or_eq_true, Bool.and_eq_true, decide_eq_true_eq, ne_eq, Bool.not_eq_true', decide_eq_false_iff_not, iff_true, true_iff, false_iff, iff_false, Bool.true_eq, Bool.false_eq_true, reduceCtorEq, Bool.false_and, Bool.true_and, false_and]; first | done | omega | (left; omega) | (right; omega) | skip)⟩ (by omega))
      | (rw [vows, rall_false (p := owAt l) (j := j) (by omega) (by
          have : (l.getD j default).uid ∈ uids (l.take j) := by
            rw [← h]
            exact mem_uids (by omega) (by omega)
          simp only [owAt, this, Bool.true_or, Bool.false_or, decide_true, decide_false, Bool.not_true, Bool.not_false, or_true, true_or, or_false, false_or, not_true, not_false_eq_true, not_true_eq_false, and_false, Bool.or_false, Bool.or_true, Bool.and_false, Bool.and_true, true_and, and_true, Bool.or_eq_true, Bool.and_eq_true, decide_eq_true_eq, ne_eq, Bool.not_eq_true', decide_eq_false_iff_not, iff_true, true_iff, false_iff, iff_false, Bool.true_eq, Bool.false_eq_true, reduceCtorEq, Bool.false_and, Bool.true_and, false_and])]; rfl)
theorem e28 {l : List Lb} (hl : l.length ≤ 140737488351232) (ho : ∀ x ∈ l, okLb x) {d : Nat} {σ : AS} {K : AV → AS → Prop} : oC T0 d 28 [.lst (l.map encLb)] σ K = K (.b (vlab l)) σ := (c28 l hl ho).eq d σ K
theorem e33 {l : List Lb} (hl : l.length ≤ 140737488351232) (ho : ∀ x ∈ l, okLb x) {d : Nat} {σ : AS} {K : AV → AS → Prop} : oC T0 d 33 [.lst (l.map encLb)] σ K = K (.b (vlab l)) σ := (c33 l hl ho).eq d σ K
theorem e29 {l : List Ow} (hl : l.length ≤ 140737488351232) (ho : ∀ x ∈ l, okOw x) {d : Nat} {σ : AS} {K : AV → AS → Prop} : oC T0 d 29 [.lst (l.map encOw)] σ K = K (.b (vows l)) σ := (c29 l hl ho).eq d σ K
theorem e34 {l : List Ow} (hl : l.length ≤ 140737488351232) (ho : ∀ x ∈ l, okOw x) {d : Nat} {σ : AS} {K : AV → AS → Prop} : oC T0 d 34 [.lst (l.map encOw)] σ K = K (.b (vows l)) σ := (c34 l hl ho).eq d σ K
theorem e31 {l : List Mg} (hl : l.length ≤ 140737488351232) (ho : ∀ x ∈ l, okMg x) {d : Nat} {σ : AS} {K : AV → AS → Prop} : oC T0 d 31 [.lst (l.map encMg)] σ K = K (.b (vmgrs l)) σ := (c31 l hl ho).eq d σ K
theorem e36 {l : List Mg} (hl : l.length ≤ 140737488351232) (ho : ∀ x ∈ l, okMg x) {d : Nat} {σ : AS} {K : AV → AS → Prop} : oC T0 d 36 [.lst (l.map encMg)] σ K = K (.b (vmgrs l)) σ := (c36 l hl ho).eq d σ K
theorem e30 {l : List (List UInt8)} (hl : l.length ≤ 140737488351232) (ho : ∀ x ∈ l, x.length ≤ 140737488351232) {d : Nat} {σ : AS} {K : AV → AS → Prop} : oC T0 d 30 [.lst (l.map AV.s)] σ K = K (.b (vfins l)) σ := (c30 l hl ho).eq d σ K
theorem e35 {l : List (List UInt8)} (hl : l.length ≤ 140737488351232) (ho : ∀ x ∈ l, x.length ≤ 140737488351232) {d : Nat} {σ : AS} {K : AV → AS → Prop} : oC T0 d 35 [.lst (l.map AV.s)] σ K = K (.b (vfins l)) σ := (c35 l hl ho).eq d σ K
end Go.Proofs.YtpnoongjaehmlaaDoor.Ev
