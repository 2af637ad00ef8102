/- What Controller, both sides, answers. -/
import Derived.Test.YtpnoongjaehmlaaDoorV11
namespace Go.Proofs.YtpnoongjaehmlaaDoor.Ev
open Go Go.RowKit
set_option linter.unusedSimpArgs false
set_option linter.unusedVariables false
set_option maxRecDepth 100000

/-- A store over a whole block. -/
def stB (h : Tr AB) (id : Nat) (v : AV) (b : Option AB) : Option (Tr AB) := match b with
  | some (.cells cs e g) => match setN cs 0 v.cells with
    | some cs' => some (h.put id (some (.cells cs' e g)))
    | none => none
  | _ => none
theorem setN_all : ∀ (a b : List AV), a.length = b.length → setN a 0 b = some b := by
  intro a b
  induction b generalizing a with
  | nil => intro q; cases a with | nil => rfl | cons _ _ => simp at q
  | cons x b ih => intro q; cases a with | nil => simp at q | cons y a => simp [setN, ih a (by simpa using q)]
theorem stB_some {h : Tr AB} {id e : Nat} {g : Bool} {v : AV} {cs : List AV} (hc : cs.length = v.cells.length) : stB h id v (some (.cells cs e g)) = some (h.put id (some (.cells v.cells e g))) := by
  unfold stB; simp only [setN_all _ _ hc]
theorem stO {h : Tr AB} {id : Nat} (x : Ow) : evStore T0 h 43 (.ptr id 0) (encOw x) = stB h id (encOw x) (h.get id) := by
  unfold evStore stB
  simp only [sz_43, show Nat.beq (encOw x).cells.length 5 = true from rfl, leafs_Ow]
  generalize h.get id = b
  match b with
  | none => rfl
  | some (.cells cs e g) => rfl
  | some (.map _) => rfl
  | some (.siter _ _) => rfl
theorem stB_Ow {h : Tr AB} {id e : Nat} {g : Bool} (x y : Ow) : stB h id (encOw x) (some (.cells (encOw y).cells e g)) = some (h.put id (some (.cells (encOw x).cells e g))) := stB_some rfl
theorem zero_Ow : [AV.s [], AV.s [], AV.i .i64 0, AV.b false, AV.b false] = (encOw default).cells := rfl
theorem build_Ow : evBuild T0 43 [] = some (encOw default) := by kernel_rfl
def ctlAV : Option Ow → AV
  | some o => .tup [encOw o, .b true]
  | none => .tup [encOw default, .b false]
def notCtl (x : Ow) : Bool := !x.ctl
theorem find_at {l : List Ow} {j : Nat} (ha : (l.take j).all notCtl = true) (hj : j < l.length) (hc : (l.getD j default).ctl = true) : l.find? (·.ctl) = some (l.getD j default) := by
  induction l generalizing j with
  | nil => simp at hj
  | cons x l ih =>
    cases j with
    | zero => simp at hc ⊢; simp [hc]
    | succ j =>
      simp only [List.take_succ_cons, List.all_cons, Bool.and_eq_true, notCtl, Bool.not_eq_true'] at ha
      rw [List.find?_cons, ha.1]
      simp only [List.getD_cons_succ] at hc ⊢
      exact ih ha.2 (by simpa using hj) hc
theorem find_no {l : List Ow} (ha : l.all notCtl = true) : l.find? (·.ctl) = none := by
  rw [List.find?_eq_none]
  intro x hx
  rw [List.all_eq_true] at ha
  have := ha x hx
  simpa [notCtl] using this
theorem oZ_ctl {σ : AS} {x : Ow} {b : Bool} {K : AV → Prop} : oZ T0 σ (.tup [encOw x, .b b]) K = K (.tup [encOw x, .b b]) := oZ_free rfl
theorem c18 (m : Mt) (o : okMt m) : R T0 18 [encMt m] (ctlAV (m.owners.find? (·.ctl))) := by
  have hl := o.owners
  refine r18 _ rfl rfl ?_
  unfold w18
  dsimp only [prims]
  simp (disch := first | omega | exact hk _ | exact hv _ | exact hn _ | exact hf _ | assumption | exact clen_Lb | exact clen_Ow | exact clen_Mg | exact clen_Mt | exact scell | (simp only [clen_Lb, clen_Ow, clen_Mg, clen_Mt]; omega)) only [Nat.zero_add, oV_some', oN_eq, oM_some, oH_some, oD_some, oE_some, oS_eq, oT_true, oI_true, oI_false, pick_t, pick_f, un_not, oI_not, decide_not, toNat_sub1, toNat_add1, decide_true, decide_false, not_true, not_false_eq_true, Bool.not_true, Bool.not_false, Bool.not_not, oZ_b, oZ_i, oZ_s, oZ_l, slen_map, wr64, Int.toNat_natCast, Int.toNat_zero, ne_eq, bin_lt, bin_slt, bin_add, load_get, loadB_some, get_put_same, get_put_ne, ofc_s, load_i, off_i, off_p, ofc_encOw, ofc0_encOw, st_Ow, fld_Ow_kind, fld_Ow_name, fld_Ow_uid, fld_Ow_ctl, fld_Ow_blk, prt_Ow_kind, prt_Ow_name, prt_Ow_uid, prt_Ow_ctl, prt_Ow_blk, ofc_encMt, ofc0_encMt, st_Mt, fld_Mt_kind, fld_Mt_ns, fld_Mt_name, fld_Mt_uid, fld_Mt_ver, fld_Mt_gen, fld_Mt_created, fld_Mt_deleting, fld_Mt_delAt, fld_Mt_labels, fld_Mt_owners, fld_Mt_fins, fld_Mt_mgrs, prt_Mt_kind, prt_Mt_ns, prt_Mt_name, prt_Mt_uid, prt_Mt_ver, prt_Mt_gen, prt_Mt_created, prt_Mt_deleting, prt_Mt_delAt, prt_Mt_labels, prt_Mt_owners, prt_Mt_fins, prt_Mt_mgrs, len_23, ia_23, zero_Ow]
  refine loop4 (X := Nat) (fun _ => .ptr 1 0) (fun _ => .lst (m.owners.map encOw)) (fun _ => .i .i64 m.owners.length) (fun j => .i .i64 j) (fun j σ => j ≤ m.owners.length ∧ (m.owners.take j).all notCtl = true ∧ σ.h.get 1 = some (.cells (encOw default).cells 43 false) ∧ 2 ≤ σ.n) (fun j => m.owners.length - j) ?_ 0 _ ⟨Nat.zero_le _, rfl, get_put_same _ _ _, Nat.le_refl _⟩
  rintro R j σ ⟨hj, ha, hg, hn2⟩ hR
  simp (disch := first | omega | exact hk _ | exact hv _ | exact hn _ | exact hf _ | assumption | exact clen_Lb | exact clen_Ow | exact clen_Mg | exact clen_Mt | exact scell | (simp only [clen_Lb, clen_Ow, clen_Mg, clen_Mt]; omega)) only [Nat.zero_add, oV_some', oN_eq, oM_some, oH_some, oD_some, oE_some, oS_eq, oT_true, oI_true, oI_false, pick_t, pick_f, un_not, oI_not, decide_not, toNat_sub1, toNat_add1, decide_true, decide_false, not_true, not_false_eq_true, Bool.not_true, Bool.not_false, Bool.not_not, oZ_b, oZ_i, oZ_s, oZ_l, slen_map, wr64, Int.toNat_natCast, Int.toNat_zero, ne_eq, bin_lt, bin_slt, bin_add, load_get, loadB_some, get_put_same, get_put_ne, ofc_s, load_i, off_i, off_p, ofc_encOw, ofc0_encOw, st_Ow, fld_Ow_kind, fld_Ow_name, fld_Ow_uid, fld_Ow_ctl, fld_Ow_blk, prt_Ow_kind, prt_Ow_name, prt_Ow_uid, prt_Ow_ctl, prt_Ow_blk, ofc_encMt, ofc0_encMt, st_Mt, fld_Mt_kind, fld_Mt_ns, fld_Mt_name, fld_Mt_uid, fld_Mt_ver, fld_Mt_gen, fld_Mt_created, fld_Mt_deleting, fld_Mt_delAt, fld_Mt_labels, fld_Mt_owners, fld_Mt_fins, fld_Mt_mgrs, prt_Mt_kind, prt_Mt_ns, prt_Mt_name, prt_Mt_uid, prt_Mt_ver, prt_Mt_gen, prt_Mt_created, prt_Mt_deleting, prt_Mt_delAt, prt_Mt_labels, prt_Mt_owners, prt_Mt_fins, prt_Mt_mgrs, len_23, ia_23, stO, stB_Ow, hg, build_Ow, zero_Ow, oZ_ctl]
  repeat' ((first | with_reducible refine oI_decd (fun h => ?_) (fun h => ?_)  | with_reducible refine oI_bool (fun h => ?_) (fun h => ?_)) <;> try simp (disch := first | omega | exact hk _ | exact hv _ | exact hn _ | exact hf _ | assumption | exact clen_Lb | exact clen_Ow | exact clen_Mg | exact clen_Mt | exact scell | (simp only [clen_Lb, clen_Ow, clen_Mg, clen_Mt]; omega)) only [h, Nat.zero_add, oV_some', oN_eq, oM_some, oH_some, oD_some, oE_some, oS_eq, oT_true, oI_true, oI_false, pick_t, pick_f, un_not, oI_not, decide_not, toNat_sub1, toNat_add1, decide_true, decide_false, not_true, not_false_eq_true, Bool.not_true, Bool.not_false, Bool.not_not, oZ_b, oZ_i, oZ_s, oZ_l, slen_map, wr64, Int.toNat_natCast, Int.toNat_zero, ne_eq, bin_lt, bin_slt, bin_add, load_get, loadB_some, get_put_same, get_put_ne, ofc_s, load_i, off_i, off_p, ofc_encOw, ofc0_encOw, st_Ow, fld_Ow_kind, fld_Ow_name, fld_Ow_uid, fld_Ow_ctl, fld_Ow_blk, prt_Ow_kind, prt_Ow_name, prt_Ow_uid, prt_Ow_ctl, prt_Ow_blk, ofc_encMt, ofc0_encMt, st_Mt, fld_Mt_kind, fld_Mt_ns, fld_Mt_name, fld_Mt_uid, fld_Mt_ver, fld_Mt_gen, fld_Mt_created, fld_Mt_deleting, fld_Mt_delAt, fld_Mt_labels, fld_Mt_owners, fld_Mt_fins, fld_Mt_mgrs, prt_Mt_kind, prt_Mt_ns, prt_Mt_name, prt_Mt_uid, prt_Mt_ver, prt_Mt_gen, prt_Mt_created, prt_Mt_deleting, prt_Mt_delAt, prt_Mt_labels, prt_Mt_owners, prt_Mt_fins, prt_Mt_mgrs, len_23, ia_23, stO, stB_Ow, hg, build_Ow, zero_Ow, oZ_ctl])
  all_goals first
    | (rw [find_at ha (by omega) (by assumption)]; rfl)
    | exact hR (j + 1) _ ⟨by omega, all_take_succ (d := default) ha (by omega) (by simp only [notCtl, *, Bool.not_false]), by rw [get_put_ne _ _ (by omega), get_put_ne _ _ (by omega)]; exact hg, Nat.le_succ_of_le hn2⟩ (by omega)
    | (rw [find_no (all_of_take ha (by omega))]; rfl)
theorem c19 (m : Mt) (o : okMt m) : R T0 19 [encMt m] (ctlAV (m.owners.find? (·.ctl))) := by
  have hl := o.owners
  refine r19 _ rfl rfl ?_
  unfold w19
  dsimp only [prims]
  simp (disch := first | omega | exact hk _ | exact hv _ | exact hn _ | exact hf _ | assumption | exact clen_Lb | exact clen_Ow | exact clen_Mg | exact clen_Mt | exact scell | (simp only [clen_Lb, clen_Ow, clen_Mg, clen_Mt]; omega)) only [Nat.zero_add, oV_some', oN_eq, oM_some, oH_some, oD_some, oE_some, oS_eq, oT_true, oI_true, oI_false, pick_t, pick_f, un_not, oI_not, decide_not, toNat_sub1, toNat_add1, decide_true, decide_false, not_true, not_false_eq_true, Bool.not_true, Bool.not_false, Bool.not_not, oZ_b, oZ_i, oZ_s, oZ_l, slen_map, wr64, Int.toNat_natCast, Int.toNat_zero, ne_eq, bin_lt, bin_slt, bin_add, load_get, loadB_some, get_put_same, get_put_ne, ofc_s, load_i, off_i, off_p, ofc_encLb, ofc0_encLb, st_Lb, fld_Lb_k, fld_Lb_v, prt_Lb_k, prt_Lb_v, ofc_encOw, ofc0_encOw, st_Ow, fld_Ow_kind, fld_Ow_name, fld_Ow_uid, fld_Ow_ctl, fld_Ow_blk, prt_Ow_kind, prt_Ow_name, prt_Ow_uid, prt_Ow_ctl, prt_Ow_blk, ofc_encMt, ofc0_encMt, st_Mt, fld_Mt_kind, fld_Mt_ns, fld_Mt_name, fld_Mt_uid, fld_Mt_ver, fld_Mt_gen, fld_Mt_created, fld_Mt_deleting, fld_Mt_delAt, fld_Mt_labels, fld_Mt_owners, fld_Mt_fins, fld_Mt_mgrs, prt_Mt_kind, prt_Mt_ns, prt_Mt_name, prt_Mt_uid, prt_Mt_ver, prt_Mt_gen, prt_Mt_created, prt_Mt_deleting, prt_Mt_delAt, prt_Mt_labels, prt_Mt_owners, prt_Mt_fins, prt_Mt_mgrs, len_22, ia_22, len_23, ia_23, zero_Ow]
  refine loop3 (X := Nat) (fun _ => .ptr 1 0) (fun _ => .ptr 0 0) (fun j => .i .i64 j) (fun j σ => j ≤ m.owners.length ∧ (m.owners.take j).all notCtl = true ∧ σ.h.get 1 = some (.cells (encOw default).cells 43 false) ∧ σ.h.get 0 = some (.cells (encMt m).cells 27 false)) (fun j => m.owners.length - j) ?_ 0 _ ⟨Nat.zero_le _, rfl, get_put_same _ _ _, by rw [get_put_ne _ _ (by omega), get_put_same]⟩
  rintro R j σ ⟨hj, ha, hg, hg0⟩ hR
  simp (disch := first | omega | exact hk _ | exact hv _ | exact hn _ | exact hf _ | assumption | exact clen_Lb | exact clen_Ow | exact clen_Mg | exact clen_Mt | exact scell | (simp only [clen_Lb, clen_Ow, clen_Mg, clen_Mt]; omega)) only [Nat.zero_add, oV_some', oN_eq, oM_some, oH_some, oD_some, oE_some, oS_eq, oT_true, oI_true, oI_false, pick_t, pick_f, un_not, oI_not, decide_not, toNat_sub1, toNat_add1, decide_true, decide_false, not_true, not_false_eq_true, Bool.not_true, Bool.not_false, Bool.not_not, oZ_b, oZ_i, oZ_s, oZ_l, slen_map, wr64, Int.toNat_natCast, Int.toNat_zero, ne_eq, bin_lt, bin_slt, bin_add, load_get, loadB_some, get_put_same, get_put_ne, ofc_s, load_i, off_i, off_p, ofc_encLb, ofc0_encLb, st_Lb, fld_Lb_k, fld_Lb_v, prt_Lb_k, prt_Lb_v, ofc_encOw, ofc0_encOw, st_Ow, fld_Ow_kind, fld_Ow_name, fld_Ow_uid, fld_Ow_ctl, fld_Ow_blk, prt_Ow_kind, prt_Ow_name, prt_Ow_uid, prt_Ow_ctl, prt_Ow_blk, ofc_encMt, ofc0_encMt, st_Mt, fld_Mt_kind, fld_Mt_ns, fld_Mt_name, fld_Mt_uid, fld_Mt_ver, fld_Mt_gen, fld_Mt_created, fld_Mt_deleting, fld_Mt_delAt, fld_Mt_labels, fld_Mt_owners, fld_Mt_fins, fld_Mt_mgrs, prt_Mt_kind, prt_Mt_ns, prt_Mt_name, prt_Mt_uid, prt_Mt_ver, prt_Mt_gen, prt_Mt_created, prt_Mt_deleting, prt_Mt_delAt, prt_Mt_labels, prt_Mt_owners, prt_Mt_fins, prt_Mt_mgrs, len_22, ia_22, len_23, ia_23, stO, stB_Ow, hg, hg0, build_Ow, zero_Ow, oZ_ctl]
  repeat' ((first | with_reducible refine oI_decd (fun h => ?_) (fun h => ?_)  | with_reducible refine oI_bool (fun h => ?_) (fun h => ?_)) <;> try simp (disch := first | omega | exact hk _ | exact hv _ | exact hn _ | exact hf _ | assumption | exact clen_Lb | exact clen_Ow | exact clen_Mg | exact clen_Mt | exact scell | (simp only [clen_Lb, clen_Ow, clen_Mg, clen_Mt]; omega)) only [h, Nat.zero_add, oV_some', oN_eq, oM_some, oH_some, oD_some, oE_some, oS_eq, oT_true, oI_true, oI_false, pick_t, pick_f, un_not, oI_not, decide_not, toNat_sub1, toNat_add1, decide_true, decide_false, not_true, not_false_eq_true, Bool.not_true, Bool.not_false, Bool.not_not, oZ_b, oZ_i, oZ_s, oZ_l, slen_map, wr64, Int.toNat_natCast, Int.toNat_zero, ne_eq, bin_lt, bin_slt, bin_add, load_get, loadB_some, get_put_same, get_put_ne, ofc_s, load_i, off_i, off_p, ofc_encLb, ofc0_encLb, st_Lb, fld_Lb_k, fld_Lb_v, prt_Lb_k, prt_Lb_v, ofc_encOw, ofc0_encOw, st_Ow, fld_Ow_kind, fld_Ow_name, fld_Ow_uid, fld_Ow_ctl, fld_Ow_blk, prt_Ow_kind, prt_Ow_name, prt_Ow_uid, prt_Ow_ctl, prt_Ow_blk, ofc_encMt, ofc0_encMt, st_Mt, fld_Mt_kind, fld_Mt_ns, fld_Mt_name, fld_Mt_uid, fld_Mt_ver, fld_Mt_gen, fld_Mt_created, fld_Mt_deleting, fld_Mt_delAt, fld_Mt_labels, fld_Mt_owners, fld_Mt_fins, fld_Mt_mgrs, prt_Mt_kind, prt_Mt_ns, prt_Mt_name, prt_Mt_uid, prt_Mt_ver, prt_Mt_gen, prt_Mt_created, prt_Mt_deleting, prt_Mt_delAt, prt_Mt_labels, prt_Mt_owners, prt_Mt_fins, prt_Mt_mgrs, len_22, ia_22, len_23, ia_23, stO, stB_Ow, hg, hg0, build_Ow, zero_Ow, oZ_ctl])
  all_goals first
    | (rw [find_at ha (by omega) (by assumption)]; rfl)
    | exact hR (j + 1) _ ⟨by omega, all_take_succ (d := default) ha (by omega) (by simp only [notCtl, *, Bool.not_false]), hg, hg0⟩ (by omega)
    | (rw [find_no (all_of_take ha (by omega))]; rfl)
theorem e18 {m : Mt} (o : okMt m) {d : Nat} {σ : AS} {K : AV → AS → Prop} : oC T0 d 18 [encMt m] σ K = K (ctlAV (m.owners.find? (·.ctl))) σ := (c18 m o).eq d σ K
theorem e19 {m : Mt} (o : okMt m) {d : Nat} {σ : AS} {K : AV → AS → Prop} : oC T0 d 19 [encMt m] σ K = K (ctlAV (m.owners.find? (·.ctl))) σ := (c19 m o).eq d σ K
end Go.Proofs.YtpnoongjaehmlaaDoor.Ev
