/- Equality of objects: of the program and of the reference. -/
import Derived.Test.YtpnoongjaehmlaaDoorV21
namespace Go.Proofs.YtpnoongjaehmlaaDoor.Ev
open Go Go.RowKit
set_option linter.unusedSimpArgs false
set_option linter.unusedVariables false
set_option maxRecDepth 100000

structure Ob where
  m : Mt
  s : Val
  t : Val
theorem ob_ext {a b : Ob} (h1 : a.m = b.m) (h2 : a.s = b.s) (h3 : a.t = b.t) : a = b := by cases a; cases b; simp_all
instance : Inhabited Ob := ⟨⟨default, default, default⟩⟩
def encOb (o : Ob) : AV := .agg ((encMt o.m).cells ++ ((encV o.s).cells ++ (encV o.t).cells))
structure okOb (o : Ob) : Prop where
  m : okMt o.m
  s : okV o.s
  t : okV o.t
theorem clen_Ob (x : Ob) : (encOb x).cells.length = 23 := by
  show ((encMt x.m).cells ++ ((encV x.s).cells ++ (encV x.t).cells)).length = 23
  rw [List.length_append, List.length_append, clen_V, clen_V, clen_Mt]
theorem fld_Ob_m (x : Ob) : ofCells T0 27 ((encOb x).cells.drop 0) = some (encMt x.m) := by
  rw [ofc_27]; rfl
theorem fld_Ob_s (x : Ob) : ofCells T0 32 ((encOb x).cells.drop 13) = some (encV x.s) := by
  rw [ofc_32]; unfold encOb; rw [encV_eq, encV_eq]; rfl
theorem fld_Ob_t (x : Ob) : ofCells T0 32 ((encOb x).cells.drop 18) = some (encV x.t) := by
  rw [ofc_32]; unfold encOb; rw [encV_eq, encV_eq]; rfl
theorem ofc_Ob (x : Ob) : ofCells T0 34 ((encOb x).cells.drop 0) = some (encOb x) := by
  rw [ofc_34]; unfold encOb; rw [encV_eq, encV_eq]; rfl
theorem nrm_Ob (x y : Ob) : AV.idfree.idfrees [encOb x, encOb y] = true ∧ AV.norm.norms [encOb x, encOb y] = [encOb x, encOb y] := by
  unfold encOb; rw [encV_eq, encV_eq, encV_eq, encV_eq]; exact ⟨rfl, rfl⟩
theorem c47 (v w : Val) (ov : okV v) (ow : okV w) : R T0 47 [encV v, encV w] (.b (decide (cmpV v w = 0))) := by
  obtain ⟨q1, q2⟩ := nrm_VV v w
  have e61 := fun (dd : Nat) (s : AS) (K : AV → AS → Prop) => (c61 _ v (Nat.le_refl _) ov w ow).eq dd s K
  refine r47 _ _ q1 q2 ?_
  unfold w47
  dsimp only [prims]
  simp (disch := first | first | omega | exact hk _ | exact hv _ | exact hn _ | exact hf _ | assumption | exact clen_V | exact clen_F | exact clen_Lb | exact clen_Ow | exact clen_Mg | exact clen_Mt | exact scell | (simp only [clen_Lb, clen_Ow, clen_Mg, clen_Mt]; omega) | (simp only [clen_V, clen_F]; omega) | assumption) only [Nat.zero_add, oV_some', oN_eq, oM_some, oH_some, oD_some, oE_some, oS_eq, oT_true, oI_true, oI_false, pick_t, pick_f, un_not, oI_not, decide_not, toNat_sub1, toNat_add1, decide_true, decide_false, not_true, not_false_eq_true, Bool.not_true, Bool.not_false, Bool.not_not, oZ_b, oZ_i, oZ_s, oZ_l, slen_map, wr64, Int.toNat_natCast, Int.toNat_zero, ne_eq, bin_eq, b_snil, beq_4, load_get, loadB_some, get_put_same, get_put_ne, ofc_s, load_i, ofc_encV, ofc0_encV, e61]
theorem e47 {v w : Val} (ov : okV v) (ow : okV w) {d : Nat} {σ : AS} {K : AV → AS → Prop} : oC T0 d 47 [encV v, encV w] σ K = K (.b (decide (cmpV v w = 0))) σ := (c47 v w ov ow).eq d σ K
/-- What equality of objects is. -/
def eqOb (a b : Ob) : Bool := decide (a.m = b.m) && decide (cmpV a.s b.s = 0) && decide (cmpV a.t b.t = 0)
theorem c21 (a b : Ob) (oa : okOb a) (ob : okOb b) : R T0 21 [encOb a, encOb b] (.b (eqOb a b)) := by
  obtain ⟨oa1, oa2, oa3⟩ := oa
  obtain ⟨ob1, ob2, ob3⟩ := ob
  obtain ⟨q1, q2⟩ := nrm_Ob a b
  have hc : ∀ (x : Ob) (n : Nat), n ≤ 23 → n ≤ (encOb x).cells.length := fun x n h => by rw [clen_Ob]; exact h
  refine r21 _ _ q1 q2 ?_
  unfold w21
  dsimp only [prims]
  simp (disch := first | first | omega | exact hk _ | exact hv _ | exact hn _ | exact hf _ | assumption | exact clen_V | exact clen_F | exact clen_Lb | exact clen_Ow | exact clen_Mg | exact clen_Mt | exact scell | (simp only [clen_Lb, clen_Ow, clen_Mg, clen_Mt]; omega) | (simp only [clen_V, clen_F]; omega) | assumption | (apply hc; omega)) only [Nat.zero_add, oV_some', oN_eq, oM_some, oH_some, oD_some, oE_some, oS_eq, oT_true, oI_true, oI_false, pick_t, pick_f, un_not, oI_not, decide_not, toNat_sub1, toNat_add1, decide_true, decide_false, not_true, not_false_eq_true, Bool.not_true, Bool.not_false, Bool.not_not, oZ_b, oZ_i, oZ_s, oZ_l, slen_map, wr64, Int.toNat_natCast, Int.toNat_zero, ne_eq, load_get, loadB_some, get_put_same, get_put_ne, ofc_s, load_i, off_i, off_p, ofc_encLb, ofc0_encLb, st_Lb, fld_Lb_k, fld_Lb_v, prt_Lb_k, prt_Lb_v, ofc_encOw, ofc0_encOw, st_Ow, fld_Ow_kind, fld_Ow_name, fld_Ow_uid, fld_Ow_ctl, fld_Ow_blk, prt_Ow_kind, prt_Ow_name, prt_Ow_uid, prt_Ow_ctl, prt_Ow_blk, ofc_encMt, ofc0_encMt, st_Mt, fld_Mt_kind, fld_Mt_ns, fld_Mt_name, fld_Mt_uid, fld_Mt_ver, fld_Mt_gen, fld_Mt_created, fld_Mt_deleting, fld_Mt_delAt, fld_Mt_labels, fld_Mt_owners, fld_Mt_fins, fld_Mt_mgrs, prt_Mt_kind, prt_Mt_ns, prt_Mt_name, prt_Mt_uid, prt_Mt_ver, prt_Mt_gen, prt_Mt_created, prt_Mt_deleting, prt_Mt_delAt, prt_Mt_labels, prt_Mt_owners, prt_Mt_fins, prt_Mt_mgrs, len_22, ia_22, len_23, ia_23, gtt_5, gff_5, gtf_5, gft_5, gvv_5, gnt_5, gnf_5, fld_Ob_m, fld_Ob_s, fld_Ob_t, ofc_Ob, e46, e47, guard5t, pick_and, eqOb]
theorem e21 {a b : Ob} (oa : okOb a) (ob : okOb b) {d : Nat} {σ : AS} {K : AV → AS → Prop} : oC T0 d 21 [encOb a, encOb b] σ K = K (.b (eqOb a b)) σ := (c21 a b oa ob).eq d σ K
theorem pick_orn (c y : Bool) : evPick (.b !c) (some (.b true)) (some (cnd c (.b y))) = some (.b (!c || y)) := by cases c <;> rfl
theorem pick_andn (c y : Bool) : evPick (.b !c) (some (cnd (!c) (.b y))) (some (.b false)) = some (.b (!c && y)) := by cases c <;> rfl
theorem stA_Mt {h : Tr AB} {id e : Nat} {g : Bool} {cs : List AV} (x : Mt) (hg : h.get id = some (.cells cs e g)) (hl : cs.length = 13) : storeA T0 h 27 (.ptr id 0) (encMt x) = some (id, .cells (encMt x).cells e g) := by
  unfold storeA
  simp only [sz_27, clen_Mt, leafs_Mt, hg, Nat.beq_refl, setN_all cs (encMt x).cells (by rw [hl, clen_Mt])]
theorem c20 (a b : Ob) (oa : okOb a) (ob : okOb b) : R T0 20 [encOb a, encOb b] (.b (eqOb a b)) := by
  obtain ⟨oa1, oa2, oa3⟩ := oa
  obtain ⟨ob1, ob2, ob3⟩ := ob
  obtain ⟨q1, q2⟩ := nrm_Ob a b
  have hc : ∀ (x : Ob) (n : Nat), n ≤ 23 → n ≤ (encOb x).cells.length := fun x n h => by rw [clen_Ob]; exact h
  refine r20 _ _ q1 q2 ?_
  unfold w20
  dsimp only [prims]
  refine enter2 fun s h0 h1 hn => ?_
  simp (disch := first | first | omega | exact hk _ | exact hv _ | exact hn _ | exact hf _ | assumption | exact clen_V | exact clen_F | exact clen_Lb | exact clen_Ow | exact clen_Mg | exact clen_Mt | exact scell | (simp only [clen_Lb, clen_Ow, clen_Mg, clen_Mt]; omega) | (simp only [clen_V, clen_F]; omega) | assumption | (apply hc; omega)) only [off_p, Nat.zero_add, oV_some', load_get, h0, h1, hn, loadB_some, fld_Ob_m]
  refine ⟨by kernel_rfl, ?_⟩
  rw [stA_Mt (cs := [.s [], .s [], .s [], .i .i64 0, .i .i64 0, .i .i64 0, .i .i64 0, .b false, .i .i64 0, .nils, .nils, .nils, .nils]) a.m (by rw [get_put_ne _ _ (by decide), get_put_same]) rfl, oD_some]
  refine ⟨by kernel_rfl, ?_⟩
  refine ⟨by kernel_rfl, ?_⟩
  rw [stA_Mt (cs := [.s [], .s [], .s [], .i .i64 0, .i .i64 0, .i .i64 0, .i .i64 0, .b false, .i .i64 0, .nils, .nils, .nils, .nils]) b.m (by rw [get_put_ne _ _ (by decide), get_put_same]) rfl, oD_some]
  refine ⟨by kernel_rfl, ?_⟩
  rw [oS_eq]
  have g2 : ∀ (h : Tr AB) (x y z : Option AB) (u : AB), ((((h.put 2 x).put (2 + 1) y).put 2 z).put (2 + 1) (some u)).get 2 = z := fun h x y z u => by rw [get_put_ne _ _ (by decide), get_put_same]
  have g3 : ∀ (h : Tr AB) (x y z : Option AB) (u : Option AB), ((((h.put 2 x).put (2 + 1) y).put 2 z).put (2 + 1) u).get 3 = u := fun h x y z u => get_put_same _ _ _
  generalize hS : (⟨_, _⟩ : AS) = s'
  have k2 : s'.h.get 2 = some (.cells (encMt a.m).cells 27 false) := by rw [← hS]; exact g2 _ _ _ _ _
  have k3 : s'.h.get 3 = some (.cells (encMt b.m).cells 27 false) := by rw [← hS]; exact g3 _ _ _ _ _
  have k0 : s'.h.get 0 = some (.cells (encOb a).cells 34 false) := by rw [← hS]; simp only [get_put_ne _ _ (show (0 : Nat) ≠ 2 by decide), get_put_ne _ _ (show (0 : Nat) ≠ 2 + 1 by decide)]; exact h0
  have k1 : s'.h.get 1 = some (.cells (encOb b).cells 34 false) := by rw [← hS]; simp only [get_put_ne _ _ (show (1 : Nat) ≠ 2 by decide), get_put_ne _ _ (show (1 : Nat) ≠ 2 + 1 by decide)]; exact h1
  clear hS
  have la1 := oa1.labels
  have la2 := oa1.owners
  have la3 := oa1.fins
  have la4 := oa1.mgrs
  have lb1 := ob1.labels
  have lb2 := ob1.owners
  have lb3 := ob1.fins
  have lb4 := ob1.mgrs
  have oma := oa1.mgrsAll
  have omb := ob1.mgrsAll
  simp (maxSteps := 1000000) (disch := first | first | omega | exact hk _ | exact hv _ | exact hn _ | exact hf _ | assumption | exact clen_V | exact clen_F | exact clen_Lb | exact clen_Ow | exact clen_Mg | exact clen_Mt | exact scell | (simp only [clen_Lb, clen_Ow, clen_Mg, clen_Mt]; omega) | (simp only [clen_V, clen_F]; omega) | assumption | (apply hc; omega)) only [Nat.zero_add, oV_some', oN_eq, oM_some, oH_some, oD_some, oE_some, oS_eq, oT_true, oI_true, oI_false, pick_t, pick_f, un_not, oI_not, decide_not, toNat_sub1, toNat_add1, decide_true, decide_false, not_true, not_false_eq_true, Bool.not_true, Bool.not_false, Bool.not_not, oZ_b, oZ_i, oZ_s, oZ_l, slen_map, wr64, Int.toNat_natCast, Int.toNat_zero, ne_eq, bin_ne, b_snnil, bne_4, load_get, loadB_some, get_put_same, get_put_ne, ofc_s, load_i, off_i, off_p, ofc_encLb, ofc0_encLb, st_Lb, fld_Lb_k, fld_Lb_v, prt_Lb_k, prt_Lb_v, ofc_encOw, ofc0_encOw, st_Ow, fld_Ow_kind, fld_Ow_name, fld_Ow_uid, fld_Ow_ctl, fld_Ow_blk, prt_Ow_kind, prt_Ow_name, prt_Ow_uid, prt_Ow_ctl, prt_Ow_blk, ofc_encMg, ofc0_encMg, st_Mg, fld_Mg_name, fld_Mg_fields, prt_Mg_name, prt_Mg_fields, ofc_encMt, ofc0_encMt, st_Mt, fld_Mt_kind, fld_Mt_ns, fld_Mt_name, fld_Mt_uid, fld_Mt_ver, fld_Mt_gen, fld_Mt_created, fld_Mt_deleting, fld_Mt_delAt, fld_Mt_labels, fld_Mt_owners, fld_Mt_fins, fld_Mt_mgrs, prt_Mt_kind, prt_Mt_ns, prt_Mt_name, prt_Mt_uid, prt_Mt_ver, prt_Mt_gen, prt_Mt_created, prt_Mt_deleting, prt_Mt_delAt, prt_Mt_labels, prt_Mt_owners, prt_Mt_fins, prt_Mt_mgrs, len_22, ia_22, len_23, ia_23, len_24, ia_24, len_25, ia_25, gtt_5, gff_5, gtf_5, gft_5, gvv_5, gnt_5, gnf_5, gtt_6, gff_6, gtf_6, gft_6, gvv_6, gnt_6, gnf_6, fld_Ob_m, fld_Ob_s, fld_Ob_t, ofc_Ob, e39, ne_62, e40, e41, e42, e44, e45, guard5t, guard5f, guard6f, pick_and, pick_or, pick_orn, pick_andn, k0, k1, k2, k3]
  refine oI_intro (fun q => ?_) (fun q => ?_)
  · rw [show eqOb a b = false from ?_]
    have : ¬ a.m = b.m := fun e => by rw [e] at q; simp at q
    simp [eqOb, this]
  refine oI_intro (fun q' => ?_) (fun q' => ?_)
  · rw [show eqOb a b = false from ?_]
    have : ¬ a.m = b.m := fun e => by rw [e] at q'; simp at q'
    simp [eqOb, this]
  simp at q q'
  have : (a.m.mgrs = b.m.mgrs) ↔ (a.m = b.m) := ⟨fun h => mt_ext (by simp_all) (by simp_all) (by simp_all) (by simp_all) (by simp_all) (by simp_all) (by simp_all) (by simp_all) (by simp_all) (by simp_all) (by simp_all) (by simp_all) h, fun h => by rw [h]⟩
  simp [eqOb, this]
theorem e20 {a b : Ob} (oa : okOb a) (ob : okOb b) {d : Nat} {σ : AS} {K : AV → AS → Prop} : oC T0 d 20 [encOb a, encOb b] σ K = K (.b (eqOb a b)) σ := (c20 a b oa ob).eq d σ K
theorem eqOb_self (a : Ob) : eqOb a a = true := by
  simp [eqOb, cmpV_self _ a.s (Nat.le_refl _), cmpV_self _ a.t (Nat.le_refl _)]
/-- 'heavy' answers something. -/
theorem nrm_Ob1 (x : Ob) : AV.idfree.idfrees [encOb x] = true ∧ AV.norm.norms [encOb x] = [encOb x] := by
  unfold encOb; rw [encV_eq, encV_eq]; exact ⟨rfl, rfl⟩
theorem c9O (a : Ob) (oa : okOb a) : ∃ b : Bool, R T0 9 [encOb a] (.b b) := by
  obtain ⟨oa1, oa2, oa3⟩ := oa
  obtain ⟨q1, q2⟩ := nrm_Ob1 a
  have hc : ∀ (x : Ob) (n : Nat), n ≤ 23 → n ≤ (encOb x).cells.length := fun x n h => by rw [clen_Ob]; exact h
  have la1 := oa1.labels
  have la2 := oa1.owners
  have la3 := oa1.fins
  have la4 := oa1.mgrs
  have hf : ∀ j, (a.m.mgrs.getD j default).fields.length ≤ 140737488351232 := fun j => (getD_all (p := okMg) (by simp [okMg, default]) oa1.mgrsAll j).2
  obtain ⟨b1, r1⟩ := c25 a.s oa2 200
  obtain ⟨b2, r2⟩ := c25 a.t oa3 200
  have e1 := fun (dd : Nat) (s : AS) (K : AV → AS → Prop) => r1.eq dd s K
  have e2 := fun (dd : Nat) (s : AS) (K : AV → AS → Prop) => r2.eq dd s K
  have main : w9 (prims T0) (encOb a) (fun r1 s1 => oZ T0 s1 r1 (fun r => ∃ x : Bool, r = .b x)) := by
    unfold w9
    dsimp only [prims]
    simp (maxSteps := 1000000) (disch := first | first | omega | exact hk _ | exact hv _ | exact hn _ | exact hf _ | assumption | exact clen_V | exact clen_F | exact clen_Lb | exact clen_Ow | exact clen_Mg | exact clen_Mt | exact scell | (simp only [clen_Lb, clen_Ow, clen_Mg, clen_Mt]; omega) | (simp only [clen_V, clen_F]; omega) | assumption | (apply hc; omega)) only [Nat.zero_add, oV_some', oN_eq, oM_some, oH_some, oD_some, oE_some, oS_eq, oT_true, oI_true, oI_false, pick_t, pick_f, un_not, oI_not, decide_not, toNat_sub1, toNat_add1, decide_true, decide_false, not_true, not_false_eq_true, Bool.not_true, Bool.not_false, Bool.not_not, oZ_b, oZ_i, oZ_s, oZ_l, slen_map, wr64, Int.toNat_natCast, Int.toNat_zero, ne_eq, bin_lt, bin_slt, bin_gt, b_sgt, bin_add, load_get, loadB_some, get_put_same, get_put_ne, ofc_s, load_i, off_i, off_p, ofc_encLb, ofc0_encLb, st_Lb, fld_Lb_k, fld_Lb_v, prt_Lb_k, prt_Lb_v, ofc_encOw, ofc0_encOw, st_Ow, fld_Ow_kind, fld_Ow_name, fld_Ow_uid, fld_Ow_ctl, fld_Ow_blk, prt_Ow_kind, prt_Ow_name, prt_Ow_uid, prt_Ow_ctl, prt_Ow_blk, ofc_encMg, ofc0_encMg, st_Mg, fld_Mg_name, fld_Mg_fields, prt_Mg_name, prt_Mg_fields, ofc_encMt, ofc0_encMt, st_Mt, fld_Mt_kind, fld_Mt_ns, fld_Mt_name, fld_Mt_uid, fld_Mt_ver, fld_Mt_gen, fld_Mt_created, fld_Mt_deleting, fld_Mt_delAt, fld_Mt_labels, fld_Mt_owners, fld_Mt_fins, fld_Mt_mgrs, prt_Mt_kind, prt_Mt_ns, prt_Mt_name, prt_Mt_uid, prt_Mt_ver, prt_Mt_gen, prt_Mt_created, prt_Mt_deleting, prt_Mt_delAt, prt_Mt_labels, prt_Mt_owners, prt_Mt_fins, prt_Mt_mgrs, len_22, ia_22, len_23, ia_23, len_24, ia_24, len_25, ia_25, gtt_4, gff_4, gtf_4, gft_4, gvv_4, gnt_4, gnf_4, fld_Ob_m, fld_Ob_s, fld_Ob_t, ofc_Ob, e1, e2, guard4f, guard4t, pick_and, pick_or, pick_orn, pick_andn]
    refine oI_intro (fun q => ⟨_, rfl⟩) (fun q => ?_)
    refine loop2 (X := Nat) (fun _ => .ptr 1 0) (fun j => .i .i64 j) (fun j σ => j ≤ a.m.mgrs.length ∧ σ.h.get 1 = some (.cells (encMt a.m).cells 27 false)) (fun j => a.m.mgrs.length - j) ?_ 0 _ ⟨Nat.zero_le _, get_put_same _ _ _⟩
    rintro R j σ ⟨hj, hg⟩ hR
    simp (disch := first | omega | exact hk _ | exact hv _ | exact hn _ | exact hf _ | assumption | exact clen_V | exact clen_F | exact clen_Lb | exact clen_Ow | exact clen_Mg | exact clen_Mt | exact scell | (simp only [clen_Lb, clen_Ow, clen_Mg, clen_Mt]; omega) | (simp only [clen_V, clen_F]; omega)) only [Nat.zero_add, oV_some', oN_eq, oM_some, oH_some, oD_some, oE_some, oS_eq, oT_true, oI_true, oI_false, pick_t, pick_f, un_not, oI_not, decide_not, toNat_sub1, toNat_add1, decide_true, decide_false, not_true, not_false_eq_true, Bool.not_true, Bool.not_false, Bool.not_not, oZ_b, oZ_i, oZ_s, oZ_l, slen_map, wr64, Int.toNat_natCast, Int.toNat_zero, ne_eq, bin_lt, bin_slt, bin_gt, b_sgt, bin_add, load_get, loadB_some, get_put_same, get_put_ne, ofc_s, load_i, off_i, off_p, ofc_encLb, ofc0_encLb, st_Lb, fld_Lb_k, fld_Lb_v, prt_Lb_k, prt_Lb_v, ofc_encOw, ofc0_encOw, st_Ow, fld_Ow_kind, fld_Ow_name, fld_Ow_uid, fld_Ow_ctl, fld_Ow_blk, prt_Ow_kind, prt_Ow_name, prt_Ow_uid, prt_Ow_ctl, prt_Ow_blk, ofc_encMg, ofc0_encMg, st_Mg, fld_Mg_name, fld_Mg_fields, prt_Mg_name, prt_Mg_fields, ofc_encMt, ofc0_encMt, st_Mt, fld_Mt_kind, fld_Mt_ns, fld_Mt_name, fld_Mt_uid, fld_Mt_ver, fld_Mt_gen, fld_Mt_created, fld_Mt_deleting, fld_Mt_delAt, fld_Mt_labels, fld_Mt_owners, fld_Mt_fins, fld_Mt_mgrs, prt_Mt_kind, prt_Mt_ns, prt_Mt_name, prt_Mt_uid, prt_Mt_ver, prt_Mt_gen, prt_Mt_created, prt_Mt_deleting, prt_Mt_delAt, prt_Mt_labels, prt_Mt_owners, prt_Mt_fins, prt_Mt_mgrs, len_22, ia_22, len_23, ia_23, len_24, ia_24, len_25, ia_25, gtt_4, gff_4, gtf_4, gft_4, gvv_4, gnt_4, gnf_4, hg]
    repeat' ((first | with_reducible refine oI_decd (fun h => ?_) (fun h => ?_) | with_reducible refine gdt_4 (fun h => ?_) (fun h => ?_) | with_reducible refine gdf_4 (fun h => ?_) (fun h => ?_) | with_reducible refine gbt_4 (fun h => ?_) (fun h => ?_) | with_reducible refine gbf_4 (fun h => ?_) (fun h => ?_) | with_reducible refine oI_bool (fun h => ?_) (fun h => ?_)) <;> try simp (disch := first | omega | exact hk _ | exact hv _ | exact hn _ | exact hf _ | assumption | exact clen_V | exact clen_F | exact clen_Lb | exact clen_Ow | exact clen_Mg | exact clen_Mt | exact scell | (simp only [clen_Lb, clen_Ow, clen_Mg, clen_Mt]; omega) | (simp only [clen_V, clen_F]; omega)) only [h, Nat.zero_add, oV_some', oN_eq, oM_some, oH_some, oD_some, oE_some, oS_eq, oT_true, oI_true, oI_false, pick_t, pick_f, un_not, oI_not, decide_not, toNat_sub1, toNat_add1, decide_true, decide_false, not_true, not_false_eq_true, Bool.not_true, Bool.not_false, Bool.not_not, oZ_b, oZ_i, oZ_s, oZ_l, slen_map, wr64, Int.toNat_natCast, Int.toNat_zero, ne_eq, bin_lt, bin_slt, bin_gt, b_sgt, bin_add, load_get, loadB_some, get_put_same, get_put_ne, ofc_s, load_i, off_i, off_p, ofc_encLb, ofc0_encLb, st_Lb, fld_Lb_k, fld_Lb_v, prt_Lb_k, prt_Lb_v, ofc_encOw, ofc0_encOw, st_Ow, fld_Ow_kind, fld_Ow_name, fld_Ow_uid, fld_Ow_ctl, fld_Ow_blk, prt_Ow_kind, prt_Ow_name, prt_Ow_uid, prt_Ow_ctl, prt_Ow_blk, ofc_encMg, ofc0_encMg, st_Mg, fld_Mg_name, fld_Mg_fields, prt_Mg_name, prt_Mg_fields, ofc_encMt, ofc0_encMt, st_Mt, fld_Mt_kind, fld_Mt_ns, fld_Mt_name, fld_Mt_uid, fld_Mt_ver, fld_Mt_gen, fld_Mt_created, fld_Mt_deleting, fld_Mt_delAt, fld_Mt_labels, fld_Mt_owners, fld_Mt_fins, fld_Mt_mgrs, prt_Mt_kind, prt_Mt_ns, prt_Mt_name, prt_Mt_uid, prt_Mt_ver, prt_Mt_gen, prt_Mt_created, prt_Mt_deleting, prt_Mt_delAt, prt_Mt_labels, prt_Mt_owners, prt_Mt_fins, prt_Mt_mgrs, len_22, ia_22, len_23, ia_23, len_24, ia_24, len_25, ia_25, gtt_4, gff_4, gtf_4, gft_4, gvv_4, gnt_4, gnf_4, hg])
    all_goals first
      | exact hR (j + 1) _ ⟨by omega, hg⟩ (by omega)
      | exact ⟨_, rfl⟩
  rw [w9_eq] at main
  obtain ⟨r, ⟨x, rfl⟩, hr⟩ := R.ex (by kernel_rfl) (by kernel_rfl) (show T0.fn 9 = some Tryd.f9 by kernel_rfl) (by kernel_rfl) (by kernel_rfl) q1 q2 main
  exact ⟨x, hr⟩
theorem ctl_0 (x : Option Ow) : evExtract 0 (ctlAV x) = some (encOw (x.getD default)) := by cases x <;> rfl
theorem ctl_1 (x : Option Ow) : evExtract 1 (ctlAV x) = some (.b x.isSome) := by cases x <;> rfl
theorem pick_f' (b : Option AV) : evPick (.b true) b (some (.b false)) = b := rfl
theorem c5 (a b : Ob) (oa : okOb a) (ob : okOb b) : R T0 5 [encOb a, encOb b] (.b true) := by
  obtain ⟨q1, q2⟩ := nrm_Ob a b
  have hc : ∀ (x : Ob) (n : Nat), n ≤ 23 → n ≤ (encOb x).cells.length := fun x n h => by rw [clen_Ob]; exact h
  obtain ⟨b1, r1⟩ := c9O a oa
  obtain ⟨b2, r2⟩ := c9O b ob
  have e1 := fun (dd : Nat) (s : AS) (K : AV → AS → Prop) => r1.eq dd s K
  have e2 := fun (dd : Nat) (s : AS) (K : AV → AS → Prop) => r2.eq dd s K
  have om := oa.m
  refine r5 _ _ q1 q2 ?_
  unfold w5
  dsimp only [prims]
  simp (maxSteps := 1000000) (disch := first | first | omega | exact hk _ | exact hv _ | exact hn _ | exact hf _ | assumption | exact clen_V | exact clen_F | exact clen_Lb | exact clen_Ow | exact clen_Mg | exact clen_Mt | exact scell | (simp only [clen_Lb, clen_Ow, clen_Mg, clen_Mt]; omega) | (simp only [clen_V, clen_F]; omega) | assumption | (apply hc; omega)) only [Nat.zero_add, oV_some', oN_eq, oM_some, oH_some, oD_some, oE_some, oS_eq, oT_true, oI_true, oI_false, pick_t, pick_f, un_not, oI_not, decide_not, toNat_sub1, toNat_add1, decide_true, decide_false, not_true, not_false_eq_true, Bool.not_true, Bool.not_false, Bool.not_not, oZ_b, oZ_i, oZ_s, oZ_l, slen_map, wr64, Int.toNat_natCast, Int.toNat_zero, ne_eq, bin_eq, b_snil, beq_4, load_get, loadB_some, get_put_same, get_put_ne, ofc_s, load_i, off_i, off_p, ext_t, ofc_encOw, ofc0_encOw, st_Ow, fld_Ow_kind, fld_Ow_name, fld_Ow_uid, fld_Ow_ctl, fld_Ow_blk, prt_Ow_kind, prt_Ow_name, prt_Ow_uid, prt_Ow_ctl, prt_Ow_blk, ofc_encMg, ofc0_encMg, st_Mg, fld_Mg_name, fld_Mg_fields, prt_Mg_name, prt_Mg_fields, ofc_encMt, ofc0_encMt, st_Mt, fld_Mt_kind, fld_Mt_ns, fld_Mt_name, fld_Mt_uid, fld_Mt_ver, fld_Mt_gen, fld_Mt_created, fld_Mt_deleting, fld_Mt_delAt, fld_Mt_labels, fld_Mt_owners, fld_Mt_fins, fld_Mt_mgrs, prt_Mt_kind, prt_Mt_ns, prt_Mt_name, prt_Mt_uid, prt_Mt_ver, prt_Mt_gen, prt_Mt_created, prt_Mt_deleting, prt_Mt_delAt, prt_Mt_labels, prt_Mt_owners, prt_Mt_fins, prt_Mt_mgrs, len_23, ia_23, len_24, ia_24, len_25, ia_25, gtt_1, gff_1, gtf_1, gft_1, gvv_1, gnt_1, gnf_1, gtt_2, gff_2, gtf_2, gft_2, gvv_2, gnt_2, gnf_2, gtt_3, gff_3, gtf_3, gft_3, gvv_3, gnt_3, gnf_3, fld_Ob_m, fld_Ob_s, fld_Ob_t, ofc_Ob, e1, e2, e10, e18, e19, e20, e21, zero_Ow, stO, stB_Ow, eq_Ow, eqOb_self, ctl_0, ctl_1, beq_self_eq_true, cnd_true, guard1t, guard2f, guard2t, guard3t, pick_and, pick_or, pick_orn, pick_andn]
  exact oI_intro (fun _ => trivial) (fun _ => trivial)
end Go.Proofs.YtpnoongjaehmlaaDoor.Ev
