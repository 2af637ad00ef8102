/- Compare of the reference answers the same number. -/
import Derived.Test.YtpnoongjaehmlaaDoorV20
namespace Go.Proofs.YtpnoongjaehmlaaDoor.Ev
open Go Go.RowKit
set_option linter.unusedSimpArgs false
set_option linter.unusedVariables false
set_option maxRecDepth 100000

def thn (a b : Int) : Int := if a = 0 then b else a
theorem thn_z {a b : Int} (h : a = 0) : thn a b = b := if_pos h
theorem thn_n {a b : Int} (h : ¬ a = 0) : thn a b = a := if_neg h
theorem thn_assoc (a b c : Int) : thn (thn a b) c = thn a (thn b c) := by unfold thn; split <;> simp_all
theorem orL_cons (a : Int) (l : List Int) : orL (a :: l) = thn a (orL l) := by rw [orL, thn]
theorem thn_0 (a : Int) : thn a 0 = a := by unfold thn; split <;> simp_all
theorem cmpV_thn (x y : Val) : cmpV x y = thn (thn (thn (thn (cmpI x.kind y.kind) (cmpI x.n y.n)) (cmpB x.s y.s)) (cmpVs x.list y.list)) (cmpFs x.fields y.fields) := by
  rw [cmpV_eq]; simp only [orL_cons, thn_assoc]; rw [orL, thn_0]
theorem cmpVs_cons (x y : Val) (xs ys : List Val) : cmpVs (x :: xs) (y :: ys) = thn (cmpV x y) (cmpVs xs ys) := by
  rw [cmpVs, thn]
theorem cmpFs_cons (x y : Fld) (xs ys : List Fld) : cmpFs (x :: xs) (y :: ys) = thn (thn (cmpB x.name y.name) (cmpV x.v y.v)) (cmpFs xs ys) := by
  rw [cmpFs, cmpF_eq]; simp only [orL_cons]; rw [orL, thn_0]; rfl
theorem cmpVs_end {l m : List Val} {j : Nat} (hl : j ≤ l.length) (hm : j ≤ m.length) (h : j = l.length ∨ j = m.length) : cmpVs (l.drop j) (m.drop j) = cmpI l.length m.length := by
  by_cases h1 : j < l.length
  · rw [drop_at h1, List.drop_eq_nil_of_le (show m.length ≤ j by omega), cmpVs, cmpI, ordI]; simp; omega
  · rw [List.drop_eq_nil_of_le (show l.length ≤ j by omega)]
    by_cases h2 : j < m.length
    · rw [drop_at h2, cmpVs, cmpI, ordI]; simp; omega
    · rw [List.drop_eq_nil_of_le (show m.length ≤ j by omega), cmpVs, cmpI, ordI]; simp; omega
theorem cmpFs_end {l m : List Fld} {j : Nat} (hl : j ≤ l.length) (hm : j ≤ m.length) (h : j = l.length ∨ j = m.length) : cmpFs (l.drop j) (m.drop j) = cmpI l.length m.length := by
  by_cases h1 : j < l.length
  · rw [drop_at h1, List.drop_eq_nil_of_le (show m.length ≤ j by omega), cmpFs, cmpI, ordI]; simp; omega
  · rw [List.drop_eq_nil_of_le (show l.length ≤ j by omega)]
    by_cases h2 : j < m.length
    · rw [drop_at h2, cmpFs, cmpI, ordI]; simp; omega
    · rw [List.drop_eq_nil_of_le (show m.length ≤ j by omega), cmpFs, cmpI, ordI]; simp; omega
theorem join3_pt {l0 l1 l2 : Nat} {body : (AV → AV → AV → AS → Prop) → Prop} {K : AV → AV → AV → AS → Prop} (v0 v1 v2 : AV) (σ : AS) (h1 : ∀ k : AV → AV → AV → AS → Prop, k v0 v1 v2 σ → body k) (h2 : K v0 v1 v2 σ) : oJ [l0, l1, l2] body K := h1 K h2
theorem join4_pt {l0 l1 l2 l3 : Nat} {body : (AV → AV → AV → AV → AS → Prop) → Prop} {K : AV → AV → AV → AV → AS → Prop} (v0 v1 v2 v3 : AV) (σ : AS) (h1 : ∀ k : AV → AV → AV → AV → AS → Prop, k v0 v1 v2 v3 σ → body k) (h2 : K v0 v1 v2 v3 σ) : oJ [l0, l1, l2, l3] body K := h1 K h2
theorem join1_pt {l0 : Nat} {body : (AV → AS → Prop) → Prop} {K : AV → AS → Prop} (v0 : AV) (σ : AS) (h1 : ∀ k : AV → AS → Prop, k v0 σ → body k) (h2 : K v0 σ) : oJ [l0] body K := h1 K h2
theorem enter2 {d0 d1 e0 e1 : Nat} {a b : List AV} {K : AV → AV → AS → Prop} (h : ∀ s : AS, s.h.get 0 = some (.cells a e0 false) → s.h.get 1 = some (.cells b e1 false) → s.n = 2 → K (.ptr 0 0) (.ptr 1 0) s) :
    oN d0 (.cells a e0 false) (fun id => .ptr id 0) ⟨Tr.nil, 0⟩ (fun t s1 => oN d1 (.cells b e1 false) (fun id => .ptr id 0) s1 (fun t' s2 => K t t' s2)) := by
  refine h ⟨(Tr.nil.put 0 (some (.cells a e0 false))).put 1 (some (.cells b e1 false)), 2⟩ ?_ ?_ rfl
  · rw [Tr.get_put, if_neg (by decide), Tr.get_put, if_pos rfl]
  · rw [Tr.get_put, if_pos rfl]
theorem oI_d {p : Prop} {_ : Decidable p} {A B : Prop} (h1 : p → A) (h2 : ¬ p → B) : oI (.b (decide p)) A B := oI_dec h1 h2
theorem e75I {a b : Int} {d : Nat} {σ : AS} {K : AV → AS → Prop} : oC T0 d 75 [.b (decide (a < b)), .b (decide (b < a))] σ K = K (.i .i64 (cmpI a b)) σ := e75
theorem e75B {a b : List UInt8} {d : Nat} {σ : AS} {K : AV → AS → Prop} : oC T0 d 75 [.b (Op.bytesLess a b), .b (Op.bytesLess b a)] σ K = K (.i .i64 (cmpB a b)) σ := e75
theorem sgt' : ∀ (a b : List UInt8), (!(Op.bytesLess a b || a == b)) = Op.bytesLess b a
  | [], [] => rfl
  | [], _ :: _ => rfl
  | _ :: _, [] => rfl
  | x :: a, y :: b => by
    have ih := sgt' a b
    simp only [Op.bytesLess]
    rcases Nat.lt_trichotomy x.toNat y.toNat with q | q | q
    · have h1 : x < y := q
      have h2 : ¬ y < x := fun h => absurd (show y.toNat < x.toNat from h) (by omega)
      have h3 : (y == x) = false := by simp; rintro rfl; omega
      simp [h1, h2, h3]
    · obtain rfl : x = y := UInt8.toNat_inj.1 q
      have h2 : ¬ x < x := fun h => absurd (show x.toNat < x.toNat from h) (by omega)
      rw [← ih]; simp [h2]
    · have h1 : y < x := q
      have h2 : ¬ x < y := fun h => absurd (show x.toNat < y.toNat from h) (by omega)
      have h3 : (x == y) = false := by simp; rintro rfl; omega
      have h4 : ¬ x = y := by rintro rfl; omega
      simp [h1, h2, h3, h4]
theorem oI_and {x y : Bool} {A B : Prop} (h1 : x = true → y = true → A) (h2 : (x = true → y = false) → B) : oI (.b (x && y)) A B := by
  refine ⟨fun h => ?_, fun h => ?_⟩
  · simp at h; exact h1 h.1 h.2
  · refine h2 fun hx => ?_
    subst hx; simpa using h
set_option profiler true in
set_option profiler.threshold 2000 in
theorem c61 (n : Nat) : ∀ (v : Val), SizeOf.sizeOf v ≤ n → okV v → ∀ (w : Val), okV w → R T0 61 [encV v, encV w] (.i .i64 (cmpV v w)) := by
  induction n with
  | zero => intro v h; obtain ⟨_, _, _, _, _⟩ := v; simp only [Val.mk.sizeOf_spec] at h; omega
  | succ n ih =>
    intro v hsz ov w ow
    obtain ⟨ls, ll, lf, ol, of_⟩ := okV_list ov
    obtain ⟨ls', ll', lf', ol', of'⟩ := okV_list ow
    obtain ⟨q1, q2⟩ := nrm_VV v w
    refine r61 _ _ q1 q2 ?_
    unfold w61
    dsimp only [prims]
    refine enter2 fun s h0 h1 _ => ?_
    simp (disch := first | first | omega | exact hk _ | exact hv _ | exact hn _ | exact hf _ | assumption | exact clen_V | exact clen_F | exact clen_Lb | exact clen_Ow | exact clen_Mg | exact clen_Mt | exact scell | (simp only [clen_Lb, clen_Ow, clen_Mg, clen_Mt]; omega) | (simp only [clen_V, clen_F]; omega) | assumption) only [Nat.zero_add, oV_some', oN_eq, oM_some, oH_some, oD_some, oE_some, oS_eq, oT_true, oI_true, oI_false, pick_t, pick_f, un_not, oI_not, decide_not, toNat_sub1, toNat_add1, decide_true, decide_false, not_true, not_false_eq_true, Bool.not_true, Bool.not_false, Bool.not_not, oZ_b, oZ_i, oZ_s, oZ_l, slen_map, wr64, Int.toNat_natCast, Int.toNat_zero, ne_eq, bin_lt, bin_slt, bin_gt, b_sgt, bin_eq, b_snil, beq_4, bin_add, load_get, loadB_some, get_put_same, get_put_ne, ofc_s, load_i, off_i, off_p, ofc_encLb, ofc0_encLb, st_Lb, fld_Lb_k, fld_Lb_v, prt_Lb_k, prt_Lb_v, ofc_encOw, ofc0_encOw, st_Ow, fld_Ow_kind, fld_Ow_name, fld_Ow_uid, fld_Ow_ctl, fld_Ow_blk, prt_Ow_kind, prt_Ow_name, prt_Ow_uid, prt_Ow_ctl, prt_Ow_blk, ofc_encMg, ofc0_encMg, st_Mg, fld_Mg_name, fld_Mg_fields, prt_Mg_name, prt_Mg_fields, ofc_encMt, ofc0_encMt, st_Mt, fld_Mt_kind, fld_Mt_ns, fld_Mt_name, fld_Mt_uid, fld_Mt_ver, fld_Mt_gen, fld_Mt_created, fld_Mt_deleting, fld_Mt_delAt, fld_Mt_labels, fld_Mt_owners, fld_Mt_fins, fld_Mt_mgrs, prt_Mt_kind, prt_Mt_ns, prt_Mt_name, prt_Mt_uid, prt_Mt_ver, prt_Mt_gen, prt_Mt_created, prt_Mt_deleting, prt_Mt_delAt, prt_Mt_labels, prt_Mt_owners, prt_Mt_fins, prt_Mt_mgrs, len_22, ia_22, len_23, ia_23, len_24, ia_24, len_25, ia_25, gtt_2, gff_2, gtf_2, gft_2, gvv_2, gnt_2, gnf_2, gtt_5, gff_5, gtf_5, gft_5, gvv_5, gnt_5, gnf_5, fld_V_kind, fld_V_n, fld_V_s, fld_V_list, fld_V_fields, e75I, e75B, bin_slt, bin_sgt, h0, h1]
    refine join3_pt (.i .i64 (thn (cmpI v.kind w.kind) (cmpI v.n w.n))) (.ptr 1 0) (.ptr 0 0) s (fun k hk => ?_) ?_
    · refine oI_d (fun q => ?_) (fun q => ?_)
      · rw [thn_z q] at hk
        exact hk
      · rw [thn_n q] at hk; exact hk
    generalize hX : thn (cmpI v.kind w.kind) (cmpI v.n w.n) = X
    simp (disch := first | first | omega | exact hk _ | exact hv _ | exact hn _ | exact hf _ | assumption | exact clen_V | exact clen_F | exact clen_Lb | exact clen_Ow | exact clen_Mg | exact clen_Mt | exact scell | (simp only [clen_Lb, clen_Ow, clen_Mg, clen_Mt]; omega) | (simp only [clen_V, clen_F]; omega) | assumption) only [Nat.zero_add, oV_some', oN_eq, oM_some, oH_some, oD_some, oE_some, oS_eq, oT_true, oI_true, oI_false, pick_t, pick_f, un_not, oI_not, decide_not, toNat_sub1, toNat_add1, decide_true, decide_false, not_true, not_false_eq_true, Bool.not_true, Bool.not_false, Bool.not_not, oZ_b, oZ_i, oZ_s, oZ_l, slen_map, wr64, Int.toNat_natCast, Int.toNat_zero, ne_eq, bin_lt, bin_slt, bin_gt, b_sgt, bin_eq, b_snil, beq_4, bin_add, load_get, loadB_some, get_put_same, get_put_ne, ofc_s, load_i, off_i, off_p, ofc_encLb, ofc0_encLb, st_Lb, fld_Lb_k, fld_Lb_v, prt_Lb_k, prt_Lb_v, ofc_encOw, ofc0_encOw, st_Ow, fld_Ow_kind, fld_Ow_name, fld_Ow_uid, fld_Ow_ctl, fld_Ow_blk, prt_Ow_kind, prt_Ow_name, prt_Ow_uid, prt_Ow_ctl, prt_Ow_blk, ofc_encMg, ofc0_encMg, st_Mg, fld_Mg_name, fld_Mg_fields, prt_Mg_name, prt_Mg_fields, ofc_encMt, ofc0_encMt, st_Mt, fld_Mt_kind, fld_Mt_ns, fld_Mt_name, fld_Mt_uid, fld_Mt_ver, fld_Mt_gen, fld_Mt_created, fld_Mt_deleting, fld_Mt_delAt, fld_Mt_labels, fld_Mt_owners, fld_Mt_fins, fld_Mt_mgrs, prt_Mt_kind, prt_Mt_ns, prt_Mt_name, prt_Mt_uid, prt_Mt_ver, prt_Mt_gen, prt_Mt_created, prt_Mt_deleting, prt_Mt_delAt, prt_Mt_labels, prt_Mt_owners, prt_Mt_fins, prt_Mt_mgrs, len_22, ia_22, len_23, ia_23, len_24, ia_24, len_25, ia_25, gtt_2, gff_2, gtf_2, gft_2, gvv_2, gnt_2, gnf_2, gtt_5, gff_5, gtf_5, gft_5, gvv_5, gnt_5, gnf_5, fld_V_kind, fld_V_n, fld_V_s, fld_V_list, fld_V_fields, e75I, e75B, bin_slt, bin_sgt, h0, h1]
    refine join3_pt (.i .i64 (thn X (cmpB v.s w.s))) (.ptr 1 0) (.ptr 0 0) s (fun k hk => ?_) ?_
    · refine oI_d (fun q => ?_) (fun q => ?_)
      · rw [thn_z q] at hk
        exact hk
      · rw [thn_n q] at hk; exact hk
    generalize hY : thn X (cmpB v.s w.s) = Y
    have fin : cmpV v w = thn (thn Y (cmpVs v.list w.list)) (cmpFs v.fields w.fields) := by rw [cmpV_thn, hX, hY]
    refine loop4 (X := Int × Nat) (fun x => .i .i64 x.1) (fun _ => .ptr 1 0) (fun _ => .ptr 0 0) (fun x => .i .i64 (x.2 : Nat)) (fun x σ => (σ.h.get 0 = some (.cells (encV v).cells 32 false) ∧ σ.h.get 1 = some (.cells (encV w).cells 32 false)) ∧ x.2 ≤ v.list.length ∧ x.2 ≤ w.list.length ∧ thn Y (cmpVs v.list w.list) = thn x.1 (cmpVs (v.list.drop x.2) (w.list.drop x.2))) (fun x => v.list.length - x.2) ?_ (Y, 0) _ ⟨⟨h0, h1⟩, Nat.zero_le _, Nat.zero_le _, rfl⟩
    clear h0 h1
    rintro R1 ⟨Z, j⟩ s ⟨⟨h0, h1⟩, hj, hj', ha⟩ hR1
    simp only at hj hj' ha
    simp (disch := first | first | omega | exact hk _ | exact hv _ | exact hn _ | exact hf _ | assumption | exact clen_V | exact clen_F | exact clen_Lb | exact clen_Ow | exact clen_Mg | exact clen_Mt | exact scell | (simp only [clen_Lb, clen_Ow, clen_Mg, clen_Mt]; omega) | (simp only [clen_V, clen_F]; omega) | assumption) only [Nat.zero_add, oV_some', oN_eq, oM_some, oH_some, oD_some, oE_some, oS_eq, oT_true, oI_true, oI_false, pick_t, pick_f, un_not, oI_not, decide_not, toNat_sub1, toNat_add1, decide_true, decide_false, not_true, not_false_eq_true, Bool.not_true, Bool.not_false, Bool.not_not, oZ_b, oZ_i, oZ_s, oZ_l, slen_map, wr64, Int.toNat_natCast, Int.toNat_zero, ne_eq, bin_lt, bin_slt, bin_gt, b_sgt, bin_eq, b_snil, beq_4, bin_add, load_get, loadB_some, get_put_same, get_put_ne, ofc_s, load_i, off_i, off_p, ofc_encLb, ofc0_encLb, st_Lb, fld_Lb_k, fld_Lb_v, prt_Lb_k, prt_Lb_v, ofc_encOw, ofc0_encOw, st_Ow, fld_Ow_kind, fld_Ow_name, fld_Ow_uid, fld_Ow_ctl, fld_Ow_blk, prt_Ow_kind, prt_Ow_name, prt_Ow_uid, prt_Ow_ctl, prt_Ow_blk, ofc_encMg, ofc0_encMg, st_Mg, fld_Mg_name, fld_Mg_fields, prt_Mg_name, prt_Mg_fields, ofc_encMt, ofc0_encMt, st_Mt, fld_Mt_kind, fld_Mt_ns, fld_Mt_name, fld_Mt_uid, fld_Mt_ver, fld_Mt_gen, fld_Mt_created, fld_Mt_deleting, fld_Mt_delAt, fld_Mt_labels, fld_Mt_owners, fld_Mt_fins, fld_Mt_mgrs, prt_Mt_kind, prt_Mt_ns, prt_Mt_name, prt_Mt_uid, prt_Mt_ver, prt_Mt_gen, prt_Mt_created, prt_Mt_deleting, prt_Mt_delAt, prt_Mt_labels, prt_Mt_owners, prt_Mt_fins, prt_Mt_mgrs, len_22, ia_22, len_23, ia_23, len_24, ia_24, len_25, ia_25, gtt_2, gff_2, gtf_2, gft_2, gvv_2, gnt_2, gnf_2, gtt_5, gff_5, gtf_5, gft_5, gvv_5, gnt_5, gnf_5, fld_V_list, fld_V_fields, len_29, e75I, h0, h1, slen_map, guard5t, guard2t, pick_and, cnd_true]
    refine oI_intro (fun q => ?_) (fun q => ?_)
    · simp only [Bool.and_eq_true, decide_eq_true_eq] at q
      obtain ⟨⟨q1, q2⟩, rfl⟩ := q
      have g1 : j < v.list.length := by omega
      have g2 : j < w.list.length := by omega
      have hre := fun (dd : Nat) (s : AS) (K : AV → AS → Prop) => (ih _ (by have := size_list v (getD_mem g1); omega) (ol _ (getD_mem g1)) _ (ol' _ (getD_mem g2))).eq dd s K
      simp (disch := first | first | omega | exact hk _ | exact hv _ | exact hn _ | exact hf _ | assumption | exact clen_V | exact clen_F | exact clen_Lb | exact clen_Ow | exact clen_Mg | exact clen_Mt | exact scell | (simp only [clen_Lb, clen_Ow, clen_Mg, clen_Mt]; omega) | (simp only [clen_V, clen_F]; omega) | assumption) only [Nat.zero_add, oV_some', oN_eq, oM_some, oH_some, oD_some, oE_some, oS_eq, oT_true, oI_true, oI_false, pick_t, pick_f, un_not, oI_not, decide_not, toNat_sub1, toNat_add1, decide_true, decide_false, not_true, not_false_eq_true, Bool.not_true, Bool.not_false, Bool.not_not, oZ_b, oZ_i, oZ_s, oZ_l, slen_map, wr64, Int.toNat_natCast, Int.toNat_zero, ne_eq, bin_lt, bin_slt, bin_gt, b_sgt, bin_eq, b_snil, beq_4, bin_add, load_get, loadB_some, get_put_same, get_put_ne, ofc_s, load_i, off_i, off_p, ofc_encLb, ofc0_encLb, st_Lb, fld_Lb_k, fld_Lb_v, prt_Lb_k, prt_Lb_v, ofc_encOw, ofc0_encOw, st_Ow, fld_Ow_kind, fld_Ow_name, fld_Ow_uid, fld_Ow_ctl, fld_Ow_blk, prt_Ow_kind, prt_Ow_name, prt_Ow_uid, prt_Ow_ctl, prt_Ow_blk, ofc_encMg, ofc0_encMg, st_Mg, fld_Mg_name, fld_Mg_fields, prt_Mg_name, prt_Mg_fields, ofc_encMt, ofc0_encMt, st_Mt, fld_Mt_kind, fld_Mt_ns, fld_Mt_name, fld_Mt_uid, fld_Mt_ver, fld_Mt_gen, fld_Mt_created, fld_Mt_deleting, fld_Mt_delAt, fld_Mt_labels, fld_Mt_owners, fld_Mt_fins, fld_Mt_mgrs, prt_Mt_kind, prt_Mt_ns, prt_Mt_name, prt_Mt_uid, prt_Mt_ver, prt_Mt_gen, prt_Mt_created, prt_Mt_deleting, prt_Mt_delAt, prt_Mt_labels, prt_Mt_owners, prt_Mt_fins, prt_Mt_mgrs, len_22, ia_22, len_23, ia_23, len_24, ia_24, len_25, ia_25, gtt_2, gff_2, gtf_2, gft_2, gvv_2, gnt_2, gnf_2, gtt_5, gff_5, gtf_5, gft_5, gvv_5, gnt_5, gnf_5, ia_29, ofc_encV, ofc0_encV, hre, h0, h1, slen_map]
      exact hR1 (_, j + 1) _ ⟨⟨h0, h1⟩, by omega, by omega, by rw [ha, drop_at g1, drop_at g2, cmpVs_cons, thn_z rfl]⟩ (by omega)
    have q' : Z = 0 → j = v.list.length ∨ j = w.list.length := fun hz => by
      subst hz; simp at q; omega
    refine join3_pt (.i .i64 (thn Y (cmpVs v.list w.list))) (.ptr 1 0) (.ptr 0 0) s (fun k hk => ?_) ?_
    · refine oI_d (fun q => ?_) (fun q => ?_)
      · rw [ha, thn_z q, cmpVs_end hj hj' (q' q)] at hk; exact hk
      · rw [ha, thn_n q] at hk; exact hk
    generalize hW : thn Y (cmpVs v.list w.list) = W at fin
    refine loop4 (X := Int × Nat) (fun x => .i .i64 x.1) (fun _ => .ptr 1 0) (fun _ => .ptr 0 0) (fun x => .i .i64 (x.2 : Nat)) (fun x σ => (σ.h.get 0 = some (.cells (encV v).cells 32 false) ∧ σ.h.get 1 = some (.cells (encV w).cells 32 false)) ∧ x.2 ≤ v.fields.length ∧ x.2 ≤ w.fields.length ∧ thn W (cmpFs v.fields w.fields) = thn x.1 (cmpFs (v.fields.drop x.2) (w.fields.drop x.2))) (fun x => v.fields.length - x.2) ?_ (W, 0) _ ⟨⟨h0, h1⟩, Nat.zero_le _, Nat.zero_le _, rfl⟩
    clear q q' ha hj hj' hR1 h0 h1
    rintro R2 ⟨Z, j⟩ s ⟨⟨h0, h1⟩, hj, hj', ha⟩ hR2
    simp only at hj hj' ha
    simp (disch := first | first | omega | exact hk _ | exact hv _ | exact hn _ | exact hf _ | assumption | exact clen_V | exact clen_F | exact clen_Lb | exact clen_Ow | exact clen_Mg | exact clen_Mt | exact scell | (simp only [clen_Lb, clen_Ow, clen_Mg, clen_Mt]; omega) | (simp only [clen_V, clen_F]; omega) | assumption) only [Nat.zero_add, oV_some', oN_eq, oM_some, oH_some, oD_some, oE_some, oS_eq, oT_true, oI_true, oI_false, pick_t, pick_f, un_not, oI_not, decide_not, toNat_sub1, toNat_add1, decide_true, decide_false, not_true, not_false_eq_true, Bool.not_true, Bool.not_false, Bool.not_not, oZ_b, oZ_i, oZ_s, oZ_l, slen_map, wr64, Int.toNat_natCast, Int.toNat_zero, ne_eq, bin_lt, bin_slt, bin_gt, b_sgt, bin_eq, b_snil, beq_4, bin_add, load_get, loadB_some, get_put_same, get_put_ne, ofc_s, load_i, off_i, off_p, ofc_encLb, ofc0_encLb, st_Lb, fld_Lb_k, fld_Lb_v, prt_Lb_k, prt_Lb_v, ofc_encOw, ofc0_encOw, st_Ow, fld_Ow_kind, fld_Ow_name, fld_Ow_uid, fld_Ow_ctl, fld_Ow_blk, prt_Ow_kind, prt_Ow_name, prt_Ow_uid, prt_Ow_ctl, prt_Ow_blk, ofc_encMg, ofc0_encMg, st_Mg, fld_Mg_name, fld_Mg_fields, prt_Mg_name, prt_Mg_fields, ofc_encMt, ofc0_encMt, st_Mt, fld_Mt_kind, fld_Mt_ns, fld_Mt_name, fld_Mt_uid, fld_Mt_ver, fld_Mt_gen, fld_Mt_created, fld_Mt_deleting, fld_Mt_delAt, fld_Mt_labels, fld_Mt_owners, fld_Mt_fins, fld_Mt_mgrs, prt_Mt_kind, prt_Mt_ns, prt_Mt_name, prt_Mt_uid, prt_Mt_ver, prt_Mt_gen, prt_Mt_created, prt_Mt_deleting, prt_Mt_delAt, prt_Mt_labels, prt_Mt_owners, prt_Mt_fins, prt_Mt_mgrs, len_22, ia_22, len_23, ia_23, len_24, ia_24, len_25, ia_25, gtt_2, gff_2, gtf_2, gft_2, gvv_2, gnt_2, gnf_2, gtt_5, gff_5, gtf_5, gft_5, gvv_5, gnt_5, gnf_5, fld_V_list, fld_V_fields, len_30, e75I, h0, h1, slen_map, guard5t, guard2t, pick_and, cnd_true]
    refine oI_intro (fun q => ?_) (fun q => ?_)
    · simp only [Bool.and_eq_true, decide_eq_true_eq] at q
      obtain ⟨⟨q1, q2⟩, rfl⟩ := q
      have g1 : j < v.fields.length := by omega
      have g2 : j < w.fields.length := by omega
      have hre := fun (dd : Nat) (s : AS) (K : AV → AS → Prop) => (ih _ (by have := size_fields v (getD_mem g1); omega) (okF_v (of_ _ (getD_mem g1))).2 _ (okF_v (of' _ (getD_mem g2))).2).eq dd s K
      refine join4_pt (.i .i64 (thn (cmpB (v.fields.getD j default).name (w.fields.getD j default).name) (cmpV (v.fields.getD j default).v (w.fields.getD j default).v))) (.ptr 1 0) (.ptr 0 0) (.i .i64 (j : Nat)) s (fun k hk => ?_) ?_
      · simp (disch := first | first | omega | exact hk _ | exact hv _ | exact hn _ | exact hf _ | assumption | exact clen_V | exact clen_F | exact clen_Lb | exact clen_Ow | exact clen_Mg | exact clen_Mt | exact scell | (simp only [clen_Lb, clen_Ow, clen_Mg, clen_Mt]; omega) | (simp only [clen_V, clen_F]; omega) | assumption) only [Nat.zero_add, oV_some', oN_eq, oM_some, oH_some, oD_some, oE_some, oS_eq, oT_true, oI_true, oI_false, pick_t, pick_f, un_not, oI_not, decide_not, toNat_sub1, toNat_add1, decide_true, decide_false, not_true, not_false_eq_true, Bool.not_true, Bool.not_false, Bool.not_not, oZ_b, oZ_i, oZ_s, oZ_l, slen_map, wr64, Int.toNat_natCast, Int.toNat_zero, ne_eq, bin_lt, bin_slt, bin_gt, b_sgt, bin_eq, b_snil, beq_4, bin_add, load_get, loadB_some, get_put_same, get_put_ne, ofc_s, load_i, off_i, off_p, ofc_encLb, ofc0_encLb, st_Lb, fld_Lb_k, fld_Lb_v, prt_Lb_k, prt_Lb_v, ofc_encOw, ofc0_encOw, st_Ow, fld_Ow_kind, fld_Ow_name, fld_Ow_uid, fld_Ow_ctl, fld_Ow_blk, prt_Ow_kind, prt_Ow_name, prt_Ow_uid, prt_Ow_ctl, prt_Ow_blk, ofc_encMg, ofc0_encMg, st_Mg, fld_Mg_name, fld_Mg_fields, prt_Mg_name, prt_Mg_fields, ofc_encMt, ofc0_encMt, st_Mt, fld_Mt_kind, fld_Mt_ns, fld_Mt_name, fld_Mt_uid, fld_Mt_ver, fld_Mt_gen, fld_Mt_created, fld_Mt_deleting, fld_Mt_delAt, fld_Mt_labels, fld_Mt_owners, fld_Mt_fins, fld_Mt_mgrs, prt_Mt_kind, prt_Mt_ns, prt_Mt_name, prt_Mt_uid, prt_Mt_ver, prt_Mt_gen, prt_Mt_created, prt_Mt_deleting, prt_Mt_delAt, prt_Mt_labels, prt_Mt_owners, prt_Mt_fins, prt_Mt_mgrs, len_22, ia_22, len_23, ia_23, len_24, ia_24, len_25, ia_25, gtt_2, gff_2, gtf_2, gft_2, gvv_2, gnt_2, gnf_2, gtt_5, gff_5, gtf_5, gft_5, gvv_5, gnt_5, gnf_5, ia_30, ofc_encV, ofc0_encV, fld_F_name, fld_F_v, e75B, bin_slt, bin_sgt, sgt', hre, h0, h1, slen_map]
        refine oI_d (fun q => ?_) (fun q => ?_)
        · rw [thn_z q] at hk; exact hk
        · rw [thn_n q] at hk; exact hk
      · simp (disch := first | first | omega | exact hk _ | exact hv _ | exact hn _ | exact hf _ | assumption | exact clen_V | exact clen_F | exact clen_Lb | exact clen_Ow | exact clen_Mg | exact clen_Mt | exact scell | (simp only [clen_Lb, clen_Ow, clen_Mg, clen_Mt]; omega) | (simp only [clen_V, clen_F]; omega) | assumption) only [Nat.zero_add, oV_some', oN_eq, oM_some, oH_some, oD_some, oE_some, oS_eq, oT_true, oI_true, oI_false, pick_t, pick_f, un_not, oI_not, decide_not, toNat_sub1, toNat_add1, decide_true, decide_false, not_true, not_false_eq_true, Bool.not_true, Bool.not_false, Bool.not_not, oZ_b, oZ_i, oZ_s, oZ_l, slen_map, wr64, Int.toNat_natCast, Int.toNat_zero, ne_eq, bin_lt, bin_slt, bin_gt, b_sgt, bin_eq, b_snil, beq_4, bin_add, load_get, loadB_some, get_put_same, get_put_ne, ofc_s, load_i, off_i, off_p, ofc_encLb, ofc0_encLb, st_Lb, fld_Lb_k, fld_Lb_v, prt_Lb_k, prt_Lb_v, ofc_encOw, ofc0_encOw, st_Ow, fld_Ow_kind, fld_Ow_name, fld_Ow_uid, fld_Ow_ctl, fld_Ow_blk, prt_Ow_kind, prt_Ow_name, prt_Ow_uid, prt_Ow_ctl, prt_Ow_blk, ofc_encMg, ofc0_encMg, st_Mg, fld_Mg_name, fld_Mg_fields, prt_Mg_name, prt_Mg_fields, ofc_encMt, ofc0_encMt, st_Mt, fld_Mt_kind, fld_Mt_ns, fld_Mt_name, fld_Mt_uid, fld_Mt_ver, fld_Mt_gen, fld_Mt_created, fld_Mt_deleting, fld_Mt_delAt, fld_Mt_labels, fld_Mt_owners, fld_Mt_fins, fld_Mt_mgrs, prt_Mt_kind, prt_Mt_ns, prt_Mt_name, prt_Mt_uid, prt_Mt_ver, prt_Mt_gen, prt_Mt_created, prt_Mt_deleting, prt_Mt_delAt, prt_Mt_labels, prt_Mt_owners, prt_Mt_fins, prt_Mt_mgrs, len_22, ia_22, len_23, ia_23, len_24, ia_24, len_25, ia_25, gtt_2, gff_2, gtf_2, gft_2, gvv_2, gnt_2, gnf_2, gtt_5, gff_5, gtf_5, gft_5, gvv_5, gnt_5, gnf_5, ia_30, h0, h1]
        exact hR2 (thn (cmpB (v.fields.getD j default).name (w.fields.getD j default).name) (cmpV (v.fields.getD j default).v (w.fields.getD j default).v), j + 1) _ ⟨⟨h0, h1⟩, by omega, by omega, by rw [ha, drop_at g1, drop_at g2, cmpFs_cons, thn_z rfl]⟩ (by omega)
    have q' : Z = 0 → j = v.fields.length ∨ j = w.fields.length := fun hz => by
      subst hz; simp at q; omega
    refine join1_pt (.i .i64 (thn W (cmpFs v.fields w.fields))) s (fun k hk => ?_) ?_
    · refine oI_d (fun q => ?_) (fun q => ?_)
      · rw [ha, thn_z q, cmpFs_end hj hj' (q' q)] at hk; exact hk
      · rw [ha, thn_n q] at hk; exact hk
    rw [oZ_i, ← fin]
end Go.Proofs.YtpnoongjaehmlaaDoor.Ev
