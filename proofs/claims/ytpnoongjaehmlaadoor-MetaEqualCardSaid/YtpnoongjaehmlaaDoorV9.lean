/- What KeyOf and the law MetaKeys answer. -/
import Derived.Test.YtpnoongjaehmlaaDoorV8
namespace Go.Proofs.YtpnoongjaehmlaaDoor.Ev
open Go Go.RowKit
set_option linter.unusedSimpArgs false
set_option linter.unusedVariables false
set_option maxRecDepth 100000

theorem c24 (m : Mt) (o : okMt m) : R T0 24 [encMt m] (.s (key3 m.kind m.ns m.name)) := by
  have o1 := o.kind
  have o2 := o.ns
  have o3 := o.name
  refine r24 _ rfl rfl ?_
  unfold w24
  dsimp only [prims]
  simp (disch := first | omega | exact hk _ | exact hv _ | exact hn _ | exact hf _ | assumption | exact clen_Lb | exact clen_Ow | exact clen_Mg | exact clen_Mt | exact scell | (simp only [clen_Lb, clen_Ow, clen_Mg, clen_Mt]; omega)) only [Nat.zero_add, oV_some', oN_eq, oM_some, oH_some, oD_some, oE_some, oS_eq, oT_true, oI_true, oI_false, pick_t, pick_f, un_not, oI_not, decide_not, toNat_sub1, toNat_add1, decide_true, decide_false, not_true, not_false_eq_true, Bool.not_true, Bool.not_false, Bool.not_not, oZ_b, oZ_i, oZ_s, oZ_l, slen_map, wr64, Int.toNat_natCast, Int.toNat_zero, ne_eq, load_get, loadB_some, get_put_same, get_put_ne, ofc_s, load_i, off_i, off_p, ofc_encMt, ofc0_encMt, st_Mt, fld_Mt_kind, fld_Mt_ns, fld_Mt_name, fld_Mt_uid, fld_Mt_ver, fld_Mt_gen, fld_Mt_created, fld_Mt_deleting, fld_Mt_delAt, fld_Mt_labels, fld_Mt_owners, fld_Mt_fins, fld_Mt_mgrs, prt_Mt_kind, prt_Mt_ns, prt_Mt_name, prt_Mt_uid, prt_Mt_ver, prt_Mt_gen, prt_Mt_created, prt_Mt_deleting, prt_Mt_delAt, prt_Mt_labels, prt_Mt_owners, prt_Mt_fins, prt_Mt_mgrs, len_24, ia_24, e17]
theorem e24 {m : Mt} (o : okMt m) {d : Nat} {σ : AS} {K : AV → AS → Prop} : oC T0 d 24 [encMt m] σ K = K (.s (key3 m.kind m.ns m.name)) σ := (c24 m o).eq d σ K
theorem pieces_no : ∀ {p : List UInt8}, p.all noSl = true → pieces p = [p] := fun h => (pieces_none (idx_no h)).1
theorem pieces_app : ∀ {p t : List UInt8}, p.all noSl = true → pieces (p ++ 47 :: t) = p :: pieces t
  | [], t, _ => by
    show pieces (47 :: t) = _
    conv => lhs; unfold pieces
    rw [if_pos rfl]
  | c :: p, t, h => by
    simp only [List.all_cons, Bool.and_eq_true, noSl, decide_eq_true_eq] at h
    have ih := pieces_app (p := p) (t := t) h.2
    show pieces (c :: (p ++ 47 :: t)) = _
    conv => lhs; unfold pieces
    rw [if_neg (fun q => h.1 ((sl_iff c).1 q)), ih]
theorem pieces_key {a b c : List UInt8} (ha : a.all noSl = true) (hb : b.all noSl = true) (hc : c.all noSl = true) : pieces (key3 a b c) = [a, b, c] := by
  have e : key3 a b c = a ++ 47 :: (b ++ 47 :: c) := by simp [key3]
  rw [e, pieces_app ha, pieces_app hb, pieces_no hc]
theorem noSl_name {s : List UInt8} (h : vname s = true) : s.all noSl = true ∧ s.length ≤ 40 := by
  unfold vname at h
  simp only [Bool.and_eq_true, decide_eq_true_eq] at h
  refine ⟨?_, h.2.1.1.2⟩
  have := h.1
  rw [List.all_eq_true] at this ⊢
  intro c hc
  have := this c hc
  simp only [nameByte, noSl, Bool.true_or, Bool.false_or, decide_true, decide_false, Bool.not_true, Bool.not_false, or_true, true_or, or_false, false_or, not_true, not_false_eq_true, not_true_eq_false, and_false, Bool.or_false, Bool.or_true, Bool.and_false, Bool.and_true, true_and, and_true, Bool.or_eq_true, Bool.and_eq_true, decide_eq_true_eq, ne_eq, Bool.not_eq_true', decide_eq_false_iff_not, iff_true, true_iff, false_iff, iff_false, Bool.true_eq, Bool.false_eq_true, reduceCtorEq, Bool.false_and, Bool.true_and, false_and] at this ⊢
  omega
theorem noSl_kind {s : List UInt8} (h : vkind s = true) : s.all noSl = true ∧ s.length ≤ 40 := by
  unfold vkind at h
  simp only [Bool.and_eq_true, decide_eq_true_eq] at h
  refine ⟨?_, h.2.1.1.2⟩
  have := h.1
  rw [List.all_eq_true] at this ⊢
  intro c hc
  have := this c hc
  simp only [capByte, noSl, Bool.true_or, Bool.false_or, decide_true, decide_false, Bool.not_true, Bool.not_false, or_true, true_or, or_false, false_or, not_true, not_false_eq_true, not_true_eq_false, and_false, Bool.or_false, Bool.or_true, Bool.and_false, Bool.and_true, true_and, and_true, Bool.or_eq_true, Bool.and_eq_true, decide_eq_true_eq, ne_eq, Bool.not_eq_true', decide_eq_false_iff_not, iff_true, true_iff, false_iff, iff_false, Bool.true_eq, Bool.false_eq_true, reduceCtorEq, Bool.false_and, Bool.true_and, false_and] at this ⊢
  omega
theorem noSl_space {s : List UInt8} (h : vspace s = true) : s.all noSl = true ∧ s.length ≤ 40 := by
  unfold vspace at h
  rcases (Bool.or_eq_true _ _).mp h with h | h
  · have : s = [] := List.length_eq_zero_iff.1 (of_decide_eq_true h)
    subst this; exact ⟨rfl, by simp⟩
  · exact noSl_name h
theorem good_of {m : Mt} (h : vmeta m = true) : good m.kind m.ns m.name = true := by
  unfold vmeta vrest at h
  simp only [Bool.and_eq_true] at h
  unfold good
  simp only [Bool.and_eq_true]
  exact h.2.1
theorem key_back {a b c : List UInt8} (h : good a b c = true) : keyOf3 (key3 a b c) = some (a, b, c) ∧ (key3 a b c).length ≤ 300 ∧ pieces (key3 a b c) = [a, b, c] := by
  have h' := h
  unfold good at h
  simp only [Bool.and_eq_true] at h
  obtain ⟨a1, a2⟩ := noSl_kind h.1.1
  obtain ⟨b1, b2⟩ := noSl_space h.1.2
  obtain ⟨c1, c2⟩ := noSl_name h.2
  have hp := pieces_key a1 b1 c1
  refine ⟨?_, ?_, hp⟩
  · unfold keyOf3; rw [hp]; simp only [h', if_true]
  · simp [key3]; omega
theorem key_inj {a b c a' b' c' : List UInt8} (h : good a b c = true) (h' : good a' b' c' = true) : decide (key3 a b c = key3 a' b' c') = (decide (a = a') && decide (b = b') && decide (c = c')) := by
  rw [Bool.eq_iff_iff]
  simp only [decide_eq_true_eq, Bool.and_eq_true]
  refine ⟨fun q => ?_, fun ⟨⟨q1, q2⟩, q3⟩ => by rw [q1, q2, q3]⟩
  have p1 := (key_back h).2.2
  have p2 := (key_back h').2.2
  rw [q, p2] at p1
  simp only [List.cons.injEq, and_true] at p1
  exact ⟨⟨p1.1.symm, p1.2.1.symm⟩, p1.2.2.symm⟩
theorem c8 (a b : Mt) (oa : okMt a) (ob : okMt b) : R T0 8 [encMt a, encMt b] (.b true) := by
  refine r8 _ _ rfl rfl ?_
  unfold w8
  dsimp only [prims]
  simp (disch := first | omega | assumption) only [oV_some', oN_eq, load_get, get_put_ne, get_put_same, loadB_some, ofc0_encMt, build_obj, Nat.zero_add]
  simp (disch := first | omega | assumption) only [e9O]
  cases ha : lite a
  · simp only [Bool.not_false, gtf_3, oV_some', pick_t, oI_true, e10, oZ_b]
  simp (disch := first | omega | assumption) only [Bool.not_true, gff_3, oV_some', load_get, get_put_ne, get_put_same, loadB_some, ofc0_encMt, build_obj, e9O]
  cases hb : lite b
  · simp only [Bool.not_false, gtf_3, oV_some', pick_t, pick_f, oI_true, e10, oZ_b]
  simp (disch := first | omega | assumption) only [Bool.not_true, gff_3, oV_some', pick_f, load_get, get_put_ne, get_put_same, loadB_some, ofc0_encMt, e11, un_not]
  cases va : vmeta a
  · simp only [Bool.not_false, gtf_3, oV_some', pick_t, oI_true, e10, oZ_b]
  simp (disch := first | omega | assumption) only [Bool.not_true, gff_3, oV_some', pick_f, load_get, get_put_ne, get_put_same, loadB_some, ofc0_encMt, e11, un_not]
  cases vb : vmeta b
  · simp only [Bool.not_false, gtf_3, oV_some', pick_t, pick_f, oI_true, e10, oZ_b]
  have ga := good_of va
  have gb := good_of vb
  obtain ⟨k1, k2, _⟩ := key_back ga
  have kj := key_inj ga gb
  simp (disch := first | omega | exact hk _ | exact hv _ | exact hn _ | exact hf _ | assumption | exact clen_Lb | exact clen_Ow | exact clen_Mg | exact clen_Mt | exact scell | (simp only [clen_Lb, clen_Ow, clen_Mg, clen_Mt]; omega)) only [Bool.not_true, gff_3, gff_4, gff_5, gff_6, oV_some', pick_t, pick_f, oI_false, load_get, get_put_ne, get_put_same, loadB_some, ofc0_encMt, e24, e15, k1, ex_0, ex_1, ex_2, ex_3, un_not, off_p, Nat.zero_add, fld_Mt_kind, fld_Mt_ns, fld_Mt_name, b_sne, eq_self_iff_true, decide_true]
  simp (disch := first | omega | exact hk _ | exact hv _ | exact hn _ | exact hf _ | assumption | exact clen_Lb | exact clen_Ow | exact clen_Mg | exact clen_Mt | exact scell | (simp only [clen_Lb, clen_Ow, clen_Mg, clen_Mt]; omega)) only [oV_some', load_get, get_put_ne, get_put_same, loadB_some, off_p, Nat.zero_add, fld_Mt_kind, fld_Mt_ns, fld_Mt_name, b_seq]
  repeat' ((first | with_reducible refine gdt_5 (fun h => ?_) (fun h => ?_) | with_reducible refine gdf_5 (fun h => ?_) (fun h => ?_) | with_reducible refine oI_decd (fun h => ?_) (fun h => ?_) | with_reducible refine gbt_1 (fun h => ?_) (fun h => ?_)) <;> try simp (disch := first | omega | exact hk _ | exact hv _ | exact hn _ | exact hf _ | assumption | exact clen_Lb | exact clen_Ow | exact clen_Mg | exact clen_Mt | exact scell | (simp only [clen_Lb, clen_Ow, clen_Mg, clen_Mt]; omega)) only [h, gtt_5, gft_5, gtt_1, gft_1, gff_5, gtf_5, oV_some', pick_t, pick_f, load_get, get_put_ne, get_put_same, loadB_some, ofc0_encMt, off_p, Nat.zero_add, fld_Mt_kind, fld_Mt_ns, fld_Mt_name, b_seq, e24, kj, beq_4, decide_true, decide_false, Bool.true_and, Bool.false_and, Bool.and_true, Bool.and_false, beq_self_eq_true, e10, oZ_b])
  all_goals (exfalso; simp_all)
theorem law_MetaKeys (a b : Mt) (oa : okMt a) (ob : okMt b) : R T0 8 [encMt a, encMt b] (.b true) := c8 a b oa ob
end Go.Proofs.YtpnoongjaehmlaaDoor.Ev
