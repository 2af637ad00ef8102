/- What equality of managers, the parts of a key and the reference's key answer. -/
import Derived.Test.YtpnoongjaehmlaaDoorV10
namespace Go.Proofs.YtpnoongjaehmlaaDoor.Ev
open Go Go.RowKit
set_option linter.unusedSimpArgs false
set_option linter.unusedVariables false
set_option maxRecDepth 100000

theorem c44 (l m : List Mg) (hl : l.length ≤ 140737488351232) (hm : m.length ≤ 140737488351232) (ol : ∀ x ∈ l, okMg x) (om : ∀ x ∈ m, okMg x) : R T0 44 [.lst (l.map encMg), .lst (m.map encMg), .fn 43 [] []] (.b (decide (l = m))) := by
  have hk : ∀ j, okMg (l.getD j default) := getD_all (p := okMg) (by simp [okMg, default]) ol
  have hv : ∀ j, okMg (m.getD j default) := getD_all (p := okMg) (by simp [okMg, default]) om
  refine r44 _ _ _ rfl rfl ?_
  unfold w44
  dsimp only [prims]
  simp (disch := first | omega | exact hk _ | exact hv _ | exact hn _ | exact hf _ | assumption | exact clen_Lb | exact clen_Ow | exact clen_Mg | exact clen_Mt | exact scell | (simp only [clen_Lb, clen_Ow, clen_Mg, clen_Mt]; omega)) only [Nat.zero_add, oV_some', oN_eq, oM_some, oH_some, oD_some, oE_some, oS_eq, oT_true, oI_true, oI_false, pick_t, pick_f, un_not, oI_not, decide_not, toNat_sub1, toNat_add1, decide_true, decide_false, not_true, not_false_eq_true, Bool.not_true, Bool.not_false, Bool.not_not, oZ_b, oZ_i, oZ_s, oZ_l, slen_map, wr64, Int.toNat_natCast, Int.toNat_zero, ne_eq, bin_lt, bin_slt, bin_ne, b_snnil, bne_4, bin_add, load_get, loadB_some, get_put_same, get_put_ne, ofc_s, load_i, ofc_encMg, ofc0_encMg, st_Mg, fld_Mg_name, fld_Mg_fields, prt_Mg_name, prt_Mg_fields, ofc_encMt, ofc0_encMt, st_Mt, fld_Mt_kind, fld_Mt_ns, fld_Mt_name, fld_Mt_uid, fld_Mt_ver, fld_Mt_gen, fld_Mt_created, fld_Mt_deleting, fld_Mt_delAt, fld_Mt_labels, fld_Mt_owners, fld_Mt_fins, fld_Mt_mgrs, prt_Mt_kind, prt_Mt_ns, prt_Mt_name, prt_Mt_uid, prt_Mt_ver, prt_Mt_gen, prt_Mt_created, prt_Mt_deleting, prt_Mt_delAt, prt_Mt_labels, prt_Mt_owners, prt_Mt_fins, prt_Mt_mgrs, len_24, ia_24, len_25, ia_25]
  repeat' ((first | with_reducible refine oI_decd (fun h => ?_) (fun h => ?_)  | with_reducible refine oI_bool (fun h => ?_) (fun h => ?_)) <;> try simp (disch := first | omega | exact hk _ | exact hv _ | exact hn _ | exact hf _ | assumption | exact clen_Lb | exact clen_Ow | exact clen_Mg | exact clen_Mt | exact scell | (simp only [clen_Lb, clen_Ow, clen_Mg, clen_Mt]; omega)) only [h, Nat.zero_add, oV_some', oN_eq, oM_some, oH_some, oD_some, oE_some, oS_eq, oT_true, oI_true, oI_false, pick_t, pick_f, un_not, oI_not, decide_not, toNat_sub1, toNat_add1, decide_true, decide_false, not_true, not_false_eq_true, Bool.not_true, Bool.not_false, Bool.not_not, oZ_b, oZ_i, oZ_s, oZ_l, slen_map, wr64, Int.toNat_natCast, Int.toNat_zero, ne_eq, bin_lt, bin_slt, bin_ne, b_snnil, bne_4, bin_add, load_get, loadB_some, get_put_same, get_put_ne, ofc_s, load_i, ofc_encMg, ofc0_encMg, st_Mg, fld_Mg_name, fld_Mg_fields, prt_Mg_name, prt_Mg_fields, ofc_encMt, ofc0_encMt, st_Mt, fld_Mt_kind, fld_Mt_ns, fld_Mt_name, fld_Mt_uid, fld_Mt_ver, fld_Mt_gen, fld_Mt_created, fld_Mt_deleting, fld_Mt_delAt, fld_Mt_labels, fld_Mt_owners, fld_Mt_fins, fld_Mt_mgrs, prt_Mt_kind, prt_Mt_ns, prt_Mt_name, prt_Mt_uid, prt_Mt_ver, prt_Mt_gen, prt_Mt_created, prt_Mt_deleting, prt_Mt_delAt, prt_Mt_labels, prt_Mt_owners, prt_Mt_fins, prt_Mt_mgrs, len_24, ia_24, len_25, ia_25])
  all_goals first
    | (rw [decide_eq_false (len_ne (l := l) (m := m) (by omega))])
    | skip
  refine loop5 (X := Nat) (fun _ => .fn 43 [] []) (fun _ => .lst (m.map encMg)) (fun _ => .lst (l.map encMg)) (fun _ => .i .i64 m.length) (fun j => .i .i64 j) (fun j _ => j ≤ l.length ∧ l.take j = m.take j) (fun j => l.length - j) ?_ 0 _ ⟨Nat.zero_le _, rfl⟩
  rintro R j σ ⟨hj, ha⟩ hR
  simp (disch := first | omega | exact hk _ | exact hv _ | exact hn _ | exact hf _ | assumption | exact clen_Lb | exact clen_Ow | exact clen_Mg | exact clen_Mt | exact scell | (simp only [clen_Lb, clen_Ow, clen_Mg, clen_Mt]; omega)) only [Nat.zero_add, oV_some', oN_eq, oM_some, oH_some, oD_some, oE_some, oS_eq, oT_true, oI_true, oI_false, pick_t, pick_f, un_not, oI_not, decide_not, toNat_sub1, toNat_add1, decide_true, decide_false, not_true, not_false_eq_true, Bool.not_true, Bool.not_false, Bool.not_not, oZ_b, oZ_i, oZ_s, oZ_l, slen_map, wr64, Int.toNat_natCast, Int.toNat_zero, ne_eq, bin_lt, bin_slt, bin_ne, b_snnil, bne_4, bin_add, load_get, loadB_some, get_put_same, get_put_ne, ofc_s, load_i, ofc_encMg, ofc0_encMg, st_Mg, fld_Mg_name, fld_Mg_fields, prt_Mg_name, prt_Mg_fields, ofc_encMt, ofc0_encMt, st_Mt, fld_Mt_kind, fld_Mt_ns, fld_Mt_name, fld_Mt_uid, fld_Mt_ver, fld_Mt_gen, fld_Mt_created, fld_Mt_deleting, fld_Mt_delAt, fld_Mt_labels, fld_Mt_owners, fld_Mt_fins, fld_Mt_mgrs, prt_Mt_kind, prt_Mt_ns, prt_Mt_name, prt_Mt_uid, prt_Mt_ver, prt_Mt_gen, prt_Mt_created, prt_Mt_deleting, prt_Mt_delAt, prt_Mt_labels, prt_Mt_owners, prt_Mt_fins, prt_Mt_mgrs, len_24, ia_24, len_25, ia_25, oF_fn, List.nil_append, List.append_nil, e43]
  repeat' ((first | with_reducible refine oI_decd (fun h => ?_) (fun h => ?_)  | with_reducible refine oI_bool (fun h => ?_) (fun h => ?_)) <;> try simp (disch := first | omega | exact hk _ | exact hv _ | exact hn _ | exact hf _ | assumption | exact clen_Lb | exact clen_Ow | exact clen_Mg | exact clen_Mt | exact scell | (simp only [clen_Lb, clen_Ow, clen_Mg, clen_Mt]; omega)) only [h, Nat.zero_add, oV_some', oN_eq, oM_some, oH_some, oD_some, oE_some, oS_eq, oT_true, oI_true, oI_false, pick_t, pick_f, un_not, oI_not, decide_not, toNat_sub1, toNat_add1, decide_true, decide_false, not_true, not_false_eq_true, Bool.not_true, Bool.not_false, Bool.not_not, oZ_b, oZ_i, oZ_s, oZ_l, slen_map, wr64, Int.toNat_natCast, Int.toNat_zero, ne_eq, bin_lt, bin_slt, bin_ne, b_snnil, bne_4, bin_add, load_get, loadB_some, get_put_same, get_put_ne, ofc_s, load_i, ofc_encMg, ofc0_encMg, st_Mg, fld_Mg_name, fld_Mg_fields, prt_Mg_name, prt_Mg_fields, ofc_encMt, ofc0_encMt, st_Mt, fld_Mt_kind, fld_Mt_ns, fld_Mt_name, fld_Mt_uid, fld_Mt_ver, fld_Mt_gen, fld_Mt_created, fld_Mt_deleting, fld_Mt_delAt, fld_Mt_labels, fld_Mt_owners, fld_Mt_fins, fld_Mt_mgrs, prt_Mt_kind, prt_Mt_ns, prt_Mt_name, prt_Mt_uid, prt_Mt_ver, prt_Mt_gen, prt_Mt_created, prt_Mt_deleting, prt_Mt_delAt, prt_Mt_labels, prt_Mt_owners, prt_Mt_fins, prt_Mt_mgrs, len_24, ia_24, len_25, ia_25, oF_fn, List.nil_append, List.append_nil, e43])
  all_goals first
    | exact hR (j + 1) _ ⟨by omega, take_eq_snoc (by omega) (by omega) ha (by assumption)⟩ (by omega)
    | (rw [decide_eq_false (list_ne (l := l) (m := m) (j := j) (by assumption))])
    | (rw [decide_eq_true (list_eq ha (by omega) (by omega))])
theorem e44 {l m : List Mg} (hl : l.length ≤ 140737488351232) (hm : m.length ≤ 140737488351232) (ol : ∀ x ∈ l, okMg x) (om : ∀ x ∈ m, okMg x) {d : Nat} {σ : AS} {K : AV → AS → Prop} : oC T0 d 44 [.lst (l.map encMg), .lst (m.map encMg), .fn 43 [] []] σ K = K (.b (decide (l = m))) σ := (c44 l m hl hm ol om).eq d σ K
def arr3 (a b c : List UInt8) : AV := .agg [.s a, .s b, .s c]
theorem build_62 (a b c : List UInt8) : evBuild T0 62 [(0, .s a), (1, .s b), (2, .s c)] = some (arr3 a b c) := by kernel_rfl
theorem st_62 {h : Tr AB} {id e : Nat} {g : Bool} (a b c : List UInt8) : evStore T0 (h.put id (some (.cells [.s [], .s [], .s []] e g))) 62 (.ptr id 0) (arr3 a b c) = some ((h.put id (some (.cells [.s [], .s [], .s []] e g))).put id (some (.cells (arr3 a b c).cells e g))) := store_all sz_62 rfl rfl rfl
theorem ld_62 (a b c : List UInt8) : ofCells T0 62 ((arr3 a b c).cells.drop 0) = some (arr3 a b c) := by rw [ofc_62]; rfl
theorem ne_62 (q : Bool) (a b c a' b' c' : List UInt8) : evBin T0 .neq 62 q (arr3 a b c) (arr3 a' b' c') = some (.b (!(decide (a = a') && decide (b = b') && decide (c = c')))) := by
  have e : evBin T0 .neq 62 q (arr3 a b c) (arr3 a' b' c') = some (.b (!(a == a' && (b == b' && (c == c' && true))))) := by kernel_rfl
  rw [e]
  congr 3
  rw [Bool.eq_iff_iff]; simp [and_assoc]
theorem c39 (m : Mt) : R T0 39 [encMt m] (arr3 m.kind m.ns m.name) := by
  refine r39 _ rfl rfl ?_
  unfold w39
  dsimp only [prims]
  simp (disch := first | omega | exact hk _ | exact hv _ | exact hn _ | exact hf _ | assumption | exact clen_Lb | exact clen_Ow | exact clen_Mg | exact clen_Mt | exact scell | (simp only [clen_Lb, clen_Ow, clen_Mg, clen_Mt]; omega)) only [Nat.zero_add, oV_some', oN_eq, oM_some, oH_some, oD_some, oE_some, oS_eq, oT_true, oI_true, oI_false, pick_t, pick_f, un_not, oI_not, decide_not, toNat_sub1, toNat_add1, decide_true, decide_false, not_true, not_false_eq_true, Bool.not_true, Bool.not_false, Bool.not_not, oZ_b, oZ_i, oZ_s, oZ_l, slen_map, wr64, Int.toNat_natCast, Int.toNat_zero, ne_eq, load_get, loadB_some, get_put_same, get_put_ne, ofc_s, load_i, off_i, off_p, ofc_encMt, ofc0_encMt, st_Mt, fld_Mt_kind, fld_Mt_ns, fld_Mt_name, fld_Mt_uid, fld_Mt_ver, fld_Mt_gen, fld_Mt_created, fld_Mt_deleting, fld_Mt_delAt, fld_Mt_labels, fld_Mt_owners, fld_Mt_fins, fld_Mt_mgrs, prt_Mt_kind, prt_Mt_ns, prt_Mt_name, prt_Mt_uid, prt_Mt_ver, prt_Mt_gen, prt_Mt_created, prt_Mt_deleting, prt_Mt_delAt, prt_Mt_labels, prt_Mt_owners, prt_Mt_fins, prt_Mt_mgrs, build_62, st_62, ld_62]
  exact Eq.mpr (oZ_free rfl) rfl
theorem e39 {m : Mt} {d : Nat} {σ : AS} {K : AV → AS → Prop} : oC T0 d 39 [encMt m] σ K = K (arr3 m.kind m.ns m.name) σ := (c39 m).eq d σ K
theorem c74 (a b c : List UInt8) (ha : a.length ≤ 140737488351232) (hb : b.length ≤ 140737488351232) (hc : c.length ≤ 140737488351232) : R T0 74 [.s a, .s b, .s c] (.s (key3 a b c)) := by
  refine r74 _ _ _ rfl rfl ?_
  unfold w74 key3
  dsimp only [prims]
  rw [bin_sadd (by simp; omega), oV_some', bin_sadd (by simp; omega), oV_some', bin_sadd (by simp; omega), oV_some', bin_sadd (by simp; omega), oV_some', oZ_s]
theorem e74 {a b c : List UInt8} (ha : a.length ≤ 140737488351232) (hb : b.length ≤ 140737488351232) (hc : c.length ≤ 140737488351232) {d : Nat} {σ : AS} {K : AV → AS → Prop} : oC T0 d 74 [.s a, .s b, .s c] σ K = K (.s (key3 a b c)) σ := (c74 a b c ha hb hc).eq d σ K
theorem c59 (m : Mt) (o : okMt m) : R T0 59 [encMt m] (.s (key3 m.kind m.ns m.name)) := by
  have o1 := o.kind
  have o2 := o.ns
  have o3 := o.name
  refine r59 _ rfl rfl ?_
  unfold w59
  dsimp only [prims]
  simp (disch := first | omega | exact hk _ | exact hv _ | exact hn _ | exact hf _ | assumption | exact clen_Lb | exact clen_Ow | exact clen_Mg | exact clen_Mt | exact scell | (simp only [clen_Lb, clen_Ow, clen_Mg, clen_Mt]; omega)) only [Nat.zero_add, oV_some', oN_eq, oM_some, oH_some, oD_some, oE_some, oS_eq, oT_true, oI_true, oI_false, pick_t, pick_f, un_not, oI_not, decide_not, toNat_sub1, toNat_add1, decide_true, decide_false, not_true, not_false_eq_true, Bool.not_true, Bool.not_false, Bool.not_not, oZ_b, oZ_i, oZ_s, oZ_l, slen_map, wr64, Int.toNat_natCast, Int.toNat_zero, ne_eq, load_get, loadB_some, get_put_same, get_put_ne, ofc_s, load_i, off_i, off_p, ofc_encMt, ofc0_encMt, st_Mt, fld_Mt_kind, fld_Mt_ns, fld_Mt_name, fld_Mt_uid, fld_Mt_ver, fld_Mt_gen, fld_Mt_created, fld_Mt_deleting, fld_Mt_delAt, fld_Mt_labels, fld_Mt_owners, fld_Mt_fins, fld_Mt_mgrs, prt_Mt_kind, prt_Mt_ns, prt_Mt_name, prt_Mt_uid, prt_Mt_ver, prt_Mt_gen, prt_Mt_created, prt_Mt_deleting, prt_Mt_delAt, prt_Mt_labels, prt_Mt_owners, prt_Mt_fins, prt_Mt_mgrs, e74]
theorem e59 {m : Mt} (o : okMt m) {d : Nat} {σ : AS} {K : AV → AS → Prop} : oC T0 d 59 [encMt m] σ K = K (.s (key3 m.kind m.ns m.name)) σ := (c59 m o).eq d σ K
end Go.Proofs.YtpnoongjaehmlaaDoor.Ev
