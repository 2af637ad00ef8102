/- The law ServiceAllocates. -/
import Derived.Test.YtbcikhbepldjhaaDoorV15
namespace Go.Proofs.YtbcikhbepldjhaaDoor.Ev
open Go Go.RowKit
set_option linter.unusedSimpArgs false
set_option linter.unusedVariables false
set_option maxRecDepth 100000

theorem rows_drop {α : Type} [Inhabited α] {enc : α → AV} {z : Nat} (hE : ∀ x, (enc x).cells.length = z + 1) {l : List α} {j k : Nat} (hj : j < l.length) (hk : k ≤ z + 1) : (rowsOf enc l).drop (j * (z + 1) + k) = (enc (l.getD j default)).cells.drop k ++ rowsOf enc (l.drop (j + 1)) := by
  have h := mix_drop (enc := enc) (encD := enc) hE hj
  have e : mixRow enc enc l j = rowsOf enc l := by
    unfold mixRow; rw [← rowsOf_app, List.take_append_drop]
  rw [e] at h
  rw [← List.drop_drop, h, List.drop_append_of_le_length (by rw [hE]; exact hk)]
theorem own_ia {α : Type} {enc : α → AV} {e z : Nat} {h : Tr AB} {n : Nat} {l : List α} {o : Option Nat} {j t : Nat} (ho : Own enc e h n l o) (hj : j < l.length) (ht : T0.ty t = some (.slice e)) (hz : T0.sz e = some z) :
    ∃ id, h.get id = some (.cells (rowsOf enc l) e true) ∧ evIndexAddr T0 t (vOf o l.length) (.i .i64 (j : Nat)) = some (.ptr id (j * z)) := by
  cases o with
  | none => have : l = [] := ho; subst this; simp at hj
  | some id =>
    refine ⟨id, ho.2.2, ?_⟩
    simp only [evIndexAddr, vOf, ht, hz, Int.toNat_natCast, Nat.zero_add]
    rw [if_pos (by omega)]
theorem own_fld {h : Tr AB} {id j k tf : Nat} {l : List XService} {v : AV} (hg : h.get id = some (.cells (rowsOf encXService l) 33 true)) (hj : j < l.length) (hk : k ≤ 17) (hf : ∀ cs, ofCells T0 tf ((encXService (l.getD j default)).cells.drop k ++ cs) = some v) : evLoad T0 h tf (.ptr id (j * 17 + k)) = some v := by
  rw [load_p hg (by rw [rowsOf_len elS]; have := Nat.mul_le_mul_right 17 (show j + 1 ≤ l.length from hj); omega), rows_drop (z := 16) elS.len hj hk]
  exact hf _
theorem free_ext {l : List XService} {first : Int} : ∀ (k i : Nat), ∃ a e, freeI l first i k = .tup [.i .i64 a, .i .i64 e]
  | 0, i => ⟨_, _, rfl⟩
  | k + 1, i => by
    unfold freeI
    split
    · exact free_ext k (i + 1)
    · exact ⟨_, _, rfl⟩
theorem alloc_ext (l : List XService) (first count : Int) : ∃ a e, allocAV l first count = .tup [.i .i64 a, .i .i64 e] := by
  unfold allocAV
  split
  · exact ⟨_, _, rfl⟩
  · exact free_ext _ _
def z33 : AV := .agg [.s [], .s [], .s [], .i .i64 0, .i .i64 0, .i .i64 0, .i .i64 0, .b false, .i .i64 0, .nils, .nils, .nils, .nils, .nils, .nils, .b false, .i .i64 0]
def z36 : AV := .agg [.s [], .s [], .s [], .i .i64 0, .i .i64 0, .i .i64 0, .i .i64 0, .b false, .i .i64 0, .nils, .nils, .nils, .nils, .nils, .nils]
theorem b33 : evBuild T0 33 [] = some z33 := by kernel_rfl
theorem b36 : evBuild T0 36 [] = some z36 := by kernel_rfl
theorem e8z {l : List XService} (hl : l.length ≤ 140737488351232) {d : Nat} {σ : AS} {K : AV → AS → Prop} : oC T0 d 8 [.lst (l.map encXService), z33, z36] σ K = K (.b (heavyB l default default)) σ :=
  (R.of_norm (T := T0) (f := 8) (args := [.lst (l.map encXService), z33, z36]) (by kernel_rfl) (by kernel_rfl) (by kernel_rfl) rfl rfl rfl (c8 l default default hl (by show 0 ≤ _; omega) (by show 0 ≤ _; omega))).eq d σ K
theorem law_ServiceAllocates (l : List XService) (first count : Int) (name : List UInt8) (ol : l.length * 256 ≤ 140737488351232 ∧ ∀ z ∈ l, okXService z) (o1 : (Lit.int .i64 first).wf = true) (o2 : (Lit.int .i64 count).wf = true) (o3 : name.length ≤ 140737488351232) :
    R T0 3 [.lst (l.map encXService), .i .i64 first, .i .i64 count, .s name] (.b true) := by
  obtain ⟨f0, f1⟩ := wf64 o1
  obtain ⟨c0, c1⟩ := wf64 o2
  refine r3 _ _ _ _ rfl rfl ?_
  unfold w3
  dsimp only [prims]
  rw [b33, oV_some', b36, oV_some', e8z (by omega)]
  cases hh : heavyB l default default
  · have hl : l.length ≤ 1000 := by
      unfold heavyB at hh
      simp only [Bool.or_eq_false_iff, decide_eq_false_iff_not] at hh
      omega
    obtain ⟨a, e, hae⟩ := alloc_ext l first count
    obtain ⟨r, σ', hr, o, rfl, ho⟩ := c12 l name hl ol.2 ⟨Tr.nil, 0⟩
    have x0 : evExtract 0 (.tup [.i .i64 a, .i .i64 e]) = some (.i .i64 a) := rfl
    have x1 : evExtract 1 (.tup [.i .i64 a, .i .i64 e]) = some (.i .i64 e) := rfl
    rw [oI_false, e10 hl f0 f1 c0 c1, hae, x0, oV_some', x1, oV_some', e11 hl f0 f1 c0 c1, hae, x0, oV_some', x1, oV_some']
    simp only [bin_ne, oV_some', ne_eq, not_true, decide_false, gff_3, pick_f, oI_false]
    rw [hr.eq, e13 hl]
    generalize hY : l.map (relS name) = Y at ho
    have hYl : Y.length = l.length := by rw [← hY, List.length_map]
    rw [← hYl, len_own elS ho, oV_some', len_22, oV_some', List.length_map]
    simp only [bin_ne, oV_some', ne_eq, not_true, decide_false, oI_false]
    refine loop3 (X := Nat) (fun _ => .lst (Y.map encXService)) (fun _ => vOf o Y.length) (fun j => .i .i64 (j : Nat)) (fun j σ => j ≤ Y.length ∧ σ = σ') (fun j => Y.length - j) ?_ 0 _ ⟨Nat.zero_le _, rfl⟩
    rintro R j σ ⟨hj, rfl⟩ hR
    rw [len_own elS ho, oV_some']
    simp only [oV_some', bin_lt]
    refine oI_decd (fun h => ?_) (fun h => ?_)
    · have hj' : j < Y.length := by omega
      obtain ⟨id, hg, hia⟩ := own_ia ho hj' elS.ty elS.sz
      have l16 : evLoad T0 σ.h 3 (.ptr id (j * 17 + 16)) = some (.i .i64 (Y.getD j default).address_) := own_fld hg hj' (by decide) (fun cs => ofc_3 _ _)
      have l2 : evLoad T0 σ.h 9 (.ptr id (j * 17 + 2)) = some (.s (Y.getD j default).meta_.name_) := own_fld hg hj' (by decide) (fun cs => ofc_9 _ _)
      have l15 : evLoad T0 σ.h 4 (.ptr id (j * 17 + 15)) = some (.b (Y.getD j default).sticky_) := own_fld hg hj' (by decide) (fun cs => ofc_4 _ _)
      have xb : ∀ b : Bool, evBin T0 .neq 4 false (.b b) (.b b) = some (.b false) := fun b => by rw [bin_bne (by kernel_rfl)]; simp
      have nm0 : ofCells T0 9 (List.drop 2 (List.drop 0 (encXService (Y.getD j default)).cells)) = some (.s (Y.getD j default).meta_.name_) := ofc_9 _ _
      simp (disch := first | omega | assumption | exact scell | exact clen_XLabel | exact clen_XOwner | exact clen_XManager | exact clen_XMeta | exact clen_XRequirement | exact clen_XServicePort | exact clen_XService | exact clen_XEndpoint | exact clen_XEndpointSet | (simp only [clen_XLabel, clen_XOwner, clen_XManager, clen_XMeta, clen_XRequirement, clen_XServicePort, clen_XService, clen_XEndpoint, clen_XEndpointSet]; omega)) only [hia, nm0, bin_sne, beq_self_eq_true, ia_22, l16, l2, l15, xb, nm_S, off_p, Nat.zero_add, Nat.add_zero, Nat.zero_add, oV_some', oN_eq, oM_some, oH_some, oD_some, oE_some, oS_eq, oT_true, oI_true, oI_false, pick_t, pick_f, un_not, oI_not, decide_not, toNat_sub1, toNat_add1, decide_true, decide_false, not_true, not_false_eq_true, Bool.not_true, Bool.not_false, Bool.not_not, oZ_b, oZ_i, oZ_s, oZ_l, slen_map, wr64, Int.toNat_natCast, Int.toNat_zero, ne_eq, bin_lt, bin_slt, bin_le, b_sle, bin_gt, b_sgt, bin_ge, bin_sge, bin_eq, b_snil, beq_4, bin_ne, b_snnil, bne_4, bin_add, bin_sub, min5, load_get, loadB_some, get_put_same, get_put_ne, ofc_s, load_i, off_i, off_p, part_a, nilc_p, nilc_i, nilc_f, ext_t, len_9, idx_9, ofc_encXLabel, ofc0_encXLabel, st_XLabel, fld_XLabel_key_, fld_XLabel_value_, prt_XLabel_key_, prt_XLabel_value_, ofc_encXOwner, ofc0_encXOwner, st_XOwner, fld_XOwner_kind_, fld_XOwner_name_, fld_XOwner_uid_, fld_XOwner_controller_, fld_XOwner_block_, prt_XOwner_kind_, prt_XOwner_name_, prt_XOwner_uid_, prt_XOwner_controller_, prt_XOwner_block_, ofc_encXManager, ofc0_encXManager, st_XManager, fld_XManager_name_, fld_XManager_fields_, prt_XManager_name_, prt_XManager_fields_, ofc_encXMeta, ofc0_encXMeta, st_XMeta, fld_XMeta_kind_, fld_XMeta_namespace_, fld_XMeta_name_, fld_XMeta_uid_, fld_XMeta_version_, fld_XMeta_generation_, fld_XMeta_created_, fld_XMeta_deleting_, fld_XMeta_deleteAt_, fld_XMeta_labels_, fld_XMeta_owners_, fld_XMeta_finalizers_, fld_XMeta_managers_, prt_XMeta_kind_, prt_XMeta_namespace_, prt_XMeta_name_, prt_XMeta_uid_, prt_XMeta_version_, prt_XMeta_generation_, prt_XMeta_created_, prt_XMeta_deleting_, prt_XMeta_deleteAt_, prt_XMeta_labels_, prt_XMeta_owners_, prt_XMeta_finalizers_, prt_XMeta_managers_, ofc_encXRequirement, ofc0_encXRequirement, st_XRequirement, fld_XRequirement_key_, fld_XRequirement_op_, fld_XRequirement_values_, prt_XRequirement_key_, prt_XRequirement_op_, prt_XRequirement_values_, ofc_encXServicePort, ofc0_encXServicePort, st_XServicePort, fld_XServicePort_name_, fld_XServicePort_port_, fld_XServicePort_target_, prt_XServicePort_name_, prt_XServicePort_port_, prt_XServicePort_target_, ofc_encXService, ofc0_encXService, st_XService, fld_XService_meta_, fld_XService_selector_, fld_XService_ports_, fld_XService_sticky_, fld_XService_address_, prt_XService_meta_, prt_XService_selector_, prt_XService_ports_, prt_XService_sticky_, prt_XService_address_, ofc_encXEndpoint, ofc0_encXEndpoint, st_XEndpoint, fld_XEndpoint_pod_, fld_XEndpoint_node_, fld_XEndpoint_address_, fld_XEndpoint_ready_, fld_XEndpoint_terminating_, prt_XEndpoint_pod_, prt_XEndpoint_node_, prt_XEndpoint_address_, prt_XEndpoint_ready_, prt_XEndpoint_terminating_, ofc_encXEndpointSet, ofc0_encXEndpointSet, st_XEndpointSet, fld_XEndpointSet_meta_, fld_XEndpointSet_ports_, fld_XEndpointSet_items_, prt_XEndpointSet_meta_, prt_XEndpointSet_ports_, prt_XEndpointSet_items_, join0_eq, join1_eq, join2_eq, join3_eq, join4_eq, join5_eq, join6_eq, join7_eq, join8_eq, gtt_0, gff_0, gtf_0, gft_0, gvv_0, gnt_0, gnf_0, gtt_1, gff_1, gtf_1, gft_1, gvv_1, gnt_1, gnf_1, gtt_2, gff_2, gtf_2, gft_2, gvv_2, gnt_2, gnf_2, gtt_3, gff_3, gtf_3, gft_3, gvv_3, gnt_3, gnf_3, gtt_4, gff_4, gtf_4, gft_4, gvv_4, gnt_4, gnf_4, gtt_5, gff_5, gtf_5, gft_5, gvv_5, gnt_5, gnf_5, gtt_6, gff_6, gtf_6, gft_6, gvv_6, gnt_6, gnf_6, gtt_7, gff_7, gtf_7, gft_7, gvv_7, gnt_7, gnf_7, gtt_8, gff_8, gtf_8, gft_8, gvv_8, gnt_8, gnf_8, gtt_9, gff_9, gtf_9, gft_9, gvv_9, gnt_9, gnf_9, gtt_10, gff_10, gtf_10, gft_10, gvv_10, gnt_10, gnf_10, gtt_11, gff_11, gtf_11, gft_11, gvv_11, gnt_11, gnf_11, gtt_12, gff_12, gtf_12, gft_12, gvv_12, gnt_12, gnf_12, gtt_13, gff_13, gtf_13, gft_13, gvv_13, gnt_13, gnf_13, gtt_14, gff_14, gtf_14, gft_14, gvv_14, gnt_14, gnf_14, gtt_15, gff_15, gtf_15, gft_15, gvv_15, gnt_15, gnf_15, Int.toNat_natCast, decide_false, not_true]
      exact hR (j + 1) σ ⟨by omega, rfl⟩ (by omega)
    · rw [e9, oZ_b]
  · rw [oI_true, e9, oZ_b]
end Go.Proofs.YtbcikhbepldjhaaDoor.Ev
