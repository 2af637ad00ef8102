/- The reference's Release. -/
import Derived.Test.YtbcikhbepldjhaaDoorV12
namespace Go.Proofs.YtbcikhbepldjhaaDoor.Ev
open Go Go.RowKit
set_option linter.unusedSimpArgs false
set_option linter.unusedVariables false
set_option maxRecDepth 100000

theorem elS : El T0 encXService 22 33 16 256 where
  ty := by kernel_rfl
  sz := by kernel_rfl
  bytes := by kernel_rfl
  zr := by kernel_rfl
  de := agg_of (by kernel_rfl)
  len := fun _ => rfl
  leaf := fun _ => rfl
  free := fun _ => rfl
  nrm := fun _ => rfl
  agg := fun _ => rfl
def relS (name : List UInt8) (s : XService) : XService := if s.meta_.name_ = name then { s with address_ := 0 } else s
def relTo (name : List UInt8) (l : List XService) (j : Nat) : List XService := (l.take j).map (relS name)
theorem relTo_succ (name : List UInt8) (l : List XService) {j : Nat} (h : j < l.length) : relTo name l (j + 1) = relTo name l j ++ [relS name (l.getD j default)] := by
  unfold relTo
  rw [take_snoc h, List.map_append]; rfl
theorem relTo_len (name : List UInt8) (l : List XService) {j : Nat} (h : j ≤ l.length) : (relTo name l j).length = j := by
  unfold relTo; rw [List.length_map, List.length_take]; omega
theorem lit_22 (x : XService) : evLit T0 22 1 [(0, encXService x)] = some (.cells (encXService x).cells 33 false, fun id => .sl id 0 1 (some 1)) := by kernel_rfl
theorem smallS {n : Nat} (h : n ≤ 2000) : smallN n 256 = true := by
  unfold smallN
  rw [Nat.ble_eq_true_of_le (by omega), Nat.ble_eq_true_of_le (by omega), Nat.ble_eq_true_of_le (by omega)]; rfl
theorem nm_S (x : XService) : ofCells T0 9 ((encXService x).cells.drop 2) = some (.s x.meta_.name_) := ofc_9 _ _
theorem stAd {h : Tr AB} {id : Nat} (x : XService) : evStore T0 (h.put id (some (.cells (encXService x).cells 33 false))) 3 (.ptr id 16) (.i .i64 0) = some ((h.put id (some (.cells (encXService x).cells 33 false))).put id (some (.cells (encXService { x with address_ := 0 }).cells 33 false))) :=
  store_p sz_3 (get_put_same _ _ _) rfl rfl rfl
theorem c13 (l : List XService) (name : List UInt8) (hl : l.length ≤ 1000) : R T0 13 [.lst (l.map encXService), .s name] (.lst ((l.map (relS name)).map encXService)) := by
  refine r13 _ _ rfl rfl ?_
  unfold w13
  dsimp only [prims]
  refine loop4 (X := Nat × Option Nat) (fun x => vOf x.2 (relTo name l x.1).length) (fun _ => .s name) (fun _ => .lst (l.map encXService)) (fun x => .i .i64 (x.1 : Nat)) (fun x σ => x.1 ≤ l.length ∧ Own encXService 33 σ.h σ.n (relTo name l x.1) x.2) (fun x => l.length - x.1) ?_ (0, none) _ ⟨Nat.zero_le _, rfl⟩
  rintro R ⟨j, o⟩ σ ⟨hj, ho⟩ hR
  dsimp only at hj ho ⊢
  simp (disch := first | omega | assumption | exact scell | exact clen_XLabel | exact clen_XOwner | exact clen_XManager | exact clen_XMeta | exact clen_XRequirement | exact clen_XServicePort | exact clen_XService | exact clen_XEndpoint | exact clen_XEndpointSet | (simp only [clen_XLabel, clen_XOwner, clen_XManager, clen_XMeta, clen_XRequirement, clen_XServicePort, clen_XService, clen_XEndpoint, clen_XEndpointSet]; omega)) only [oV_some', len_22, slen_map, bin_lt]
  refine oI_decd (fun h => ?_) (fun h => ?_)
  · have hj' : j < l.length := by omega
    have hlen := relTo_len name l hj
    have e2 := relTo_succ name l hj'
    have e3 : (relTo name l j).length + 1 = (relTo name l (j + 1)).length := by rw [relTo_len name l hj, relTo_len name l (show j + 1 ≤ l.length by omega)]
    simp (disch := first | omega | assumption | exact scell | exact clen_XLabel | exact clen_XOwner | exact clen_XManager | exact clen_XMeta | exact clen_XRequirement | exact clen_XServicePort | exact clen_XService | exact clen_XEndpoint | exact clen_XEndpointSet | (simp only [clen_XLabel, clen_XOwner, clen_XManager, clen_XMeta, clen_XRequirement, clen_XServicePort, clen_XService, clen_XEndpoint, clen_XEndpointSet]; omega)) only [Nat.zero_add, oV_some', oN_eq, oM_some, oH_some, oD_some, oE_some, oS_eq, oT_true, oI_true, oI_false, pick_t, pick_f, un_not, oI_not, decide_not, toNat_sub1, toNat_add1, decide_true, decide_false, not_true, not_false_eq_true, Bool.not_true, Bool.not_false, Bool.not_not, oZ_b, oZ_i, oZ_s, oZ_l, slen_map, wr64, Int.toNat_natCast, Int.toNat_zero, ne_eq, bin_lt, bin_slt, bin_eq, b_snil, beq_4, bin_add, load_get, loadB_some, get_put_same, get_put_ne, ofc_s, load_i, off_i, off_p, ofc_encXOwner, ofc0_encXOwner, st_XOwner, fld_XOwner_kind_, fld_XOwner_name_, fld_XOwner_uid_, fld_XOwner_controller_, fld_XOwner_block_, prt_XOwner_kind_, prt_XOwner_name_, prt_XOwner_uid_, prt_XOwner_controller_, prt_XOwner_block_, ofc_encXManager, ofc0_encXManager, st_XManager, fld_XManager_name_, fld_XManager_fields_, prt_XManager_name_, prt_XManager_fields_, ofc_encXService, ofc0_encXService, st_XService, fld_XService_meta_, fld_XService_selector_, fld_XService_ports_, fld_XService_sticky_, fld_XService_address_, prt_XService_meta_, prt_XService_selector_, prt_XService_ports_, prt_XService_sticky_, prt_XService_address_, len_22, ia_22, join5_eq, Int.toNat_natCast, nm_S, b_seq]
    generalize hx : l.getD j default = x at e2
    by_cases q : x.meta_.name_ = name
    · have hr : relS name x = { x with address_ := 0 } := by unfold relS; rw [if_pos q]
      rw [hr] at e2
      simp (disch := first | omega | assumption | exact scell | exact clen_XLabel | exact clen_XOwner | exact clen_XManager | exact clen_XMeta | exact clen_XRequirement | exact clen_XServicePort | exact clen_XService | exact clen_XEndpoint | exact clen_XEndpointSet | (simp only [clen_XLabel, clen_XOwner, clen_XManager, clen_XMeta, clen_XRequirement, clen_XServicePort, clen_XService, clen_XEndpoint, clen_XEndpointSet]; omega)) only [Nat.zero_add, oV_some', oN_eq, oM_some, oH_some, oD_some, oE_some, oS_eq, oT_true, oI_true, oI_false, pick_t, pick_f, un_not, oI_not, decide_not, toNat_sub1, toNat_add1, decide_true, decide_false, not_true, not_false_eq_true, Bool.not_true, Bool.not_false, Bool.not_not, oZ_b, oZ_i, oZ_s, oZ_l, slen_map, wr64, Int.toNat_natCast, Int.toNat_zero, ne_eq, bin_lt, bin_slt, bin_eq, b_snil, beq_4, bin_add, load_get, loadB_some, get_put_same, get_put_ne, ofc_s, load_i, off_i, off_p, ofc_encXOwner, ofc0_encXOwner, st_XOwner, fld_XOwner_kind_, fld_XOwner_name_, fld_XOwner_uid_, fld_XOwner_controller_, fld_XOwner_block_, prt_XOwner_kind_, prt_XOwner_name_, prt_XOwner_uid_, prt_XOwner_controller_, prt_XOwner_block_, ofc_encXManager, ofc0_encXManager, st_XManager, fld_XManager_name_, fld_XManager_fields_, prt_XManager_name_, prt_XManager_fields_, ofc_encXService, ofc0_encXService, st_XService, fld_XService_meta_, fld_XService_selector_, fld_XService_ports_, fld_XService_sticky_, fld_XService_address_, prt_XService_meta_, prt_XService_selector_, prt_XService_ports_, prt_XService_sticky_, prt_XService_address_, len_22, ia_22, join5_eq, decide_eq_true q, stAd, lit_22]
      rw [app_one elS (l := relTo name l j) (x := { x with address_ := 0 }) (ho.same (fun i hi hlt => by simp (disch := omega) only [get_put_ne]) (by omega)) (get_put_same _ _ _) (smallS (by omega)), oM_some]
      try simp (disch := first | omega | assumption | exact scell | exact clen_XLabel | exact clen_XOwner | exact clen_XManager | exact clen_XMeta | exact clen_XRequirement | exact clen_XServicePort | exact clen_XService | exact clen_XEndpoint | exact clen_XEndpointSet | (simp only [clen_XLabel, clen_XOwner, clen_XManager, clen_XMeta, clen_XRequirement, clen_XServicePort, clen_XService, clen_XEndpoint, clen_XEndpointSet]; omega)) only [oV_some', bin_add, wr64]
      rw [e3]
      refine hR (j + 1, some (σ.n + 1 + 1)) _ ⟨by dsimp only; omega, ?_⟩ (by dsimp only; omega)
      dsimp only; rw [e2]
      exact ⟨by simp, by omega, get_put_same _ _ _⟩
    · have hr : relS name x = x := by unfold relS; rw [if_neg q]
      rw [hr] at e2
      simp (disch := first | omega | assumption | exact scell | exact clen_XLabel | exact clen_XOwner | exact clen_XManager | exact clen_XMeta | exact clen_XRequirement | exact clen_XServicePort | exact clen_XService | exact clen_XEndpoint | exact clen_XEndpointSet | (simp only [clen_XLabel, clen_XOwner, clen_XManager, clen_XMeta, clen_XRequirement, clen_XServicePort, clen_XService, clen_XEndpoint, clen_XEndpointSet]; omega)) only [Nat.zero_add, oV_some', oN_eq, oM_some, oH_some, oD_some, oE_some, oS_eq, oT_true, oI_true, oI_false, pick_t, pick_f, un_not, oI_not, decide_not, toNat_sub1, toNat_add1, decide_true, decide_false, not_true, not_false_eq_true, Bool.not_true, Bool.not_false, Bool.not_not, oZ_b, oZ_i, oZ_s, oZ_l, slen_map, wr64, Int.toNat_natCast, Int.toNat_zero, ne_eq, bin_lt, bin_slt, bin_eq, b_snil, beq_4, bin_add, load_get, loadB_some, get_put_same, get_put_ne, ofc_s, load_i, off_i, off_p, ofc_encXOwner, ofc0_encXOwner, st_XOwner, fld_XOwner_kind_, fld_XOwner_name_, fld_XOwner_uid_, fld_XOwner_controller_, fld_XOwner_block_, prt_XOwner_kind_, prt_XOwner_name_, prt_XOwner_uid_, prt_XOwner_controller_, prt_XOwner_block_, ofc_encXManager, ofc0_encXManager, st_XManager, fld_XManager_name_, fld_XManager_fields_, prt_XManager_name_, prt_XManager_fields_, ofc_encXService, ofc0_encXService, st_XService, fld_XService_meta_, fld_XService_selector_, fld_XService_ports_, fld_XService_sticky_, fld_XService_address_, prt_XService_meta_, prt_XService_selector_, prt_XService_ports_, prt_XService_sticky_, prt_XService_address_, len_22, ia_22, join5_eq, decide_eq_false q, lit_22]
      rw [app_one elS (l := relTo name l j) (x := x) (ho.same (fun i hi hlt => by simp (disch := omega) only [get_put_ne]) (by omega)) (get_put_same _ _ _) (smallS (by omega)), oM_some]
      try simp (disch := first | omega | assumption | exact scell | exact clen_XLabel | exact clen_XOwner | exact clen_XManager | exact clen_XMeta | exact clen_XRequirement | exact clen_XServicePort | exact clen_XService | exact clen_XEndpoint | exact clen_XEndpointSet | (simp only [clen_XLabel, clen_XOwner, clen_XManager, clen_XMeta, clen_XRequirement, clen_XServicePort, clen_XService, clen_XEndpoint, clen_XEndpointSet]; omega)) only [oV_some', bin_add, wr64]
      rw [e3]
      refine hR (j + 1, some (σ.n + 1 + 1)) _ ⟨by dsimp only; omega, ?_⟩ (by dsimp only; omega)
      dsimp only; rw [e2]
      exact ⟨by simp, by omega, get_put_same _ _ _⟩
  · have hall : relTo name l j = l.map (relS name) := by unfold relTo; rw [List.take_of_length_le (by omega)]
    rw [hall] at ho ⊢
    exact oZ_own elS ho rfl
theorem e13 {l : List XService} {name : List UInt8} (hl : l.length ≤ 1000) {d : Nat} {σ : AS} {K : AV → AS → Prop} : oC T0 d 13 [.lst (l.map encXService), .s name] σ K = K (.lst ((l.map (relS name)).map encXService)) σ := (c13 l name hl).eq d σ K
end Go.Proofs.YtbcikhbepldjhaaDoor.Ev
