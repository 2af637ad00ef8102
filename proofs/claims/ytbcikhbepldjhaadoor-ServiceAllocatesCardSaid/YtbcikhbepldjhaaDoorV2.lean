/- The endpoints among which a connection is routed. -/
import Derived.Test.YtbcikhbepldjhaaDoorV1
namespace Go.Proofs.YtbcikhbepldjhaaDoor.Ev
open Go Go.RowKit
set_option linter.unusedSimpArgs false
set_option linter.unusedVariables false
set_option maxRecDepth 100000

theorem Own.same {α : Type} {enc : α → AV} {e : Nat} {h h' : Tr AB} {n n' : Nat} {l : List α} {o : Option Nat} (ho : Own enc e h n l o) (hs : ∀ j, o = some j → j < n → h'.get j = h.get j) (hn : n ≤ n') : Own enc e h' n' l o := by
  cases o with
  | none => exact ho
  | some j => exact ⟨ho.1, Nat.lt_of_lt_of_le ho.2.1 hn, by rw [hs j rfl ho.2.1]; exact ho.2.2⟩
theorem agg_of {T : Tab} {t : Nat} (h : (T.ty t).map isAggT = some true) : ∃ d, T.ty t = some d ∧ isAggT d = true := by
  cases hq : T.ty t with
  | none => rw [hq] at h; cases h
  | some d => rw [hq] at h; exact ⟨d, rfl, by simpa using h⟩
theorem elE : El T0 encXEndpoint 34 54 4 48 where
  ty := by kernel_rfl
  sz := by kernel_rfl
  bytes := by kernel_rfl
  zr := by kernel_rfl
  de := agg_of (by kernel_rfl)
  len := fun _ => rfl
  leaf := fun _ => rfl
  free := fun _ => rfl
  nrm := fun _ => rfl
  agg := fun _ => rfl
def goingL (l : List XEndpoint) : List XEndpoint := l.filter (fun x => x.terminating_)
def readyL (l : List XEndpoint) : List XEndpoint := l.filter (fun x => !x.terminating_ && x.ready_)
def cand (l : List XEndpoint) : List XEndpoint := if 0 < (readyL l).length then readyL l else goingL l
theorem filter_take {α : Type} (p : α → Bool) (l : List α) (j : Nat) (d : α) (hj : j < l.length) : (l.take (j + 1)).filter p = (l.take j).filter p ++ (if p (l.getD j d) then [l.getD j d] else []) := by
  rw [List.take_add_one, List.getElem?_eq_getElem hj, List.filter_append]
  have : l.getD j d = l[j] := by simp [List.getD_eq_getElem?_getD, hj]
  rw [this]
  simp only [Option.toList_some]
  congr 1
  by_cases h : p l[j] <;> simp [h]
theorem filter_le {α : Type} (p : α → Bool) (l : List α) (j : Nat) : ((l.take j).filter p).length ≤ l.length := by
  refine Nat.le_trans (List.length_filter_le _ _) ?_
  rw [List.length_take]; omega
theorem lit_34 (x : XEndpoint) : evLit T0 34 1 [(0, encXEndpoint x)] = some (.cells (encXEndpoint x).cells 54 false, fun id => .sl id 0 1 (some 1)) := by kernel_rfl
theorem small48 {n : Nat} (h : n ≤ 2000000) : smallN n 48 = true := by
  unfold smallN
  rw [Nat.ble_eq_true_of_le (by omega), Nat.ble_eq_true_of_le (by omega), Nat.ble_eq_true_of_le (by omega)]; rfl
theorem c22 (s : XEndpointSet) (hs : s.items_.length ≤ 1000) : R T0 22 [encXEndpointSet s] (.lst ((cand s.items_).map encXEndpoint)) := by
  refine r22 _ rfl rfl ?_
  unfold w22
  dsimp only [prims]
  simp (disch := first | omega | assumption | exact scell | exact clen_XLabel | exact clen_XOwner | exact clen_XManager | exact clen_XMeta | exact clen_XRequirement | exact clen_XServicePort | exact clen_XService | exact clen_XEndpoint | exact clen_XEndpointSet | (simp only [clen_XLabel, clen_XOwner, clen_XManager, clen_XMeta, clen_XRequirement, clen_XServicePort, clen_XService, clen_XEndpoint, clen_XEndpointSet]; omega)) only [Nat.zero_add, oV_some', oN_eq, oM_some, oH_some, oD_some, oE_some, oS_eq, oT_true, oI_true, oI_false, pick_t, pick_f, un_not, oI_not, decide_not, toNat_sub1, toNat_add1, decide_true, decide_false, not_true, not_false_eq_true, Bool.not_true, Bool.not_false, Bool.not_not, oZ_b, oZ_i, oZ_s, oZ_l, slen_map, wr64, Int.toNat_natCast, Int.toNat_zero, ne_eq, bin_lt, bin_slt, bin_gt, b_sgt, bin_add, load_get, loadB_some, get_put_same, get_put_ne, ofc_s, load_i, off_i, off_p, ofc_encXOwner, ofc0_encXOwner, st_XOwner, fld_XOwner_kind_, fld_XOwner_name_, fld_XOwner_uid_, fld_XOwner_controller_, fld_XOwner_block_, prt_XOwner_kind_, prt_XOwner_name_, prt_XOwner_uid_, prt_XOwner_controller_, prt_XOwner_block_, ofc_encXManager, ofc0_encXManager, st_XManager, fld_XManager_name_, fld_XManager_fields_, prt_XManager_name_, prt_XManager_fields_, ofc_encXRequirement, ofc0_encXRequirement, st_XRequirement, fld_XRequirement_key_, fld_XRequirement_op_, fld_XRequirement_values_, prt_XRequirement_key_, prt_XRequirement_op_, prt_XRequirement_values_, ofc_encXServicePort, ofc0_encXServicePort, st_XServicePort, fld_XServicePort_name_, fld_XServicePort_port_, fld_XServicePort_target_, prt_XServicePort_name_, prt_XServicePort_port_, prt_XServicePort_target_, ofc_encXService, ofc0_encXService, st_XService, fld_XService_meta_, fld_XService_selector_, fld_XService_ports_, fld_XService_sticky_, fld_XService_address_, prt_XService_meta_, prt_XService_selector_, prt_XService_ports_, prt_XService_sticky_, prt_XService_address_, ofc_encXEndpoint, ofc0_encXEndpoint, st_XEndpoint, fld_XEndpoint_pod_, fld_XEndpoint_node_, fld_XEndpoint_address_, fld_XEndpoint_ready_, fld_XEndpoint_terminating_, prt_XEndpoint_pod_, prt_XEndpoint_node_, prt_XEndpoint_address_, prt_XEndpoint_ready_, prt_XEndpoint_terminating_, ofc_encXEndpointSet, ofc0_encXEndpointSet, st_XEndpointSet, fld_XEndpointSet_meta_, fld_XEndpointSet_ports_, fld_XEndpointSet_items_, prt_XEndpointSet_meta_, prt_XEndpointSet_ports_, prt_XEndpointSet_items_, len_34, ia_34, join5_eq]
  generalize hl : s.items_ = l at hs
  refine loop5 (X := Nat × Option Nat × Option Nat) (fun x => vOf x.2.1 (goingL (l.take x.1)).length) (fun x => vOf x.2.2 (readyL (l.take x.1)).length) (fun _ => .lst (l.map encXEndpoint)) (fun _ => .i .i64 (l.length : Nat)) (fun x => .i .i64 (x.1 : Nat))
    (fun x σ => x.1 ≤ l.length ∧ Own encXEndpoint 54 σ.h σ.n (goingL (l.take x.1)) x.2.1 ∧ Own encXEndpoint 54 σ.h σ.n (readyL (l.take x.1)) x.2.2 ∧ (∀ i, x.2.1 = some i → x.2.2 ≠ some i)) (fun x => l.length - x.1) ?_ (0, none, none) _ ⟨Nat.zero_le _, rfl, rfl, fun i h => by cases h⟩
  rintro R ⟨j, o4, o3⟩ σ ⟨hj, h4, h3, hd⟩ hR
  dsimp only at hj h4 h3 hd ⊢
  simp (disch := first | omega | assumption | exact scell | exact clen_XLabel | exact clen_XOwner | exact clen_XManager | exact clen_XMeta | exact clen_XRequirement | exact clen_XServicePort | exact clen_XService | exact clen_XEndpoint | exact clen_XEndpointSet | (simp only [clen_XLabel, clen_XOwner, clen_XManager, clen_XMeta, clen_XRequirement, clen_XServicePort, clen_XService, clen_XEndpoint, clen_XEndpointSet]; omega)) only [oV_some', bin_lt]
  refine oI_decd (fun h => ?_) (fun h => ?_)
  · have hj' : j < l.length := by omega
    have g1 := filter_take (fun x : XEndpoint => x.terminating_) l j default hj'
    have g2 := filter_take (fun x : XEndpoint => !x.terminating_ && x.ready_) l j default hj'
    have b1 := filter_le (fun x : XEndpoint => x.terminating_) l j
    have b2 := filter_le (fun x : XEndpoint => !x.terminating_ && x.ready_) l j
    change goingL (l.take (j + 1)) = goingL (l.take j) ++ _ at g1
    change readyL (l.take (j + 1)) = readyL (l.take j) ++ _ at g2
    change (goingL (l.take j)).length ≤ _ at b1
    change (readyL (l.take j)).length ≤ _ at b2
    simp (disch := first | omega | assumption | exact scell | exact clen_XLabel | exact clen_XOwner | exact clen_XManager | exact clen_XMeta | exact clen_XRequirement | exact clen_XServicePort | exact clen_XService | exact clen_XEndpoint | exact clen_XEndpointSet | (simp only [clen_XLabel, clen_XOwner, clen_XManager, clen_XMeta, clen_XRequirement, clen_XServicePort, clen_XService, clen_XEndpoint, clen_XEndpointSet]; omega)) only [Nat.zero_add, oV_some', oN_eq, oM_some, oH_some, oD_some, oE_some, oS_eq, oT_true, oI_true, oI_false, pick_t, pick_f, un_not, oI_not, decide_not, toNat_sub1, toNat_add1, decide_true, decide_false, not_true, not_false_eq_true, Bool.not_true, Bool.not_false, Bool.not_not, oZ_b, oZ_i, oZ_s, oZ_l, slen_map, wr64, Int.toNat_natCast, Int.toNat_zero, ne_eq, bin_lt, bin_slt, bin_gt, b_sgt, bin_add, load_get, loadB_some, get_put_same, get_put_ne, ofc_s, load_i, off_i, off_p, ofc_encXOwner, ofc0_encXOwner, st_XOwner, fld_XOwner_kind_, fld_XOwner_name_, fld_XOwner_uid_, fld_XOwner_controller_, fld_XOwner_block_, prt_XOwner_kind_, prt_XOwner_name_, prt_XOwner_uid_, prt_XOwner_controller_, prt_XOwner_block_, ofc_encXManager, ofc0_encXManager, st_XManager, fld_XManager_name_, fld_XManager_fields_, prt_XManager_name_, prt_XManager_fields_, ofc_encXRequirement, ofc0_encXRequirement, st_XRequirement, fld_XRequirement_key_, fld_XRequirement_op_, fld_XRequirement_values_, prt_XRequirement_key_, prt_XRequirement_op_, prt_XRequirement_values_, ofc_encXServicePort, ofc0_encXServicePort, st_XServicePort, fld_XServicePort_name_, fld_XServicePort_port_, fld_XServicePort_target_, prt_XServicePort_name_, prt_XServicePort_port_, prt_XServicePort_target_, ofc_encXService, ofc0_encXService, st_XService, fld_XService_meta_, fld_XService_selector_, fld_XService_ports_, fld_XService_sticky_, fld_XService_address_, prt_XService_meta_, prt_XService_selector_, prt_XService_ports_, prt_XService_sticky_, prt_XService_address_, ofc_encXEndpoint, ofc0_encXEndpoint, st_XEndpoint, fld_XEndpoint_pod_, fld_XEndpoint_node_, fld_XEndpoint_address_, fld_XEndpoint_ready_, fld_XEndpoint_terminating_, prt_XEndpoint_pod_, prt_XEndpoint_node_, prt_XEndpoint_address_, prt_XEndpoint_ready_, prt_XEndpoint_terminating_, ofc_encXEndpointSet, ofc0_encXEndpointSet, st_XEndpointSet, fld_XEndpointSet_meta_, fld_XEndpointSet_ports_, fld_XEndpointSet_items_, prt_XEndpointSet_meta_, prt_XEndpointSet_ports_, prt_XEndpointSet_items_, len_34, ia_34, join5_eq, Int.toNat_natCast]
    generalize hx : l.getD j default = x at g1 g2
    have hn := σ.n.lt_succ_self
    cases ht : x.terminating_
    · rw [ht] at g1 g2
      simp only [Bool.not_false, Bool.true_and, Bool.false_eq_true, if_false, List.append_nil] at g1 g2
      simp (disch := first | omega | assumption | exact scell | exact clen_XLabel | exact clen_XOwner | exact clen_XManager | exact clen_XMeta | exact clen_XRequirement | exact clen_XServicePort | exact clen_XService | exact clen_XEndpoint | exact clen_XEndpointSet | (simp only [clen_XLabel, clen_XOwner, clen_XManager, clen_XMeta, clen_XRequirement, clen_XServicePort, clen_XService, clen_XEndpoint, clen_XEndpointSet]; omega)) only [Nat.zero_add, oV_some', oN_eq, oM_some, oH_some, oD_some, oE_some, oS_eq, oT_true, oI_true, oI_false, pick_t, pick_f, un_not, oI_not, decide_not, toNat_sub1, toNat_add1, decide_true, decide_false, not_true, not_false_eq_true, Bool.not_true, Bool.not_false, Bool.not_not, oZ_b, oZ_i, oZ_s, oZ_l, slen_map, wr64, Int.toNat_natCast, Int.toNat_zero, ne_eq, bin_lt, bin_slt, bin_gt, b_sgt, bin_add, load_get, loadB_some, get_put_same, get_put_ne, ofc_s, load_i, off_i, off_p, ofc_encXOwner, ofc0_encXOwner, st_XOwner, fld_XOwner_kind_, fld_XOwner_name_, fld_XOwner_uid_, fld_XOwner_controller_, fld_XOwner_block_, prt_XOwner_kind_, prt_XOwner_name_, prt_XOwner_uid_, prt_XOwner_controller_, prt_XOwner_block_, ofc_encXManager, ofc0_encXManager, st_XManager, fld_XManager_name_, fld_XManager_fields_, prt_XManager_name_, prt_XManager_fields_, ofc_encXRequirement, ofc0_encXRequirement, st_XRequirement, fld_XRequirement_key_, fld_XRequirement_op_, fld_XRequirement_values_, prt_XRequirement_key_, prt_XRequirement_op_, prt_XRequirement_values_, ofc_encXServicePort, ofc0_encXServicePort, st_XServicePort, fld_XServicePort_name_, fld_XServicePort_port_, fld_XServicePort_target_, prt_XServicePort_name_, prt_XServicePort_port_, prt_XServicePort_target_, ofc_encXService, ofc0_encXService, st_XService, fld_XService_meta_, fld_XService_selector_, fld_XService_ports_, fld_XService_sticky_, fld_XService_address_, prt_XService_meta_, prt_XService_selector_, prt_XService_ports_, prt_XService_sticky_, prt_XService_address_, ofc_encXEndpoint, ofc0_encXEndpoint, st_XEndpoint, fld_XEndpoint_pod_, fld_XEndpoint_node_, fld_XEndpoint_address_, fld_XEndpoint_ready_, fld_XEndpoint_terminating_, prt_XEndpoint_pod_, prt_XEndpoint_node_, prt_XEndpoint_address_, prt_XEndpoint_ready_, prt_XEndpoint_terminating_, ofc_encXEndpointSet, ofc0_encXEndpointSet, st_XEndpointSet, fld_XEndpointSet_meta_, fld_XEndpointSet_ports_, fld_XEndpointSet_items_, prt_XEndpointSet_meta_, prt_XEndpointSet_ports_, prt_XEndpointSet_items_, len_34, ia_34, join5_eq, ht]
      cases hr : x.ready_
      · rw [hr] at g2
        simp only [Bool.false_eq_true, if_false, List.append_nil] at g2
        simp (disch := first | omega | assumption | exact scell | exact clen_XLabel | exact clen_XOwner | exact clen_XManager | exact clen_XMeta | exact clen_XRequirement | exact clen_XServicePort | exact clen_XService | exact clen_XEndpoint | exact clen_XEndpointSet | (simp only [clen_XLabel, clen_XOwner, clen_XManager, clen_XMeta, clen_XRequirement, clen_XServicePort, clen_XService, clen_XEndpoint, clen_XEndpointSet]; omega)) only [Nat.zero_add, oV_some', oN_eq, oM_some, oH_some, oD_some, oE_some, oS_eq, oT_true, oI_true, oI_false, pick_t, pick_f, un_not, oI_not, decide_not, toNat_sub1, toNat_add1, decide_true, decide_false, not_true, not_false_eq_true, Bool.not_true, Bool.not_false, Bool.not_not, oZ_b, oZ_i, oZ_s, oZ_l, slen_map, wr64, Int.toNat_natCast, Int.toNat_zero, ne_eq, bin_lt, bin_slt, bin_gt, b_sgt, bin_add, load_get, loadB_some, get_put_same, get_put_ne, ofc_s, load_i, off_i, off_p, ofc_encXOwner, ofc0_encXOwner, st_XOwner, fld_XOwner_kind_, fld_XOwner_name_, fld_XOwner_uid_, fld_XOwner_controller_, fld_XOwner_block_, prt_XOwner_kind_, prt_XOwner_name_, prt_XOwner_uid_, prt_XOwner_controller_, prt_XOwner_block_, ofc_encXManager, ofc0_encXManager, st_XManager, fld_XManager_name_, fld_XManager_fields_, prt_XManager_name_, prt_XManager_fields_, ofc_encXRequirement, ofc0_encXRequirement, st_XRequirement, fld_XRequirement_key_, fld_XRequirement_op_, fld_XRequirement_values_, prt_XRequirement_key_, prt_XRequirement_op_, prt_XRequirement_values_, ofc_encXServicePort, ofc0_encXServicePort, st_XServicePort, fld_XServicePort_name_, fld_XServicePort_port_, fld_XServicePort_target_, prt_XServicePort_name_, prt_XServicePort_port_, prt_XServicePort_target_, ofc_encXService, ofc0_encXService, st_XService, fld_XService_meta_, fld_XService_selector_, fld_XService_ports_, fld_XService_sticky_, fld_XService_address_, prt_XService_meta_, prt_XService_selector_, prt_XService_ports_, prt_XService_sticky_, prt_XService_address_, ofc_encXEndpoint, ofc0_encXEndpoint, st_XEndpoint, fld_XEndpoint_pod_, fld_XEndpoint_node_, fld_XEndpoint_address_, fld_XEndpoint_ready_, fld_XEndpoint_terminating_, prt_XEndpoint_pod_, prt_XEndpoint_node_, prt_XEndpoint_address_, prt_XEndpoint_ready_, prt_XEndpoint_terminating_, ofc_encXEndpointSet, ofc0_encXEndpointSet, st_XEndpointSet, fld_XEndpointSet_meta_, fld_XEndpointSet_ports_, fld_XEndpointSet_items_, prt_XEndpointSet_meta_, prt_XEndpointSet_ports_, prt_XEndpointSet_items_, len_34, ia_34, join5_eq, hr]
        rw [← g1, ← g2]
        refine hR (j + 1, o4, o3) _ ⟨by dsimp only; omega, ?_, ?_, hd⟩ (by dsimp only; omega)
        · dsimp only; rw [g1]
          exact h4.same (fun i hi hlt => by simp (disch := omega) only [get_put_ne]) (by omega)
        · dsimp only; rw [g2]
          exact h3.same (fun i hi hlt => by simp (disch := omega) only [get_put_ne]) (by omega)
      · rw [hr] at g2
        simp only [if_true] at g2
        simp (disch := first | omega | assumption | exact scell | exact clen_XLabel | exact clen_XOwner | exact clen_XManager | exact clen_XMeta | exact clen_XRequirement | exact clen_XServicePort | exact clen_XService | exact clen_XEndpoint | exact clen_XEndpointSet | (simp only [clen_XLabel, clen_XOwner, clen_XManager, clen_XMeta, clen_XRequirement, clen_XServicePort, clen_XService, clen_XEndpoint, clen_XEndpointSet]; omega)) only [Nat.zero_add, oV_some', oN_eq, oM_some, oH_some, oD_some, oE_some, oS_eq, oT_true, oI_true, oI_false, pick_t, pick_f, un_not, oI_not, decide_not, toNat_sub1, toNat_add1, decide_true, decide_false, not_true, not_false_eq_true, Bool.not_true, Bool.not_false, Bool.not_not, oZ_b, oZ_i, oZ_s, oZ_l, slen_map, wr64, Int.toNat_natCast, Int.toNat_zero, ne_eq, bin_lt, bin_slt, bin_gt, b_sgt, bin_add, load_get, loadB_some, get_put_same, get_put_ne, ofc_s, load_i, off_i, off_p, ofc_encXOwner, ofc0_encXOwner, st_XOwner, fld_XOwner_kind_, fld_XOwner_name_, fld_XOwner_uid_, fld_XOwner_controller_, fld_XOwner_block_, prt_XOwner_kind_, prt_XOwner_name_, prt_XOwner_uid_, prt_XOwner_controller_, prt_XOwner_block_, ofc_encXManager, ofc0_encXManager, st_XManager, fld_XManager_name_, fld_XManager_fields_, prt_XManager_name_, prt_XManager_fields_, ofc_encXRequirement, ofc0_encXRequirement, st_XRequirement, fld_XRequirement_key_, fld_XRequirement_op_, fld_XRequirement_values_, prt_XRequirement_key_, prt_XRequirement_op_, prt_XRequirement_values_, ofc_encXServicePort, ofc0_encXServicePort, st_XServicePort, fld_XServicePort_name_, fld_XServicePort_port_, fld_XServicePort_target_, prt_XServicePort_name_, prt_XServicePort_port_, prt_XServicePort_target_, ofc_encXService, ofc0_encXService, st_XService, fld_XService_meta_, fld_XService_selector_, fld_XService_ports_, fld_XService_sticky_, fld_XService_address_, prt_XService_meta_, prt_XService_selector_, prt_XService_ports_, prt_XService_sticky_, prt_XService_address_, ofc_encXEndpoint, ofc0_encXEndpoint, st_XEndpoint, fld_XEndpoint_pod_, fld_XEndpoint_node_, fld_XEndpoint_address_, fld_XEndpoint_ready_, fld_XEndpoint_terminating_, prt_XEndpoint_pod_, prt_XEndpoint_node_, prt_XEndpoint_address_, prt_XEndpoint_ready_, prt_XEndpoint_terminating_, ofc_encXEndpointSet, ofc0_encXEndpointSet, st_XEndpointSet, fld_XEndpointSet_meta_, fld_XEndpointSet_ports_, fld_XEndpointSet_items_, prt_XEndpointSet_meta_, prt_XEndpointSet_ports_, prt_XEndpointSet_items_, len_34, ia_34, join5_eq, hr, lit_34]
        rw [app_one elE (l := readyL (l.take j)) (x := x) (h3.same (fun i hi hlt => by simp (disch := omega) only [get_put_ne]) (by omega)) (get_put_same _ _ _) (small48 (by omega)), oM_some]
        try simp (disch := first | omega | assumption | exact scell | exact clen_XLabel | exact clen_XOwner | exact clen_XManager | exact clen_XMeta | exact clen_XRequirement | exact clen_XServicePort | exact clen_XService | exact clen_XEndpoint | exact clen_XEndpointSet | (simp only [clen_XLabel, clen_XOwner, clen_XManager, clen_XMeta, clen_XRequirement, clen_XServicePort, clen_XService, clen_XEndpoint, clen_XEndpointSet]; omega)) only [oV_some', bin_add, wr64]
        have e2 : (readyL (l.take j)).length + 1 = (readyL (l.take (j + 1))).length := by rw [g2, List.length_append, List.length_singleton]
        rw [e2, ← g1]
        refine hR (j + 1, o4, some (σ.n + 1 + 1)) _ ⟨by dsimp only; omega, ?_, by dsimp only; rw [g2]; exact ⟨by simp, by omega, get_put_same _ _ _⟩, fun i hi e => ?_⟩ (by dsimp only; omega)
        · dsimp only; rw [g1]
          refine h4.same (fun i hi hlt => ?_) (by omega)
          rw [get_put_ne _ _ (by omega), kill_get (hd i hi)]
          simp (disch := omega) only [get_put_ne]
        · dsimp only at hi e
          cases o4 with
          | none => cases hi
          | some i4 =>
            have := h4.2.1
            injection hi with hi; injection e with e; omega
    · rw [ht] at g1 g2
      simp only [Bool.not_true, Bool.false_and, Bool.false_eq_true, if_false, List.append_nil, if_true] at g1 g2
      simp (disch := first | omega | assumption | exact scell | exact clen_XLabel | exact clen_XOwner | exact clen_XManager | exact clen_XMeta | exact clen_XRequirement | exact clen_XServicePort | exact clen_XService | exact clen_XEndpoint | exact clen_XEndpointSet | (simp only [clen_XLabel, clen_XOwner, clen_XManager, clen_XMeta, clen_XRequirement, clen_XServicePort, clen_XService, clen_XEndpoint, clen_XEndpointSet]; omega)) only [Nat.zero_add, oV_some', oN_eq, oM_some, oH_some, oD_some, oE_some, oS_eq, oT_true, oI_true, oI_false, pick_t, pick_f, un_not, oI_not, decide_not, toNat_sub1, toNat_add1, decide_true, decide_false, not_true, not_false_eq_true, Bool.not_true, Bool.not_false, Bool.not_not, oZ_b, oZ_i, oZ_s, oZ_l, slen_map, wr64, Int.toNat_natCast, Int.toNat_zero, ne_eq, bin_lt, bin_slt, bin_gt, b_sgt, bin_add, load_get, loadB_some, get_put_same, get_put_ne, ofc_s, load_i, off_i, off_p, ofc_encXOwner, ofc0_encXOwner, st_XOwner, fld_XOwner_kind_, fld_XOwner_name_, fld_XOwner_uid_, fld_XOwner_controller_, fld_XOwner_block_, prt_XOwner_kind_, prt_XOwner_name_, prt_XOwner_uid_, prt_XOwner_controller_, prt_XOwner_block_, ofc_encXManager, ofc0_encXManager, st_XManager, fld_XManager_name_, fld_XManager_fields_, prt_XManager_name_, prt_XManager_fields_, ofc_encXRequirement, ofc0_encXRequirement, st_XRequirement, fld_XRequirement_key_, fld_XRequirement_op_, fld_XRequirement_values_, prt_XRequirement_key_, prt_XRequirement_op_, prt_XRequirement_values_, ofc_encXServicePort, ofc0_encXServicePort, st_XServicePort, fld_XServicePort_name_, fld_XServicePort_port_, fld_XServicePort_target_, prt_XServicePort_name_, prt_XServicePort_port_, prt_XServicePort_target_, ofc_encXService, ofc0_encXService, st_XService, fld_XService_meta_, fld_XService_selector_, fld_XService_ports_, fld_XService_sticky_, fld_XService_address_, prt_XService_meta_, prt_XService_selector_, prt_XService_ports_, prt_XService_sticky_, prt_XService_address_, ofc_encXEndpoint, ofc0_encXEndpoint, st_XEndpoint, fld_XEndpoint_pod_, fld_XEndpoint_node_, fld_XEndpoint_address_, fld_XEndpoint_ready_, fld_XEndpoint_terminating_, prt_XEndpoint_pod_, prt_XEndpoint_node_, prt_XEndpoint_address_, prt_XEndpoint_ready_, prt_XEndpoint_terminating_, ofc_encXEndpointSet, ofc0_encXEndpointSet, st_XEndpointSet, fld_XEndpointSet_meta_, fld_XEndpointSet_ports_, fld_XEndpointSet_items_, prt_XEndpointSet_meta_, prt_XEndpointSet_ports_, prt_XEndpointSet_items_, len_34, ia_34, join5_eq, ht, lit_34]
      rw [app_one elE (l := goingL (l.take j)) (x := x) (h4.same (fun i hi hlt => by simp (disch := omega) only [get_put_ne]) (by omega)) (get_put_same _ _ _) (small48 (by omega)), oM_some]
      try simp (disch := first | omega | assumption | exact scell | exact clen_XLabel | exact clen_XOwner | exact clen_XManager | exact clen_XMeta | exact clen_XRequirement | exact clen_XServicePort | exact clen_XService | exact clen_XEndpoint | exact clen_XEndpointSet | (simp only [clen_XLabel, clen_XOwner, clen_XManager, clen_XMeta, clen_XRequirement, clen_XServicePort, clen_XService, clen_XEndpoint, clen_XEndpointSet]; omega)) only [oV_some', bin_add, wr64]
      have e2 : (goingL (l.take j)).length + 1 = (goingL (l.take (j + 1))).length := by rw [g1, List.length_append, List.length_singleton]
      rw [e2, ← g2]
      refine hR (j + 1, some (σ.n + 1 + 1), o3) _ ⟨by dsimp only; omega, by dsimp only; rw [g1]; exact ⟨by simp, by omega, get_put_same _ _ _⟩, ?_, fun i hi e => ?_⟩ (by dsimp only; omega)
      · dsimp only; rw [g2]
        refine h3.same (fun i hi hlt => ?_) (by omega)
        rw [get_put_ne _ _ (by omega), kill_get (fun e => hd i e hi)]
        simp (disch := omega) only [get_put_ne]
      · dsimp only at hi e
        cases o3 with
        | none => cases e
        | some i3 =>
          have := h3.2.1
          injection hi with hi; injection e with e; omega
  · have hall : l.take j = l := List.take_of_length_le (by omega)
    rw [hall] at h3 h4 ⊢
    rw [len_own elE h3, oV_some', bin_gt, oV_some']
    refine oI_decd (fun h => ?_) (fun h => ?_)
    · refine oZ_own elE h3 ?_
      unfold cand; rw [if_pos (by omega)]
    · refine oZ_own elE h4 ?_
      unfold cand; rw [if_neg (by omega)]
theorem e22 {s : XEndpointSet} (hs : s.items_.length ≤ 1000) {d : Nat} {σ : AS} {K : AV → AS → Prop} : oC T0 d 22 [encXEndpointSet s] σ K = K (.lst ((cand s.items_).map encXEndpoint)) σ := (c22 s hs).eq d σ K
end Go.Proofs.YtbcikhbepldjhaaDoor.Ev
