/- The reference's candidates; what is too heavy; the port that is asked for. -/
import Derived.Test.YtbcikhbepldjhaaDoorV2
namespace Go.Proofs.YtbcikhbepldjhaaDoor.Ev
open Go Go.RowKit
set_option linter.unusedSimpArgs false
set_option linter.unusedVariables false
set_option maxRecDepth 100000

theorem mapO_fz {T : Tab} {h : Tr AB} {m k : Nat} (hk : m ≤ k) : ∀ {l r : List AV}, mapO (fz T h m) l = some r → mapO (fz T h k) l = some r
  | [], r, e => e
  | a :: l, r, e => by
    unfold mapO at e ⊢
    split at e
    · rename_i d ds h1 h2
      rw [fz_mono m k _ _ hk h1, mapO_fz hk h2]; exact e
    · cases e
theorem R.lent {T : Tab} {f : Nat} {args args' : List AV} {r : AV} {σ : AS} (h1 : T.prim f = none) (h2 : T.ext f = none) (h5 : T.opened f = false) (hi : AV.idfree.idfrees args = false) (hi' : AV.idfree.idfrees args' = true) (hn : AV.norm.norms args' = args') (hfl : r.flat = true) {m : Nat}
    (hz : mapO (fz T σ.h m) args = some args') (h : R T f args' r) : Runs T f args σ r σ := by
  obtain ⟨k, hk⟩ := h
  have e := evCall_mono k (max k m + 1) (by omega) _ _ _ _ (hk σ)
  refine ⟨max k m + 1, ?_⟩
  unfold evCall at e ⊢
  have hz' := mapO_fz (k := max k m + 1) (by omega) hz
  simp only [extR, h1, h2, h5, hi, hi', hn, hz'] at e ⊢
  split at e
  · rename_i fn hfn
    split at e
    · rename_i c hc
      split at e
      · rename_i r1 σ1 hb
        split at e
        · rename_i r2 hr
          injection e with e
          simp only [Prod.mk.injEq] at e
          obtain ⟨rfl, _⟩ := e
          simp only [hb, hr, hfl]
        · cases e
      · cases e
    · cases e
  · cases e
theorem pick_orn (c y : Bool) : evPick (.b !c) (some (.b true)) (some (cnd c (.b y))) = some (.b (!c || y)) := by cases c <;> rfl
theorem pick_andn (c y : Bool) : evPick (.b !c) (some (cnd (!c) (.b y))) (some (.b false)) = some (.b (!c && y)) := by cases c <;> rfl
theorem c24 (s : XEndpointSet) (hs : s.items_.length ≤ 1000) : R T0 24 [encXEndpointSet s] (.lst ((cand s.items_).map encXEndpoint)) := by
  refine r24 _ rfl rfl ?_
  unfold w24
  dsimp only [prims]
  rw [oN_eq]
  obtain ⟨l, hl⟩ : ∃ l, l = s.items_ := ⟨_, rfl⟩
  rw [← hl] at hs ⊢
  refine loop4 (X := Nat × Option Nat × Option Nat) (fun x => vOf x.2.1 (goingL (l.take x.1)).length) (fun x => vOf x.2.2 (readyL (l.take x.1)).length) (fun _ => .ptr 0 0) (fun x => .i .i64 (x.1 : Nat))
    (fun x σ => x.1 ≤ l.length ∧ 1 ≤ σ.n ∧ σ.h.get 0 = some (.cells (encXEndpointSet s).cells 36 false) ∧ Own encXEndpoint 54 σ.h σ.n (goingL (l.take x.1)) x.2.1 ∧ Own encXEndpoint 54 σ.h σ.n (readyL (l.take x.1)) x.2.2 ∧ (∀ i, x.2.1 = some i → x.2.2 ≠ some i) ∧ (∀ i, x.2.1 = some i → i ≠ 0) ∧ (∀ i, x.2.2 = some i → i ≠ 0)) (fun x => l.length - x.1) ?_ (0, none, none) _
    ⟨Nat.zero_le _, Nat.le_refl _, get_put_same _ _ _, rfl, rfl, fun i h => (by cases h), fun i h => (by cases h), fun i h => (by cases h)⟩
  rintro R ⟨j, o4, o3⟩ σ ⟨hj, hn1, hb0, h4, h3, hd, hz4, hz3⟩ hR
  dsimp only at hj hb0 h4 h3 hd hz4 hz3 hn1 ⊢
  have fi : ofCells T0 34 ((encXEndpointSet s).cells.drop 14) = some (.lst (l.map encXEndpoint)) := by rw [hl]; exact fld_XEndpointSet_items_ s
  simp (disch := first | omega | assumption | exact scell | exact clen_XLabel | exact clen_XOwner | exact clen_XManager | exact clen_XMeta | exact clen_XRequirement | exact clen_XServicePort | exact clen_XService | exact clen_XEndpoint | exact clen_XEndpointSet | (simp only [clen_XLabel, clen_XOwner, clen_XManager, clen_XMeta, clen_XRequirement, clen_XServicePort, clen_XService, clen_XEndpoint, clen_XEndpointSet]; omega)) only [oV_some', off_p, Nat.zero_add, load_get, hb0, loadB_some, fi, len_34, slen_map, bin_lt]
  refine oI_decd (fun h => ?_) (fun h => ?_)
  · have hj' : j < l.length := by omega
    have g1 := filter_take (fun x : XEndpoint => x.terminating_) l j default hj'
    have g2 := filter_take (fun x : XEndpoint => !x.terminating_ && x.ready_) l j default hj'
    have b1 := filter_le (fun x : XEndpoint => x.terminating_) l j
    have b2 := filter_le (fun x : XEndpoint => !x.terminating_ && x.ready_) l j
    change goingL (l.take (j + 1)) = goingL (l.take j) ++ _ at g1
    change readyL (l.take (j + 1)) = readyL (l.take j) ++ _ at g2
    change (goingL (l.take j)).length ≤ _ at b1
    change (readyL (l.take j)).length ≤ _ at b2
    simp (disch := first | omega | assumption | exact scell | exact clen_XLabel | exact clen_XOwner | exact clen_XManager | exact clen_XMeta | exact clen_XRequirement | exact clen_XServicePort | exact clen_XService | exact clen_XEndpoint | exact clen_XEndpointSet | (simp only [clen_XLabel, clen_XOwner, clen_XManager, clen_XMeta, clen_XRequirement, clen_XServicePort, clen_XService, clen_XEndpoint, clen_XEndpointSet]; omega)) only [Nat.zero_add, oV_some', oN_eq, oM_some, oH_some, oD_some, oE_some, oS_eq, oT_true, oI_true, oI_false, pick_t, pick_f, un_not, oI_not, decide_not, toNat_sub1, toNat_add1, decide_true, decide_false, not_true, not_false_eq_true, Bool.not_true, Bool.not_false, Bool.not_not, oZ_b, oZ_i, oZ_s, oZ_l, slen_map, wr64, Int.toNat_natCast, Int.toNat_zero, ne_eq, bin_lt, bin_slt, bin_gt, b_sgt, bin_add, load_get, loadB_some, get_put_same, get_put_ne, ofc_s, load_i, off_i, off_p, ofc_encXLabel, ofc0_encXLabel, st_XLabel, fld_XLabel_key_, fld_XLabel_value_, prt_XLabel_key_, prt_XLabel_value_, ofc_encXOwner, ofc0_encXOwner, st_XOwner, fld_XOwner_kind_, fld_XOwner_name_, fld_XOwner_uid_, fld_XOwner_controller_, fld_XOwner_block_, prt_XOwner_kind_, prt_XOwner_name_, prt_XOwner_uid_, prt_XOwner_controller_, prt_XOwner_block_, ofc_encXManager, ofc0_encXManager, st_XManager, fld_XManager_name_, fld_XManager_fields_, prt_XManager_name_, prt_XManager_fields_, ofc_encXRequirement, ofc0_encXRequirement, st_XRequirement, fld_XRequirement_key_, fld_XRequirement_op_, fld_XRequirement_values_, prt_XRequirement_key_, prt_XRequirement_op_, prt_XRequirement_values_, ofc_encXServicePort, ofc0_encXServicePort, st_XServicePort, fld_XServicePort_name_, fld_XServicePort_port_, fld_XServicePort_target_, prt_XServicePort_name_, prt_XServicePort_port_, prt_XServicePort_target_, ofc_encXEndpoint, ofc0_encXEndpoint, st_XEndpoint, fld_XEndpoint_pod_, fld_XEndpoint_node_, fld_XEndpoint_address_, fld_XEndpoint_ready_, fld_XEndpoint_terminating_, prt_XEndpoint_pod_, prt_XEndpoint_node_, prt_XEndpoint_address_, prt_XEndpoint_ready_, prt_XEndpoint_terminating_, ofc_encXEndpointSet, ofc0_encXEndpointSet, st_XEndpointSet, fld_XEndpointSet_meta_, fld_XEndpointSet_ports_, fld_XEndpointSet_items_, prt_XEndpointSet_meta_, prt_XEndpointSet_ports_, prt_XEndpointSet_items_, len_34, ia_34, join4_eq, Int.toNat_natCast, hb0, fi]
    generalize hx : l.getD j default = x at g1 g2
    cases ht : x.terminating_
    · rw [ht] at g1 g2
      simp only [Bool.not_false, Bool.true_and, Bool.false_eq_true, if_false, List.append_nil] at g1 g2
      simp (disch := first | omega | assumption | exact scell | exact clen_XLabel | exact clen_XOwner | exact clen_XManager | exact clen_XMeta | exact clen_XRequirement | exact clen_XServicePort | exact clen_XService | exact clen_XEndpoint | exact clen_XEndpointSet | (simp only [clen_XLabel, clen_XOwner, clen_XManager, clen_XMeta, clen_XRequirement, clen_XServicePort, clen_XService, clen_XEndpoint, clen_XEndpointSet]; omega)) only [Nat.zero_add, oV_some', oN_eq, oM_some, oH_some, oD_some, oE_some, oS_eq, oT_true, oI_true, oI_false, pick_t, pick_f, un_not, oI_not, decide_not, toNat_sub1, toNat_add1, decide_true, decide_false, not_true, not_false_eq_true, Bool.not_true, Bool.not_false, Bool.not_not, oZ_b, oZ_i, oZ_s, oZ_l, slen_map, wr64, Int.toNat_natCast, Int.toNat_zero, ne_eq, bin_lt, bin_slt, bin_gt, b_sgt, bin_add, load_get, loadB_some, get_put_same, get_put_ne, ofc_s, load_i, off_i, off_p, ofc_encXLabel, ofc0_encXLabel, st_XLabel, fld_XLabel_key_, fld_XLabel_value_, prt_XLabel_key_, prt_XLabel_value_, ofc_encXOwner, ofc0_encXOwner, st_XOwner, fld_XOwner_kind_, fld_XOwner_name_, fld_XOwner_uid_, fld_XOwner_controller_, fld_XOwner_block_, prt_XOwner_kind_, prt_XOwner_name_, prt_XOwner_uid_, prt_XOwner_controller_, prt_XOwner_block_, ofc_encXManager, ofc0_encXManager, st_XManager, fld_XManager_name_, fld_XManager_fields_, prt_XManager_name_, prt_XManager_fields_, ofc_encXRequirement, ofc0_encXRequirement, st_XRequirement, fld_XRequirement_key_, fld_XRequirement_op_, fld_XRequirement_values_, prt_XRequirement_key_, prt_XRequirement_op_, prt_XRequirement_values_, ofc_encXServicePort, ofc0_encXServicePort, st_XServicePort, fld_XServicePort_name_, fld_XServicePort_port_, fld_XServicePort_target_, prt_XServicePort_name_, prt_XServicePort_port_, prt_XServicePort_target_, ofc_encXEndpoint, ofc0_encXEndpoint, st_XEndpoint, fld_XEndpoint_pod_, fld_XEndpoint_node_, fld_XEndpoint_address_, fld_XEndpoint_ready_, fld_XEndpoint_terminating_, prt_XEndpoint_pod_, prt_XEndpoint_node_, prt_XEndpoint_address_, prt_XEndpoint_ready_, prt_XEndpoint_terminating_, ofc_encXEndpointSet, ofc0_encXEndpointSet, st_XEndpointSet, fld_XEndpointSet_meta_, fld_XEndpointSet_ports_, fld_XEndpointSet_items_, prt_XEndpointSet_meta_, prt_XEndpointSet_ports_, prt_XEndpointSet_items_, len_34, ia_34, join4_eq, ht]
      cases hr : x.ready_
      · rw [hr] at g2
        simp only [Bool.false_eq_true, if_false, List.append_nil] at g2
        simp (disch := first | omega | assumption | exact scell | exact clen_XLabel | exact clen_XOwner | exact clen_XManager | exact clen_XMeta | exact clen_XRequirement | exact clen_XServicePort | exact clen_XService | exact clen_XEndpoint | exact clen_XEndpointSet | (simp only [clen_XLabel, clen_XOwner, clen_XManager, clen_XMeta, clen_XRequirement, clen_XServicePort, clen_XService, clen_XEndpoint, clen_XEndpointSet]; omega)) only [Nat.zero_add, oV_some', oN_eq, oM_some, oH_some, oD_some, oE_some, oS_eq, oT_true, oI_true, oI_false, pick_t, pick_f, un_not, oI_not, decide_not, toNat_sub1, toNat_add1, decide_true, decide_false, not_true, not_false_eq_true, Bool.not_true, Bool.not_false, Bool.not_not, oZ_b, oZ_i, oZ_s, oZ_l, slen_map, wr64, Int.toNat_natCast, Int.toNat_zero, ne_eq, bin_lt, bin_slt, bin_gt, b_sgt, bin_add, load_get, loadB_some, get_put_same, get_put_ne, ofc_s, load_i, off_i, off_p, ofc_encXLabel, ofc0_encXLabel, st_XLabel, fld_XLabel_key_, fld_XLabel_value_, prt_XLabel_key_, prt_XLabel_value_, ofc_encXOwner, ofc0_encXOwner, st_XOwner, fld_XOwner_kind_, fld_XOwner_name_, fld_XOwner_uid_, fld_XOwner_controller_, fld_XOwner_block_, prt_XOwner_kind_, prt_XOwner_name_, prt_XOwner_uid_, prt_XOwner_controller_, prt_XOwner_block_, ofc_encXManager, ofc0_encXManager, st_XManager, fld_XManager_name_, fld_XManager_fields_, prt_XManager_name_, prt_XManager_fields_, ofc_encXRequirement, ofc0_encXRequirement, st_XRequirement, fld_XRequirement_key_, fld_XRequirement_op_, fld_XRequirement_values_, prt_XRequirement_key_, prt_XRequirement_op_, prt_XRequirement_values_, ofc_encXServicePort, ofc0_encXServicePort, st_XServicePort, fld_XServicePort_name_, fld_XServicePort_port_, fld_XServicePort_target_, prt_XServicePort_name_, prt_XServicePort_port_, prt_XServicePort_target_, ofc_encXEndpoint, ofc0_encXEndpoint, st_XEndpoint, fld_XEndpoint_pod_, fld_XEndpoint_node_, fld_XEndpoint_address_, fld_XEndpoint_ready_, fld_XEndpoint_terminating_, prt_XEndpoint_pod_, prt_XEndpoint_node_, prt_XEndpoint_address_, prt_XEndpoint_ready_, prt_XEndpoint_terminating_, ofc_encXEndpointSet, ofc0_encXEndpointSet, st_XEndpointSet, fld_XEndpointSet_meta_, fld_XEndpointSet_ports_, fld_XEndpointSet_items_, prt_XEndpointSet_meta_, prt_XEndpointSet_ports_, prt_XEndpointSet_items_, len_34, ia_34, join4_eq, hr]
        rw [← g1, ← g2]
        refine hR (j + 1, o4, o3) _ ⟨by dsimp only; omega, hn1, hb0, ?_, ?_, hd, hz4, hz3⟩ (by dsimp only; omega)
        · dsimp only; rw [g1]; exact h4
        · dsimp only; rw [g2]; exact h3
      · rw [hr] at g2
        simp only [if_true] at g2
        simp (disch := first | omega | assumption | exact scell | exact clen_XLabel | exact clen_XOwner | exact clen_XManager | exact clen_XMeta | exact clen_XRequirement | exact clen_XServicePort | exact clen_XService | exact clen_XEndpoint | exact clen_XEndpointSet | (simp only [clen_XLabel, clen_XOwner, clen_XManager, clen_XMeta, clen_XRequirement, clen_XServicePort, clen_XService, clen_XEndpoint, clen_XEndpointSet]; omega)) only [Nat.zero_add, oV_some', oN_eq, oM_some, oH_some, oD_some, oE_some, oS_eq, oT_true, oI_true, oI_false, pick_t, pick_f, un_not, oI_not, decide_not, toNat_sub1, toNat_add1, decide_true, decide_false, not_true, not_false_eq_true, Bool.not_true, Bool.not_false, Bool.not_not, oZ_b, oZ_i, oZ_s, oZ_l, slen_map, wr64, Int.toNat_natCast, Int.toNat_zero, ne_eq, bin_lt, bin_slt, bin_gt, b_sgt, bin_add, load_get, loadB_some, get_put_same, get_put_ne, ofc_s, load_i, off_i, off_p, ofc_encXLabel, ofc0_encXLabel, st_XLabel, fld_XLabel_key_, fld_XLabel_value_, prt_XLabel_key_, prt_XLabel_value_, ofc_encXOwner, ofc0_encXOwner, st_XOwner, fld_XOwner_kind_, fld_XOwner_name_, fld_XOwner_uid_, fld_XOwner_controller_, fld_XOwner_block_, prt_XOwner_kind_, prt_XOwner_name_, prt_XOwner_uid_, prt_XOwner_controller_, prt_XOwner_block_, ofc_encXManager, ofc0_encXManager, st_XManager, fld_XManager_name_, fld_XManager_fields_, prt_XManager_name_, prt_XManager_fields_, ofc_encXRequirement, ofc0_encXRequirement, st_XRequirement, fld_XRequirement_key_, fld_XRequirement_op_, fld_XRequirement_values_, prt_XRequirement_key_, prt_XRequirement_op_, prt_XRequirement_values_, ofc_encXServicePort, ofc0_encXServicePort, st_XServicePort, fld_XServicePort_name_, fld_XServicePort_port_, fld_XServicePort_target_, prt_XServicePort_name_, prt_XServicePort_port_, prt_XServicePort_target_, ofc_encXEndpoint, ofc0_encXEndpoint, st_XEndpoint, fld_XEndpoint_pod_, fld_XEndpoint_node_, fld_XEndpoint_address_, fld_XEndpoint_ready_, fld_XEndpoint_terminating_, prt_XEndpoint_pod_, prt_XEndpoint_node_, prt_XEndpoint_address_, prt_XEndpoint_ready_, prt_XEndpoint_terminating_, ofc_encXEndpointSet, ofc0_encXEndpointSet, st_XEndpointSet, fld_XEndpointSet_meta_, fld_XEndpointSet_ports_, fld_XEndpointSet_items_, prt_XEndpointSet_meta_, prt_XEndpointSet_ports_, prt_XEndpointSet_items_, len_34, ia_34, join4_eq, hr, lit_34]
        rw [app_one elE (l := readyL (l.take j)) (x := x) (h3.same (fun i hi hlt => by simp (disch := omega) only [get_put_ne]) (by omega)) (get_put_same _ _ _) (small48 (by omega)), oM_some]
        try simp (disch := first | omega | assumption | exact scell | exact clen_XLabel | exact clen_XOwner | exact clen_XManager | exact clen_XMeta | exact clen_XRequirement | exact clen_XServicePort | exact clen_XService | exact clen_XEndpoint | exact clen_XEndpointSet | (simp only [clen_XLabel, clen_XOwner, clen_XManager, clen_XMeta, clen_XRequirement, clen_XServicePort, clen_XService, clen_XEndpoint, clen_XEndpointSet]; omega)) only [oV_some', bin_add, wr64]
        have e2 : (readyL (l.take j)).length + 1 = (readyL (l.take (j + 1))).length := by rw [g2, List.length_append, List.length_singleton]
        rw [e2, ← g1]
        refine hR (j + 1, o4, some (σ.n + 1)) _ ⟨by dsimp only; omega, by dsimp only; omega, ?_, ?_, by dsimp only; rw [g2]; exact ⟨by simp, by omega, get_put_same _ _ _⟩, fun i hi e => ?_, hz4, fun i hi => by (dsimp only at hi; injection hi with hi; omega)⟩ (by dsimp only; omega)
        · dsimp only
          rw [get_put_ne _ _ (by omega), kill_get (fun e => hz3 0 e rfl), get_put_ne _ _ (by omega)]; exact hb0
        · dsimp only; rw [g1]
          refine h4.same (fun i hi hlt => ?_) (by omega)
          rw [get_put_ne _ _ (by omega), kill_get (hd i hi)]
          simp (disch := omega) only [get_put_ne]
        · dsimp only at hi e
          cases o4 with
          | none => cases hi
          | some i4 =>
            have := h4.2.1
            injection hi with hi; injection e with e; omega
    · rw [ht] at g1 g2
      simp only [Bool.not_true, Bool.false_and, Bool.false_eq_true, if_false, List.append_nil, if_true] at g1 g2
      simp (disch := first | omega | assumption | exact scell | exact clen_XLabel | exact clen_XOwner | exact clen_XManager | exact clen_XMeta | exact clen_XRequirement | exact clen_XServicePort | exact clen_XService | exact clen_XEndpoint | exact clen_XEndpointSet | (simp only [clen_XLabel, clen_XOwner, clen_XManager, clen_XMeta, clen_XRequirement, clen_XServicePort, clen_XService, clen_XEndpoint, clen_XEndpointSet]; omega)) only [Nat.zero_add, oV_some', oN_eq, oM_some, oH_some, oD_some, oE_some, oS_eq, oT_true, oI_true, oI_false, pick_t, pick_f, un_not, oI_not, decide_not, toNat_sub1, toNat_add1, decide_true, decide_false, not_true, not_false_eq_true, Bool.not_true, Bool.not_false, Bool.not_not, oZ_b, oZ_i, oZ_s, oZ_l, slen_map, wr64, Int.toNat_natCast, Int.toNat_zero, ne_eq, bin_lt, bin_slt, bin_gt, b_sgt, bin_add, load_get, loadB_some, get_put_same, get_put_ne, ofc_s, load_i, off_i, off_p, ofc_encXLabel, ofc0_encXLabel, st_XLabel, fld_XLabel_key_, fld_XLabel_value_, prt_XLabel_key_, prt_XLabel_value_, ofc_encXOwner, ofc0_encXOwner, st_XOwner, fld_XOwner_kind_, fld_XOwner_name_, fld_XOwner_uid_, fld_XOwner_controller_, fld_XOwner_block_, prt_XOwner_kind_, prt_XOwner_name_, prt_XOwner_uid_, prt_XOwner_controller_, prt_XOwner_block_, ofc_encXManager, ofc0_encXManager, st_XManager, fld_XManager_name_, fld_XManager_fields_, prt_XManager_name_, prt_XManager_fields_, ofc_encXRequirement, ofc0_encXRequirement, st_XRequirement, fld_XRequirement_key_, fld_XRequirement_op_, fld_XRequirement_values_, prt_XRequirement_key_, prt_XRequirement_op_, prt_XRequirement_values_, ofc_encXServicePort, ofc0_encXServicePort, st_XServicePort, fld_XServicePort_name_, fld_XServicePort_port_, fld_XServicePort_target_, prt_XServicePort_name_, prt_XServicePort_port_, prt_XServicePort_target_, ofc_encXEndpoint, ofc0_encXEndpoint, st_XEndpoint, fld_XEndpoint_pod_, fld_XEndpoint_node_, fld_XEndpoint_address_, fld_XEndpoint_ready_, fld_XEndpoint_terminating_, prt_XEndpoint_pod_, prt_XEndpoint_node_, prt_XEndpoint_address_, prt_XEndpoint_ready_, prt_XEndpoint_terminating_, ofc_encXEndpointSet, ofc0_encXEndpointSet, st_XEndpointSet, fld_XEndpointSet_meta_, fld_XEndpointSet_ports_, fld_XEndpointSet_items_, prt_XEndpointSet_meta_, prt_XEndpointSet_ports_, prt_XEndpointSet_items_, len_34, ia_34, join4_eq, ht, lit_34]
      rw [app_one elE (l := goingL (l.take j)) (x := x) (h4.same (fun i hi hlt => by simp (disch := omega) only [get_put_ne]) (by omega)) (get_put_same _ _ _) (small48 (by omega)), oM_some]
      try simp (disch := first | omega | assumption | exact scell | exact clen_XLabel | exact clen_XOwner | exact clen_XManager | exact clen_XMeta | exact clen_XRequirement | exact clen_XServicePort | exact clen_XService | exact clen_XEndpoint | exact clen_XEndpointSet | (simp only [clen_XLabel, clen_XOwner, clen_XManager, clen_XMeta, clen_XRequirement, clen_XServicePort, clen_XService, clen_XEndpoint, clen_XEndpointSet]; omega)) only [oV_some', bin_add, wr64]
      have e2 : (goingL (l.take j)).length + 1 = (goingL (l.take (j + 1))).length := by rw [g1, List.length_append, List.length_singleton]
      rw [e2, ← g2]
      refine hR (j + 1, some (σ.n + 1), o3) _ ⟨by dsimp only; omega, by dsimp only; omega, ?_, by dsimp only; rw [g1]; exact ⟨by simp, by omega, get_put_same _ _ _⟩, ?_, fun i hi e => ?_, fun i hi => by (dsimp only at hi; injection hi with hi; omega), hz3⟩ (by dsimp only; omega)
      · dsimp only
        rw [get_put_ne _ _ (by omega), kill_get (fun e => hz4 0 e rfl), get_put_ne _ _ (by omega)]; exact hb0
      · dsimp only; rw [g2]
        refine h3.same (fun i hi hlt => ?_) (by omega)
        rw [get_put_ne _ _ (by omega), kill_get (fun e => hd i e hi)]
        simp (disch := omega) only [get_put_ne]
      · dsimp only at hi e
        cases o3 with
        | none => cases e
        | some i3 =>
          have := h3.2.1
          injection hi with hi; injection e with e; omega
  · have hall : l.take j = l := List.take_of_length_le (by omega)
    rw [hall] at h3 h4 ⊢
    rw [len_own elE h3, oV_some', bin_gt, oV_some']
    refine oI_decd (fun h => ?_) (fun h => ?_)
    · refine oZ_own elE h3 ?_
      unfold cand; rw [if_pos (by omega)]
    · refine oZ_own elE h4 ?_
      unfold cand; rw [if_neg (by omega)]
theorem e24 {s : XEndpointSet} (hs : s.items_.length ≤ 1000) {d : Nat} {σ : AS} {K : AV → AS → Prop} : oC T0 d 24 [encXEndpointSet s] σ K = K (.lst ((cand s.items_).map encXEndpoint)) σ := (c24 s hs).eq d σ K
/-- What is too heavy. -/
def podOK (x : XEndpoint) : Bool := decide (x.pod_.length ≤ 200)
def heavyB (l : List XService) (s : XService) (e : XEndpointSet) : Bool := !(e.items_.all podOK) || (decide ((60 : Int) < l.length) || decide ((30 : Int) < s.ports_.length) || decide ((30 : Int) < e.items_.length))
theorem all_take_succ {α : Type} {p : α → Bool} {l : List α} {d : α} {j : Nat} (h : (l.take j).all p = true) (hj : j < l.length) (hp : p (l.getD j d) = true) : (l.take (j + 1)).all p = true := by
  rw [List.take_add_one, List.all_append, h]
  rw [List.getD_eq_getElem?_getD, List.getElem?_eq_getElem hj] at hp
  rw [List.getElem?_eq_getElem hj]
  simpa using hp
theorem all_false_at {α : Type} {p : α → Bool} {l : List α} {d : α} {j : Nat} (hj : j < l.length) (hp : p (l.getD j d) = false) : l.all p = false := by
  rw [List.getD_eq_getElem?_getD, List.getElem?_eq_getElem hj] at hp
  rw [List.all_eq_false]
  exact ⟨l[j], List.getElem_mem hj, by simpa using hp⟩
theorem c8 (l : List XService) (s : XService) (e : XEndpointSet) (hl : l.length ≤ 140737488351232) (hs : s.ports_.length ≤ 140737488351232) (he : e.items_.length ≤ 140737488351232) : R T0 8 [.lst (l.map encXService), encXService s, encXEndpointSet e] (.b (heavyB l s e)) := by
  refine r8 _ _ _ rfl rfl ?_
  unfold w8
  dsimp only [prims]
  rw [oN_eq, oN_eq]
  refine loop4 (X := Nat) (fun _ => .ptr 1 0) (fun _ => .ptr 0 0) (fun _ => .lst (l.map encXService)) (fun j => .i .i64 (j : Nat)) (fun j σ => j ≤ e.items_.length ∧ σ.h.get 0 = some (.cells (encXService s).cells 33 false) ∧ σ.h.get 1 = some (.cells (encXEndpointSet e).cells 36 false) ∧ (e.items_.take j).all podOK = true) (fun j => e.items_.length - j) ?_ 0 _
    ⟨Nat.zero_le _, by simp (disch := omega) only [get_put_ne, get_put_same], by simp only [get_put_same], rfl⟩
  rintro R j σ ⟨hj, h0, h1, ha⟩ hR
  simp (disch := first | omega | assumption | exact scell | exact clen_XLabel | exact clen_XOwner | exact clen_XManager | exact clen_XMeta | exact clen_XRequirement | exact clen_XServicePort | exact clen_XService | exact clen_XEndpoint | exact clen_XEndpointSet | (simp only [clen_XLabel, clen_XOwner, clen_XManager, clen_XMeta, clen_XRequirement, clen_XServicePort, clen_XService, clen_XEndpoint, clen_XEndpointSet]; omega)) only [oV_some', off_p, Nat.zero_add, load_get, h1, loadB_some, fld_XEndpointSet_items_, len_34, slen_map, bin_lt]
  refine oI_decd (fun h => ?_) (fun h => ?_)
  · simp (disch := first | omega | assumption | exact scell | exact clen_XLabel | exact clen_XOwner | exact clen_XManager | exact clen_XMeta | exact clen_XRequirement | exact clen_XServicePort | exact clen_XService | exact clen_XEndpoint | exact clen_XEndpointSet | (simp only [clen_XLabel, clen_XOwner, clen_XManager, clen_XMeta, clen_XRequirement, clen_XServicePort, clen_XService, clen_XEndpoint, clen_XEndpointSet]; omega)) only [Nat.zero_add, oV_some', oN_eq, oM_some, oH_some, oD_some, oE_some, oS_eq, oT_true, oI_true, oI_false, pick_t, pick_f, un_not, oI_not, decide_not, toNat_sub1, toNat_add1, decide_true, decide_false, not_true, not_false_eq_true, Bool.not_true, Bool.not_false, Bool.not_not, oZ_b, oZ_i, oZ_s, oZ_l, slen_map, wr64, Int.toNat_natCast, Int.toNat_zero, ne_eq, bin_lt, bin_slt, bin_gt, b_sgt, bin_add, load_get, loadB_some, get_put_same, get_put_ne, ofc_s, load_i, off_i, off_p, len_9, ofc_encXLabel, ofc0_encXLabel, st_XLabel, fld_XLabel_key_, fld_XLabel_value_, prt_XLabel_key_, prt_XLabel_value_, ofc_encXOwner, ofc0_encXOwner, st_XOwner, fld_XOwner_kind_, fld_XOwner_name_, fld_XOwner_uid_, fld_XOwner_controller_, fld_XOwner_block_, prt_XOwner_kind_, prt_XOwner_name_, prt_XOwner_uid_, prt_XOwner_controller_, prt_XOwner_block_, ofc_encXManager, ofc0_encXManager, st_XManager, fld_XManager_name_, fld_XManager_fields_, prt_XManager_name_, prt_XManager_fields_, ofc_encXMeta, ofc0_encXMeta, st_XMeta, fld_XMeta_kind_, fld_XMeta_namespace_, fld_XMeta_name_, fld_XMeta_uid_, fld_XMeta_version_, fld_XMeta_generation_, fld_XMeta_created_, fld_XMeta_deleting_, fld_XMeta_deleteAt_, fld_XMeta_labels_, fld_XMeta_owners_, fld_XMeta_finalizers_, fld_XMeta_managers_, prt_XMeta_kind_, prt_XMeta_namespace_, prt_XMeta_name_, prt_XMeta_uid_, prt_XMeta_version_, prt_XMeta_generation_, prt_XMeta_created_, prt_XMeta_deleting_, prt_XMeta_deleteAt_, prt_XMeta_labels_, prt_XMeta_owners_, prt_XMeta_finalizers_, prt_XMeta_managers_, ofc_encXRequirement, ofc0_encXRequirement, st_XRequirement, fld_XRequirement_key_, fld_XRequirement_op_, fld_XRequirement_values_, prt_XRequirement_key_, prt_XRequirement_op_, prt_XRequirement_values_, ofc_encXServicePort, ofc0_encXServicePort, st_XServicePort, fld_XServicePort_name_, fld_XServicePort_port_, fld_XServicePort_target_, prt_XServicePort_name_, prt_XServicePort_port_, prt_XServicePort_target_, ofc_encXService, ofc0_encXService, st_XService, fld_XService_meta_, fld_XService_selector_, fld_XService_ports_, fld_XService_sticky_, fld_XService_address_, prt_XService_meta_, prt_XService_selector_, prt_XService_ports_, prt_XService_sticky_, prt_XService_address_, ofc_encXEndpoint, ofc0_encXEndpoint, st_XEndpoint, fld_XEndpoint_pod_, fld_XEndpoint_node_, fld_XEndpoint_address_, fld_XEndpoint_ready_, fld_XEndpoint_terminating_, prt_XEndpoint_pod_, prt_XEndpoint_node_, prt_XEndpoint_address_, prt_XEndpoint_ready_, prt_XEndpoint_terminating_, ofc_encXEndpointSet, ofc0_encXEndpointSet, st_XEndpointSet, fld_XEndpointSet_meta_, fld_XEndpointSet_ports_, fld_XEndpointSet_items_, prt_XEndpointSet_meta_, prt_XEndpointSet_ports_, prt_XEndpointSet_items_, len_22, len_31, len_34, ia_34, gtt_4, gff_4, gtf_4, gft_4, gvv_4, gnt_4, gnf_4, Int.toNat_natCast, h1]
    refine oI_decd (fun h2 => ?_) (fun h2 => ?_)
    · rw [heavyB, all_false_at (p := podOK) (d := default) (j := j) (by omega) (by simp only [podOK, decide_eq_false_iff_not]; omega)]
      rfl
    · exact hR (j + 1) σ ⟨by omega, h0, h1, all_take_succ (d := default) ha (by omega) (by simp only [podOK, decide_eq_true_eq]; omega)⟩ (by omega)
  · have hall : e.items_.all podOK = true := by rwa [List.take_of_length_le (by omega)] at ha
    simp (disch := first | omega | assumption | exact scell | exact clen_XLabel | exact clen_XOwner | exact clen_XManager | exact clen_XMeta | exact clen_XRequirement | exact clen_XServicePort | exact clen_XService | exact clen_XEndpoint | exact clen_XEndpointSet | (simp only [clen_XLabel, clen_XOwner, clen_XManager, clen_XMeta, clen_XRequirement, clen_XServicePort, clen_XService, clen_XEndpoint, clen_XEndpointSet]; omega)) only [oV_some', len_22, bin_gt, off_p, Nat.zero_add, load_get, h0, h1, loadB_some, fld_XService_ports_, fld_XEndpointSet_items_, len_31, len_34, slen_map, guard4f, pick_or, oZ_b]
    rw [heavyB, hall]
    rfl
theorem e8 {s : XService} {e : XEndpointSet} (hs : s.ports_.length ≤ 140737488351232) (he : e.items_.length ≤ 140737488351232) {d : Nat} {σ : AS} {K : AV → AS → Prop} : oC T0 d 8 [.nilz true, encXService s, encXEndpointSet e] σ K = K (.b (heavyB [] s e)) σ :=
  (R.of_norm (T := T0) (f := 8) (args := [.nilz true, encXService s, encXEndpointSet e]) (by kernel_rfl) (by kernel_rfl) (by kernel_rfl) rfl rfl rfl (c8 [] s e (by simp) hs he)).eq d σ K
theorem e8l {l : List XService} {s : XService} {e : XEndpointSet} (hl : l.length ≤ 140737488351232) (hs : s.ports_.length ≤ 140737488351232) (he : e.items_.length ≤ 140737488351232) {d : Nat} {σ : AS} {K : AV → AS → Prop} : oC T0 d 8 [.lst (l.map encXService), encXService s, encXEndpointSet e] σ K = K (.b (heavyB l s e)) σ := (c8 l s e hl hs he).eq d σ K
theorem c21 (x : XServicePort) (p : Int) : R T0 21 [encXServicePort x, .iptr [.i .i64 p]] (.b (decide (x.port_ = p))) := by
  refine r21 _ _ rfl rfl ?_
  unfold w21
  dsimp only [prims]
  have l3 : ofCells T0 3 [.i .i64 p] = some (.i .i64 p) := ofc_3 _ _
  simp (disch := first | omega | assumption | exact scell | exact clen_XLabel | exact clen_XOwner | exact clen_XManager | exact clen_XMeta | exact clen_XRequirement | exact clen_XServicePort | exact clen_XService | exact clen_XEndpoint | exact clen_XEndpointSet | (simp only [clen_XLabel, clen_XOwner, clen_XManager, clen_XMeta, clen_XRequirement, clen_XServicePort, clen_XService, clen_XEndpoint, clen_XEndpointSet]; omega)) only [Nat.zero_add, oV_some', oN_eq, oM_some, oH_some, oD_some, oE_some, oS_eq, oT_true, oI_true, oI_false, pick_t, pick_f, un_not, oI_not, decide_not, toNat_sub1, toNat_add1, decide_true, decide_false, not_true, not_false_eq_true, Bool.not_true, Bool.not_false, Bool.not_not, oZ_b, oZ_i, oZ_s, oZ_l, slen_map, wr64, Int.toNat_natCast, Int.toNat_zero, ne_eq, bin_eq, b_snil, beq_4, load_get, loadB_some, get_put_same, get_put_ne, ofc_s, load_i, off_i, off_p, ofc_encXServicePort, ofc0_encXServicePort, st_XServicePort, fld_XServicePort_name_, fld_XServicePort_port_, fld_XServicePort_target_, prt_XServicePort_name_, prt_XServicePort_port_, prt_XServicePort_target_, l3, oZ_b]
theorem e21 {x : XServicePort} {p : Int} {d : Nat} {σ : AS} {K : AV → AS → Prop} : oC T0 d 21 [encXServicePort x, .iptr [.i .i64 p]] σ K = K (.b (decide (x.port_ = p))) σ := (c21 x p).eq d σ K
/-- The first port that is asked for. -/
def idxP (p : Int) (l : List XServicePort) : Nat := l.findIdx (fun x => decide (x.port_ = p))
def idxI (p : Int) (l : List XServicePort) : Int := if idxP p l < l.length then (idxP p l : Int) else -1
theorem findIdx_at {α : Type} {q : α → Bool} {l : List α} {j : Nat} {d : α} (ha : (l.take j).all (fun x => !q x) = true) (hj : j < l.length) (hp : q (l.getD j d) = true) : l.findIdx q = j := by
  rw [List.findIdx_eq hj]
  have hg : l.getD j d = l[j] := by simp [List.getD_eq_getElem?_getD, hj]
  refine ⟨by rw [← hg]; exact hp, fun i hi => ?_⟩
  rw [List.all_eq_true] at ha
  have : l[i] ∈ l.take j := by
    rw [List.mem_take_iff_getElem]
    exact ⟨i, by omega, rfl⟩
  simpa using ha _ this
theorem findIdx_no {α : Type} {q : α → Bool} {l : List α} (ha : l.all (fun x => !q x) = true) : l.findIdx q = l.length := by
  rw [List.findIdx_eq_length]
  intro x hx
  rw [List.all_eq_true] at ha
  simpa using ha x hx
theorem c20 (l : List XServicePort) (p : Int) (hl : l.length ≤ 140737488351232) : R T0 20 [.lst (l.map encXServicePort), .fn 21 [] [.iptr [.i .i64 p]]] (.i .i64 (idxI p l)) := by
  refine r20 _ _ rfl rfl ?_
  unfold w20
  dsimp only [prims]
  simp only [oV_some', len_31, slen_map]
  refine loop4 (X := Nat) (fun _ => .lst (l.map encXServicePort)) (fun _ => .fn 21 [] [.iptr [.i .i64 p]]) (fun _ => .i .i64 (l.length : Nat)) (fun j => .i .i64 (j : Nat)) (fun j _ => j ≤ l.length ∧ (l.take j).all (fun x => !decide (x.port_ = p)) = true) (fun j => l.length - j) ?_ 0 _ ⟨Nat.zero_le _, rfl⟩
  rintro R j σ ⟨hj, ha⟩ hR
  simp (disch := first | omega | assumption | exact scell | exact clen_XLabel | exact clen_XOwner | exact clen_XManager | exact clen_XMeta | exact clen_XRequirement | exact clen_XServicePort | exact clen_XService | exact clen_XEndpoint | exact clen_XEndpointSet | (simp only [clen_XLabel, clen_XOwner, clen_XManager, clen_XMeta, clen_XRequirement, clen_XServicePort, clen_XService, clen_XEndpoint, clen_XEndpointSet]; omega)) only [oV_some', bin_lt]
  refine oI_decd (fun h => ?_) (fun h => ?_)
  · simp (disch := first | omega | assumption | exact scell | exact clen_XLabel | exact clen_XOwner | exact clen_XManager | exact clen_XMeta | exact clen_XRequirement | exact clen_XServicePort | exact clen_XService | exact clen_XEndpoint | exact clen_XEndpointSet | (simp only [clen_XLabel, clen_XOwner, clen_XManager, clen_XMeta, clen_XRequirement, clen_XServicePort, clen_XService, clen_XEndpoint, clen_XEndpointSet]; omega)) only [Nat.zero_add, oV_some', oN_eq, oM_some, oH_some, oD_some, oE_some, oS_eq, oT_true, oI_true, oI_false, pick_t, pick_f, un_not, oI_not, decide_not, toNat_sub1, toNat_add1, decide_true, decide_false, not_true, not_false_eq_true, Bool.not_true, Bool.not_false, Bool.not_not, oZ_b, oZ_i, oZ_s, oZ_l, slen_map, wr64, Int.toNat_natCast, Int.toNat_zero, ne_eq, bin_lt, bin_slt, bin_add, load_get, loadB_some, get_put_same, get_put_ne, ofc_s, load_i, ofc_encXServicePort, ofc0_encXServicePort, st_XServicePort, fld_XServicePort_name_, fld_XServicePort_port_, fld_XServicePort_target_, prt_XServicePort_name_, prt_XServicePort_port_, prt_XServicePort_target_, len_31, ia_31, Int.toNat_natCast, oF_fn, List.nil_append, List.cons_append, e21]
    refine oI_decd (fun h2 => ?_) (fun h2 => ?_)
    · have := findIdx_at (q := fun x : XServicePort => decide (x.port_ = p)) (d := default) ha (by omega) (decide_eq_true h2)
      rw [idxI, idxP, this, if_pos (by omega)]
    · exact hR (j + 1) σ ⟨by omega, all_take_succ (d := default) ha (by omega) (by show (!decide _) = true; rw [decide_eq_false h2]; rfl)⟩ (by omega)
  · have hall : l.all (fun x => !decide (x.port_ = p)) = true := by rwa [List.take_of_length_le (by omega)] at ha
    have := findIdx_no (q := fun x : XServicePort => decide (x.port_ = p)) hall
    rw [oZ_i, idxI, idxP, this, if_neg (by omega)]
end Go.Proofs.YtbcikhbepldjhaaDoor.Ev
