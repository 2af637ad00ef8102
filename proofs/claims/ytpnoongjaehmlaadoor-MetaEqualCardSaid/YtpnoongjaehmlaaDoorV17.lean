/- A call that is lent blocks of its caller's own; cmp.Or. -/
import Derived.Test.YtpnoongjaehmlaaDoorV16
namespace Go.Proofs.YtpnoongjaehmlaaDoor.Ev
open Go Go.RowKit
set_option linter.unusedSimpArgs false
set_option linter.unusedVariables false
set_option maxRecDepth 100000

theorem mapO_fz {T : Tab} {h : Tr AB} {m k : Nat} (hk : m ≤ k) : ∀ {l r : List AV}, mapO (fz T h m) l = some r → mapO (fz T h k) l = some r
  | [], r, e => e
  | a :: l, r, e => by
    unfold mapO at e ⊢
    split at e
    · rename_i d ds h1 h2
      rw [fz_mono m k _ _ hk h1, mapO_fz hk h2]; exact e
    · cases e
theorem R.lent {T : Tab} {f : Nat} {args args' : List AV} {r : AV} {σ : AS} (h1 : T.prim f = none) (h2 : T.ext f = none) (h5 : T.opened f = false) (hi : AV.idfree.idfrees args = false) (hi' : AV.idfree.idfrees args' = true) (hn : AV.norm.norms args' = args') (hfl : r.flat = true) {m : Nat}
    (hz : mapO (fz T σ.h m) args = some args') (h : R T f args' r) : Runs T f args σ r σ := by
  obtain ⟨k, hk⟩ := h
  have e := evCall_mono k (max k m + 1) (by omega) _ _ _ _ (hk σ)
  refine ⟨max k m + 1, ?_⟩
  unfold evCall at e ⊢
  have hz' := mapO_fz (k := max k m + 1) (by omega) hz
  simp only [h1, h2, h5, hi, hi', hn, hz'] at e ⊢
  split at e
  · rename_i fn hfn
    split at e
    · rename_i c hc
      split at e
      · rename_i r1 σ1 hb
        split at e
        · rename_i r2 hr
          injection e with e
          simp only [Prod.mk.injEq] at e
          obtain ⟨rfl, _⟩ := e
          simp only [hb, hr, hfl]
        · cases e
      · cases e
    · cases e
  · cases e
/-- The first that is not zero. -/
def orL : List Int → Int
  | [] => 0
  | x :: l => if x = 0 then orL l else x
theorem orL_at : ∀ {l : List Int} {j : Nat}, (l.take j).all (fun x => decide (x = 0)) = true → j < l.length → ¬ l.getD j default = 0 → orL l = l.getD j default
  | [], j, _, h, _ => by simp at h
  | x :: l, 0, _, _, h => by simp at h ⊢; unfold orL; rw [if_neg h]
  | x :: l, j + 1, ha, hj, h => by
    simp only [List.take_succ_cons, List.all_cons, Bool.and_eq_true, decide_eq_true_eq] at ha
    unfold orL
    rw [if_pos ha.1]
    simp only [List.getD_cons_succ] at h ⊢
    exact orL_at ha.2 (by simpa using hj) h
theorem orL_no : ∀ {l : List Int}, l.all (fun x => decide (x = 0)) = true → orL l = 0
  | [], _ => rfl
  | x :: l, ha => by
    simp only [List.all_cons, Bool.and_eq_true, decide_eq_true_eq] at ha
    unfold orL
    rw [if_pos ha.1]
    exact orL_no ha.2
theorem kIcell (n : Int) : (kI n).cells.length = 1 := rfl
theorem ofc_kI (n : Int) : ofCells T0 3 (kI n).cells = some (kI n) := ofc_3 _ _
theorem ne_kI (c : Bool) (a b : Int) : evBin T0 .neq 3 c (kI a) (.i .i64 b) = some (.b (!decide (a = b))) := by
  unfold kI; rw [bin_ne]; simp
theorem oZ_kI {σ : AS} {n : Int} {K : AV → Prop} : oZ T0 σ (kI n) K = K (kI n) := oZ_free rfl
theorem c68 (l : List Int) (hl : l.length ≤ 140737488351232) : R T0 68 [.lst (l.map kI)] (.i .i64 (orL l)) := by
  refine r68 _ rfl rfl ?_
  unfold w68
  dsimp only [prims]
  simp (disch := first | omega | exact hk _ | exact hv _ | exact hn _ | exact hf _ | assumption | exact clen_V | exact clen_F | exact clen_Lb | exact clen_Ow | exact clen_Mg | exact clen_Mt | exact scell | (simp only [clen_Lb, clen_Ow, clen_Mg, clen_Mt]; omega) | (simp only [clen_V, clen_F]; omega)) only [Nat.zero_add, oV_some', oN_eq, oM_some, oH_some, oD_some, oE_some, oS_eq, oT_true, oI_true, oI_false, pick_t, pick_f, un_not, oI_not, decide_not, toNat_sub1, toNat_add1, decide_true, decide_false, not_true, not_false_eq_true, Bool.not_true, Bool.not_false, Bool.not_not, oZ_b, oZ_i, oZ_s, oZ_l, slen_map, wr64, Int.toNat_natCast, Int.toNat_zero, ne_eq, bin_lt, bin_slt, bin_ne, b_snnil, bne_4, bin_add, load_get, loadB_some, get_put_same, get_put_ne, ofc_s, load_i, len_95, slen_map]
  refine loop4 (X := Nat) (fun _ => .i .i64 0) (fun _ => .lst (l.map kI)) (fun _ => .i .i64 l.length) (fun j => .i .i64 j) (fun j _ => j ≤ l.length ∧ (l.take j).all (fun x => decide (x = 0)) = true) (fun j => l.length - j) ?_ 0 _ ⟨Nat.zero_le _, rfl⟩
  rintro R j σ ⟨hj, ha⟩ hR
  simp (disch := first | first | omega | exact hk _ | exact hv _ | exact hn _ | exact hf _ | assumption | exact clen_V | exact clen_F | exact clen_Lb | exact clen_Ow | exact clen_Mg | exact clen_Mt | exact scell | (simp only [clen_Lb, clen_Ow, clen_Mg, clen_Mt]; omega) | (simp only [clen_V, clen_F]; omega) | exact kIcell) only [Nat.zero_add, oV_some', oN_eq, oM_some, oH_some, oD_some, oE_some, oS_eq, oT_true, oI_true, oI_false, pick_t, pick_f, un_not, oI_not, decide_not, toNat_sub1, toNat_add1, decide_true, decide_false, not_true, not_false_eq_true, Bool.not_true, Bool.not_false, Bool.not_not, oZ_b, oZ_i, oZ_s, oZ_l, slen_map, wr64, Int.toNat_natCast, Int.toNat_zero, ne_eq, bin_lt, bin_slt, bin_ne, b_snnil, bne_4, bin_add, load_get, loadB_some, get_put_same, get_put_ne, ofc_s, load_i, ia_95, ofc_kI, ne_kI, oZ_kI]
  repeat' ((first | with_reducible refine oI_decd (fun h => ?_) (fun h => ?_)  | with_reducible refine oI_bool (fun h => ?_) (fun h => ?_)) <;> try simp (disch := first | first | omega | exact hk _ | exact hv _ | exact hn _ | exact hf _ | assumption | exact clen_V | exact clen_F | exact clen_Lb | exact clen_Ow | exact clen_Mg | exact clen_Mt | exact scell | (simp only [clen_Lb, clen_Ow, clen_Mg, clen_Mt]; omega) | (simp only [clen_V, clen_F]; omega) | exact kIcell) only [h, Nat.zero_add, oV_some', oN_eq, oM_some, oH_some, oD_some, oE_some, oS_eq, oT_true, oI_true, oI_false, pick_t, pick_f, un_not, oI_not, decide_not, toNat_sub1, toNat_add1, decide_true, decide_false, not_true, not_false_eq_true, Bool.not_true, Bool.not_false, Bool.not_not, oZ_b, oZ_i, oZ_s, oZ_l, slen_map, wr64, Int.toNat_natCast, Int.toNat_zero, ne_eq, bin_lt, bin_slt, bin_ne, b_snnil, bne_4, bin_add, load_get, loadB_some, get_put_same, get_put_ne, ofc_s, load_i, ia_95, ofc_kI, ne_kI, oZ_kI])
  all_goals first
    | exact hR (j + 1) _ ⟨by omega, all_take_succ (d := default) ha (by omega) (by simp only [*, decide_true])⟩ (by omega)
    | (rw [orL_at ha (by omega) (by assumption)]; rfl)
    | (rw [orL_no (all_of_take ha (by omega))])
end Go.Proofs.YtpnoongjaehmlaaDoor.Ev
