/- Equal of the program; Small; a tree is equal to itself. -/
import Derived.Test.YtpnoongjaehmlaaDoorV19
namespace Go.Proofs.YtpnoongjaehmlaaDoor.Ev
open Go Go.RowKit
set_option linter.unusedSimpArgs false
set_option linter.unusedVariables false
set_option maxRecDepth 100000

theorem c45 (v w : Val) (ov : okV v) (ow : okV w) : R T0 45 [encV v, encV w] (.b (decide (cmpV v w = 0))) := by
  obtain ⟨q1, q2⟩ := nrm_VV v w
  refine r45 _ _ q1 q2 ?_
  unfold w45
  dsimp only [prims]
  simp (disch := first | first | omega | exact hk _ | exact hv _ | exact hn _ | exact hf _ | assumption | exact clen_V | exact clen_F | exact clen_Lb | exact clen_Ow | exact clen_Mg | exact clen_Mt | exact scell | (simp only [clen_Lb, clen_Ow, clen_Mg, clen_Mt]; omega) | (simp only [clen_V, clen_F]; omega) | assumption) only [Nat.zero_add, oV_some', oN_eq, oM_some, oH_some, oD_some, oE_some, oS_eq, oT_true, oI_true, oI_false, pick_t, pick_f, un_not, oI_not, decide_not, toNat_sub1, toNat_add1, decide_true, decide_false, not_true, not_false_eq_true, Bool.not_true, Bool.not_false, Bool.not_not, oZ_b, oZ_i, oZ_s, oZ_l, slen_map, wr64, Int.toNat_natCast, Int.toNat_zero, ne_eq, bin_eq, b_snil, beq_4, load_get, loadB_some, get_put_same, get_put_ne, ofc_s, load_i, ofc_encV, ofc0_encV, e58]
theorem e45 {v w : Val} (ov : okV v) (ow : okV w) {d : Nat} {σ : AS} {K : AV → AS → Prop} : oC T0 d 45 [encV v, encV w] σ K = K (.b (decide (cmpV v w = 0))) σ := (c45 v w ov ow).eq d σ K
theorem nrm_V1 (v : Val) (n : Int) : AV.idfree.idfrees [encV v, .i .i64 n] = true ∧ AV.norm.norms [encV v, .i .i64 n] = [encV v, .i .i64 n] := by rw [encV_eq]; exact ⟨rfl, rfl⟩
theorem c25 (v : Val) (ov : okV v) (n : Int) : ∃ b : Bool, R T0 25 [encV v, .i .i64 n] (.b b) := by
  obtain ⟨q1, q2⟩ := nrm_V1 v n
  obtain ⟨r, hr⟩ := c50 _ v (Nat.le_refl _) ov n n
  have hre := fun (dd : Nat) (s : AS) (K : AV → AS → Prop) => hr.eq dd s K
  refine ⟨decide (0 ≤ r), r25 _ _ q1 q2 ?_⟩
  unfold w25
  dsimp only [prims]
  simp (disch := first | omega | exact hk _ | exact hv _ | exact hn _ | exact hf _ | assumption | exact clen_V | exact clen_F | exact clen_Lb | exact clen_Ow | exact clen_Mg | exact clen_Mt | exact scell | (simp only [clen_Lb, clen_Ow, clen_Mg, clen_Mt]; omega) | (simp only [clen_V, clen_F]; omega)) only [Nat.zero_add, oV_some', oN_eq, oM_some, oH_some, oD_some, oE_some, oS_eq, oT_true, oI_true, oI_false, pick_t, pick_f, un_not, oI_not, decide_not, toNat_sub1, toNat_add1, decide_true, decide_false, not_true, not_false_eq_true, Bool.not_true, Bool.not_false, Bool.not_not, oZ_b, oZ_i, oZ_s, oZ_l, slen_map, wr64, Int.toNat_natCast, Int.toNat_zero, ne_eq, bin_ge, bin_sge, load_get, loadB_some, get_put_same, get_put_ne, ofc_s, load_i, ofc_encMg, ofc0_encMg, st_Mg, fld_Mg_name, fld_Mg_fields, prt_Mg_name, prt_Mg_fields, len_25, ia_25, ofc_encV, ofc0_encV, hre]
theorem cmpI_self (a : Int) : cmpI a a = 0 := by unfold cmpI ordI; simp
theorem cmpB_self (a : List UInt8) : cmpB a a = 0 := by unfold cmpB ordI; simp [bl_irr]
theorem cmpV_self (k : Nat) : ∀ v : Val, SizeOf.sizeOf v ≤ k → cmpV v v = 0 := by
  induction k with
  | zero => intro v h; obtain ⟨_, _, _, _, _⟩ := v; simp only [Val.mk.sizeOf_spec] at h; omega
  | succ k ih =>
    intro v hsz
    have h1 : ∀ l : List Val, (∀ x ∈ l, cmpV x x = 0) → cmpVs l l = 0 := by
      intro l
      induction l with
      | nil => intro _; rw [cmpVs]
      | cons x l ihl =>
        intro h
        rw [cmpVs, if_pos (h x List.mem_cons_self)]
        exact ihl fun y hy => h y (List.mem_cons_of_mem _ hy)
    have h2 : ∀ l : List Fld, (∀ x ∈ l, cmpV x.v x.v = 0) → cmpFs l l = 0 := by
      intro l
      induction l with
      | nil => intro _; rw [cmpFs]
      | cons x l ihl =>
        intro h
        have : cmpF x x = 0 := by rw [cmpF_eq, h x List.mem_cons_self, cmpB_self]; simp [orL]
        rw [cmpFs, if_pos this]
        exact ihl fun y hy => h y (List.mem_cons_of_mem _ hy)
    rw [cmpV_eq, cmpI_self, cmpI_self, cmpB_self, h1 _ (fun x hx => ih x (by have := size_list v hx; omega)), h2 _ (fun x hx => ih x.v (by have := size_fields v hx; omega))]
    simp [orL]
end Go.Proofs.YtpnoongjaehmlaaDoor.Ev
