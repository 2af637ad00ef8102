/- The number of values of a tree; Valid. -/
import Derived.Test.YtmfhmlhaofpeiaaGreatDoorV7
namespace Go.Proofs.YtmfhmlhaofpeiaaGreatDoor.Ev
open Go Go.RowKit
set_option linter.unusedSimpArgs false
set_option linter.unusedVariables false
set_option maxRecDepth 100000

mutual
def sizeV : Val → Nat
  | .mk _ _ _ l fs => 1 + sizeVs l + sizeFs fs
def sizeF : Fld → Nat
  | .mk _ v => sizeV v
def sizeVs : List Val → Nat
  | [] => 0
  | v :: vs => sizeV v + sizeVs vs
def sizeFs : List Fld → Nat
  | [] => 0
  | f :: fs => sizeF f + sizeFs fs
end
theorem sizeV_eq (v : Val) : sizeV v = 1 + sizeVs v.list + sizeFs v.fields := by cases v; rw [sizeV]; rfl
theorem sizeF_eq (f : Fld) : sizeF f = sizeV f.v := by cases f; rw [sizeF]; rfl
theorem sizeVs_app (a b : List Val) : sizeVs (a ++ b) = sizeVs a + sizeVs b := by
  induction a with
  | nil => rw [List.nil_append, sizeVs, Nat.zero_add]
  | cons x a ih => rw [List.cons_append, sizeVs, sizeVs, ih]; omega
theorem sizeFs_app (a b : List Fld) : sizeFs (a ++ b) = sizeFs a + sizeFs b := by
  induction a with
  | nil => rw [List.nil_append, sizeFs, Nat.zero_add]
  | cons x a ih => rw [List.cons_append, sizeFs, sizeFs, ih]; omega
theorem take_snoc {α : Type} [Inhabited α] {l : List α} {j : Nat} (hj : j < l.length) : l.take (j + 1) = l.take j ++ [l.getD j default] := by
  rw [List.take_add_one, List.getD_eq_getElem?_getD, List.getElem?_eq_getElem hj]; rfl
theorem sizeVs_take {l : List Val} {j : Nat} (hj : j < l.length) : sizeVs (l.take (j + 1)) = sizeVs (l.take j) + sizeV (l.getD j default) := by
  rw [take_snoc hj, sizeVs_app, sizeVs, sizeVs, Nat.add_zero]
theorem sizeFs_take {l : List Fld} {j : Nat} (hj : j < l.length) : sizeFs (l.take (j + 1)) = sizeFs (l.take j) + sizeV (l.getD j default).v := by
  rw [take_snoc hj, sizeFs_app, sizeFs, sizeFs, Nat.add_zero, sizeF_eq]
theorem wrap_nf (x : Int) : IntKind.wrap .i64 x = (x + 9223372036854775808) % 18446744073709551616 - 9223372036854775808 := by
  have : IntKind.wrap .i64 x = if (x % 18446744073709551616) ≥ 9223372036854775808 then x % 18446744073709551616 - 18446744073709551616 else x % 18446744073709551616 := by
    unfold IntKind.wrap; simp [IntKind.bits, IntKind.signed]
  rw [this]
  split <;> omega
theorem wrap_ex (x : Int) : ∃ k : Int, IntKind.wrap .i64 x = x + 18446744073709551616 * k := ⟨-((x + 9223372036854775808) / 18446744073709551616), by rw [wrap_nf]; omega⟩
theorem wrap_add (a b : Int) : IntKind.wrap .i64 (IntKind.wrap .i64 a + IntKind.wrap .i64 b) = IntKind.wrap .i64 (a + b) := by
  obtain ⟨k, hk⟩ := wrap_ex a
  obtain ⟨m, hm⟩ := wrap_ex b
  rw [hk, hm, wrap_nf, wrap_nf]
  have : a + 18446744073709551616 * k + (b + 18446744073709551616 * m) + 9223372036854775808 = a + b + 9223372036854775808 + 18446744073709551616 * (k + m) := by omega
  rw [this, Int.add_mul_emod_self_left]
def szW (n : Nat) : Int := IntKind.wrap .i64 (n : Nat)
theorem szW_add (a b : Nat) : IntKind.wrap .i64 (szW a + szW b) = szW (a + b) := by unfold szW; rw [wrap_add]; congr 1
theorem szW_one : szW 1 = 1 := by unfold szW; rw [wrap_nf]; rfl
theorem c84 (m : Nat) : ∀ v : Val, SizeOf.sizeOf v ≤ m → okV v → R T0 84 [encV v] (.i .i64 (szW (sizeV v))) := by
  induction m with
  | zero => intro v h; obtain ⟨_, _, _, _, _⟩ := v; simp only [Val.mk.sizeOf_spec] at h; omega
  | succ m ih =>
    intro v hsz ov
    obtain ⟨ls, ll, lf, ol, of_⟩ := okV_list ov
    refine r84 _ (idf_V1 v) (nrm_V1 v) ?_
    unfold w84
    dsimp only [prims]
    simp (disch := first | assumption | exact clen_V | exact clen_F | (simp only [clen_V, clen_F]; omega) | omega | assumption | exact scell | exact clen_XStep | (simp only [clen_XStep]; omega)) only [Nat.zero_add, oV_some', oN_eq, oM_some, oH_some, oD_some, oE_some, oS_eq, oT_true, oI_true, oI_false, pick_t, pick_f, un_not, oI_not, decide_not, toNat_sub1, toNat_add1, decide_true, decide_false, not_true, not_false_eq_true, Bool.not_true, Bool.not_false, Bool.not_not, oZ_b, oZ_i, oZ_s, oZ_l, slen_map, wr64, Int.toNat_natCast, Int.toNat_zero, ne_eq, bin_lt, bin_slt, bin_add, load_get, loadB_some, get_put_same, get_put_ne, ofc_s, load_i, off_i, off_p, ofc_encXStep, ofc0_encXStep, st_XStep, fld_XStep_kind_, fld_XStep_name_, fld_XStep_index_, fld_XStep_value_, prt_XStep_kind_, prt_XStep_name_, prt_XStep_index_, prt_XStep_value_, len_32, len_33, ia_32, ia_33, fld_V_kind, fld_V_n, fld_V_s, fld_V_list, fld_V_fields, ofc_encV, ofc0_encV, fld_F_name, fld_F_v, ofc_encF, ofc0_encF, st_V0, st_F0, len_32, len_33, ia_32, ia_33]
    refine loop5 (X := Nat) (fun j => .i .i64 (szW (1 + sizeVs (v.list.take j)))) (fun _ => .ptr 0 0) (fun _ => .lst (v.list.map encV)) (fun _ => .i .i64 (v.list.length : Nat)) (fun j => .i .i64 (j : Nat))
      (fun j σ => j ≤ v.list.length ∧ 1 ≤ σ.n ∧ σ.h.get 0 = some (.cells (encV v).cells 35 false)) (fun j => v.list.length - j) ?_ 0 _ ⟨Nat.zero_le _, Nat.le_refl _, get_put_same _ _ _⟩
    rintro R j σ ⟨hj, hn, hg⟩ hR
    simp only [oV_some', bin_lt]
    refine oI_decd (fun h => ?_) (fun h => ?_)
    · have hj' : j < v.list.length := by omega
      have hm := getD_mem hj'
      have er : ∀ (d : Nat) (σ : AS) (K : AV → AS → Prop), oC T0 d 84 [encV (v.list.getD j default)] σ K = K (.i .i64 (szW (sizeV (v.list.getD j default)))) σ := fun d σ K => (ih _ (by have := size_list v hm; omega) (ol _ hm)).eq d σ K
      simp (disch := first | assumption | exact clen_V | exact clen_F | (simp only [clen_V, clen_F]; omega) | omega | assumption | exact scell | exact clen_XStep | (simp only [clen_XStep]; omega)) only [Nat.zero_add, oV_some', oN_eq, oM_some, oH_some, oD_some, oE_some, oS_eq, oT_true, oI_true, oI_false, pick_t, pick_f, un_not, oI_not, decide_not, toNat_sub1, toNat_add1, decide_true, decide_false, not_true, not_false_eq_true, Bool.not_true, Bool.not_false, Bool.not_not, oZ_b, oZ_i, oZ_s, oZ_l, slen_map, wr64, Int.toNat_natCast, Int.toNat_zero, ne_eq, bin_lt, bin_slt, bin_add, load_get, loadB_some, get_put_same, get_put_ne, ofc_s, load_i, off_i, off_p, ofc_encXStep, ofc0_encXStep, st_XStep, fld_XStep_kind_, fld_XStep_name_, fld_XStep_index_, fld_XStep_value_, prt_XStep_kind_, prt_XStep_name_, prt_XStep_index_, prt_XStep_value_, len_32, len_33, ia_32, ia_33, fld_V_kind, fld_V_n, fld_V_s, fld_V_list, fld_V_fields, ofc_encV, ofc0_encV, fld_F_name, fld_F_v, ofc_encF, ofc0_encF, st_V0, st_F0, len_32, len_33, ia_32, ia_33, Int.toNat_natCast, er, szW_add, Nat.add_assoc, ← sizeVs_take hj']
      refine hR (j + 1) _ ⟨by omega, Nat.le_succ_of_le hn, ?_⟩ (by omega)
      dsimp only
      rw [get_put_ne _ _ (by omega), get_put_ne _ _ (by omega)]; exact hg
    · have hall : v.list.take j = v.list := List.take_of_length_le (by omega)
      rw [hall]
      clear hR
      simp (disch := first | assumption | exact clen_V | exact clen_F | (simp only [clen_V, clen_F]; omega) | omega | assumption | exact scell | exact clen_XStep | (simp only [clen_XStep]; omega)) only [Nat.zero_add, oV_some', oN_eq, oM_some, oH_some, oD_some, oE_some, oS_eq, oT_true, oI_true, oI_false, pick_t, pick_f, un_not, oI_not, decide_not, toNat_sub1, toNat_add1, decide_true, decide_false, not_true, not_false_eq_true, Bool.not_true, Bool.not_false, Bool.not_not, oZ_b, oZ_i, oZ_s, oZ_l, slen_map, wr64, Int.toNat_natCast, Int.toNat_zero, ne_eq, bin_lt, bin_slt, bin_add, load_get, loadB_some, get_put_same, get_put_ne, ofc_s, load_i, off_i, off_p, ofc_encXStep, ofc0_encXStep, st_XStep, fld_XStep_kind_, fld_XStep_name_, fld_XStep_index_, fld_XStep_value_, prt_XStep_kind_, prt_XStep_name_, prt_XStep_index_, prt_XStep_value_, len_32, len_33, ia_32, ia_33, fld_V_kind, fld_V_n, fld_V_s, fld_V_list, fld_V_fields, ofc_encV, ofc0_encV, fld_F_name, fld_F_v, ofc_encF, ofc0_encF, st_V0, st_F0, len_32, len_33, ia_32, ia_33, hg]
      refine loop4 (X := Nat) (fun j => .i .i64 (szW (1 + (sizeVs v.list + sizeFs (v.fields.take j))))) (fun _ => .lst (v.fields.map encF)) (fun _ => .i .i64 (v.fields.length : Nat)) (fun j => .i .i64 (j : Nat))
        (fun j σ => j ≤ v.fields.length) (fun j => v.fields.length - j) ?_ 0 _ (Nat.zero_le _)
      rintro R j σ hj hR
      simp only [oV_some', bin_lt]
      refine oI_decd (fun h => ?_) (fun h => ?_)
      · have hj' : j < v.fields.length := by omega
        have hm := getD_mem hj'
        have er : ∀ (d : Nat) (σ : AS) (K : AV → AS → Prop), oC T0 d 84 [encV (v.fields.getD j default).v] σ K = K (.i .i64 (szW (sizeV (v.fields.getD j default).v))) σ := fun d σ K => (ih _ (by have := size_fields v hm; omega) (okF_v (of_ _ hm)).2).eq d σ K
        simp (disch := first | assumption | exact clen_V | exact clen_F | (simp only [clen_V, clen_F]; omega) | omega | assumption | exact scell | exact clen_XStep | (simp only [clen_XStep]; omega)) only [Nat.zero_add, oV_some', oN_eq, oM_some, oH_some, oD_some, oE_some, oS_eq, oT_true, oI_true, oI_false, pick_t, pick_f, un_not, oI_not, decide_not, toNat_sub1, toNat_add1, decide_true, decide_false, not_true, not_false_eq_true, Bool.not_true, Bool.not_false, Bool.not_not, oZ_b, oZ_i, oZ_s, oZ_l, slen_map, wr64, Int.toNat_natCast, Int.toNat_zero, ne_eq, bin_lt, bin_slt, bin_add, load_get, loadB_some, get_put_same, get_put_ne, ofc_s, load_i, off_i, off_p, ofc_encXStep, ofc0_encXStep, st_XStep, fld_XStep_kind_, fld_XStep_name_, fld_XStep_index_, fld_XStep_value_, prt_XStep_kind_, prt_XStep_name_, prt_XStep_index_, prt_XStep_value_, len_32, len_33, ia_32, ia_33, fld_V_kind, fld_V_n, fld_V_s, fld_V_list, fld_V_fields, ofc_encV, ofc0_encV, fld_F_name, fld_F_v, ofc_encF, ofc0_encF, st_V0, st_F0, len_32, len_33, ia_32, ia_33, Int.toNat_natCast, er, szW_add, Nat.add_assoc, ← sizeFs_take hj']
        exact hR (j + 1) _ (show j + 1 ≤ v.fields.length by omega) (by omega)
      · have hall : v.fields.take j = v.fields := List.take_of_length_le (by omega)
        rw [hall, ← Nat.add_assoc, ← sizeV_eq]
        try rw [oZ_i]
theorem e84 {v : Val} (ov : okV v) {d : Nat} {σ : AS} {K : AV → AS → Prop} : oC T0 d 84 [encV v] σ K = K (.i .i64 (szW (sizeV v))) σ := (c84 _ v (Nat.le_refl _) ov).eq d σ K
/-- Valid. -/
def vldB (v : Val) : Bool := validL 12 v && decide (szW (sizeV v) ≤ 600)
theorem c54 (v : Val) (ov : okV v) : R T0 54 [encV v] (.b (vldB v)) := by
  refine r54 _ (idf_V1 v) (nrm_V1 v) ?_
  unfold w54
  dsimp only [prims]
  have er : ∀ (d : Nat) (σ : AS) (K : AV → AS → Prop), oC T0 d 83 [encV v, .i .i64 12] σ K = K (.b (validL 12 v)) σ := fun d σ K => e83 (k := 12) ov (by decide)
  simp (disch := first | assumption | exact clen_V | exact clen_F | (simp only [clen_V, clen_F]; omega) | omega | assumption | exact scell | exact clen_XStep | (simp only [clen_XStep]; omega)) only [Nat.zero_add, oV_some', oN_eq, oM_some, oH_some, oD_some, oE_some, oS_eq, oT_true, oI_true, oI_false, pick_t, pick_f, un_not, oI_not, decide_not, toNat_sub1, toNat_add1, decide_true, decide_false, not_true, not_false_eq_true, Bool.not_true, Bool.not_false, Bool.not_not, oZ_b, oZ_i, oZ_s, oZ_l, slen_map, wr64, Int.toNat_natCast, Int.toNat_zero, ne_eq, bin_le, b_sle, load_get, loadB_some, get_put_same, get_put_ne, ofc_s, load_i, gtt_3, gff_3, gtf_3, gft_3, gvv_3, gnt_3, gnf_3, fld_V_kind, fld_V_n, fld_V_s, fld_V_list, fld_V_fields, ofc_encV, ofc0_encV, fld_F_name, fld_F_v, ofc_encF, ofc0_encF, st_V0, st_F0, len_32, len_33, ia_32, ia_33, cnd_true, cnd_false, Bool.true_and, guard1t, guard1f, guard2t, guard2f, guard3t, guard3f, guard4t, guard4f, guard5t, guard5f, guard6t, guard6f, guard7t, guard7f, guard8t, guard8f, guard9t, guard9f, guard10t, guard10f, guard11t, guard11f, guard12t, guard12f, gct_1, gcf_1, gct_2, gcf_2, gct_3, gcf_3, gct_4, gcf_4, gct_5, gcf_5, gct_6, gcf_6, gct_7, gcf_7, gct_8, gcf_8, gct_9, gcf_9, gct_10, gcf_10, gct_11, gcf_11, gct_12, gcf_12, gct_13, gcf_13, gct_14, gcf_14, pick_and, pick_or, pick_andn, pick_orn, nest_and, nest_or, nest_andn, nest_orn, nest_andt, nest_orf, nest_orx, nest_orfx, oZ_V, er, e84 ov]
  rfl
theorem e54 {v : Val} (ov : okV v) {d : Nat} {σ : AS} {K : AV → AS → Prop} : oC T0 d 54 [encV v] σ K = K (.b (vldB v)) σ := (c54 v ov).eq d σ K
end Go.Proofs.YtmfhmlhaofpeiaaGreatDoor.Ev
