/- What the reference's Split, Key, and the law MetaSplit answer. -/
import Derived.Test.YtpnoongjaehmlaaDoorV7
import Derived.Test.YtpnoongjaehmlaaDoorV5
namespace Go.Proofs.YtpnoongjaehmlaaDoor.Ev
open Go Go.RowKit
set_option linter.unusedSimpArgs false
set_option linter.unusedVariables false
set_option maxRecDepth 100000

def noSl (c : UInt8) : Bool := decide (c.toNat ≠ 47)
theorem sl_iff (c : UInt8) : c = 47 ↔ c.toNat = 47 := ⟨fun h => by rw [h]; rfl, fun h => UInt8.toNat_inj.1 h⟩
theorem idx_no : ∀ {s : List UInt8}, s.all noSl = true → Lib.indexByte s 47 = -1
  | [], _ => rfl
  | c :: s, h => by
    simp only [List.all_cons, Bool.and_eq_true, noSl, decide_eq_true_eq] at h
    have ih := idx_no (s := s) h.2
    have hb : (c == 47) = false := by simp only [beq_eq_false_iff_ne, ne_eq, sl_iff]; exact h.1
    unfold Lib.indexByte
    simp [hb, ih]
theorem idx_at : ∀ {s : List UInt8} {j : Nat}, (s.take j).all noSl = true → j < s.length → (s.getD j 0).toNat = 47 → Lib.indexByte s 47 = j
  | [], j, _, h, _ => by simp at h
  | c :: s, 0, _, _, h => by
    have : c = 47 := (sl_iff c).2 (by simpa using h)
    subst this
    simp [Lib.indexByte]
  | c :: s, j + 1, ha, hj, h => by
    simp only [List.take_succ_cons, List.all_cons, Bool.and_eq_true, noSl, decide_eq_true_eq] at ha
    have ih := idx_at (s := s) (j := j) ha.2 (by simpa using hj) (by simpa using h)
    have hb : (c == 47) = false := by simp only [beq_eq_false_iff_ne, ne_eq, sl_iff]; exact ha.1
    have hne : ¬ ((j : Int) = -1) := by omega
    unfold Lib.indexByte
    simp only [hb, ih]
    simp
def cutL (s : List UInt8) : List UInt8 × List UInt8 × Bool := if Lib.indexByte s 47 = -1 then ([], [], false) else (s.take (Lib.indexByte s 47).toNat, s.drop ((Lib.indexByte s 47).toNat + 1), true)
def cutAV (x : List UInt8 × List UInt8 × Bool) : AV := .tup [.s x.1, .s x.2.1, .b x.2.2]
theorem c38 (s : List UInt8) (hs : s.length ≤ 300) : R T0 38 [.s s] (cutAV (cutL s)) := by
  refine r38 _ rfl rfl ?_
  unfold w38
  dsimp only [prims]
  refine loop2 (X := Nat) (fun _ => .s s) (fun j => .i .i64 j) (fun j _ => j ≤ s.length ∧ (s.take j).all noSl = true) (fun j => s.length - j) ?_ 0 _ ⟨Nat.zero_le _, rfl⟩
  rintro R j σ ⟨hj, ha⟩ hR
  simp (disch := first | omega | exact hk _ | exact hv _ | exact hn _ | exact hf _ | assumption | exact clen_Lb | exact clen_Ow | exact clen_Mg | exact clen_Mt | exact scell | (simp only [clen_Lb, clen_Ow, clen_Mg, clen_Mt]; omega)) only [Nat.zero_add, oV_some', oN_eq, oM_some, oH_some, oD_some, oE_some, oS_eq, oT_true, oI_true, oI_false, pick_t, pick_f, un_not, oI_not, decide_not, toNat_sub1, toNat_add1, decide_true, decide_false, not_true, not_false_eq_true, Bool.not_true, Bool.not_false, Bool.not_not, oZ_b, oZ_i, oZ_s, oZ_l, slen_map, wr64, Int.toNat_natCast, Int.toNat_zero, ne_eq, bin_lt, bin_slt, bin_eq, b_snil, beq_4, bin_add, len_9, idx_9, ofc_encLb, ofc0_encLb, st_Lb, fld_Lb_k, fld_Lb_v, prt_Lb_k, prt_Lb_v, len_22, ia_22]
  refine oI_decd (fun h => ?_) (fun h => ?_)
  · simp (disch := first | omega | exact hk _ | exact hv _ | exact hn _ | exact hf _ | assumption | exact clen_Lb | exact clen_Ow | exact clen_Mg | exact clen_Mt | exact scell | (simp only [clen_Lb, clen_Ow, clen_Mg, clen_Mt]; omega)) only [h, Nat.zero_add, oV_some', oN_eq, oM_some, oH_some, oD_some, oE_some, oS_eq, oT_true, oI_true, oI_false, pick_t, pick_f, un_not, oI_not, decide_not, toNat_sub1, toNat_add1, decide_true, decide_false, not_true, not_false_eq_true, Bool.not_true, Bool.not_false, Bool.not_not, oZ_b, oZ_i, oZ_s, oZ_l, slen_map, wr64, Int.toNat_natCast, Int.toNat_zero, ne_eq, bin_lt, bin_slt, bin_eq, b_snil, beq_4, bin_add, len_9, idx_9, ofc_encLb, ofc0_encLb, st_Lb, fld_Lb_k, fld_Lb_v, prt_Lb_k, prt_Lb_v, len_22, ia_22, sl_to (i := j), sl_from (i := j + 1)]
    repeat' ((first | with_reducible refine oI_decd (fun h => ?_) (fun h => ?_)  | with_reducible refine oI_bool (fun h => ?_) (fun h => ?_)) <;> try simp (disch := first | omega | exact hk _ | exact hv _ | exact hn _ | exact hf _ | assumption | exact clen_Lb | exact clen_Ow | exact clen_Mg | exact clen_Mt | exact scell | (simp only [clen_Lb, clen_Ow, clen_Mg, clen_Mt]; omega)) only [h, Nat.zero_add, oV_some', oN_eq, oM_some, oH_some, oD_some, oE_some, oS_eq, oT_true, oI_true, oI_false, pick_t, pick_f, un_not, oI_not, decide_not, toNat_sub1, toNat_add1, decide_true, decide_false, not_true, not_false_eq_true, Bool.not_true, Bool.not_false, Bool.not_not, oZ_b, oZ_i, oZ_s, oZ_l, slen_map, wr64, Int.toNat_natCast, Int.toNat_zero, ne_eq, bin_lt, bin_slt, bin_eq, b_snil, beq_4, bin_add, len_9, idx_9, ofc_encLb, ofc0_encLb, st_Lb, fld_Lb_k, fld_Lb_v, prt_Lb_k, prt_Lb_v, len_22, ia_22, sl_to (i := j), sl_from (i := j + 1)])
    all_goals first
      | exact hR (j + 1) _ ⟨by omega, all_take_succ (d := 0) ha (by omega) (by simp only [noSl, Bool.true_or, Bool.false_or, decide_true, decide_false, Bool.not_true, Bool.not_false, or_true, true_or, or_false, false_or, not_true, not_false_eq_true, not_true_eq_false, and_false, Bool.or_false, Bool.or_true, Bool.and_false, Bool.and_true, true_and, and_true, Bool.or_eq_true, Bool.and_eq_true, decide_eq_true_eq, ne_eq, Bool.not_eq_true', decide_eq_false_iff_not, iff_true, true_iff, false_iff, iff_false, Bool.true_eq, Bool.false_eq_true, reduceCtorEq, Bool.false_and, Bool.true_and, false_and]; omega)⟩ (by omega)
      | (have q := idx_at ha (by omega) (by omega)
         refine Eq.mpr (oZ_free rfl) ?_
         have hne : ¬ ((j : Int) = -1) := by omega
         unfold cutL cutAV
         simp only [q, hne, if_false, Int.toNat_natCast]
         rfl)
  · have hall := all_of_take ha (by omega)
    have q := idx_no hall
    refine Eq.mpr (oZ_free rfl) ?_
    unfold cutL cutAV
    simp only [q, if_true]
    rfl
theorem e38 {s : List UInt8} (hs : s.length ≤ 300) {d : Nat} {σ : AS} {K : AV → AS → Prop} : oC T0 d 38 [.s s] σ K = K (cutAV (cutL s)) σ := (c38 s hs).eq d σ K
theorem vname_sl {s : List UInt8} (h : Lib.indexByte s 47 ≠ -1) : vname s = false := by
  cases hv : vname s with
  | false => rfl
  | true =>
    unfold vname at hv
    simp only [Bool.and_eq_true] at hv
    refine absurd (idx_no ?_) h
    rw [List.all_eq_true] at hv ⊢
    intro c hc
    have := hv.1 c hc
    simp only [nameByte, noSl, Bool.true_or, Bool.false_or, decide_true, decide_false, Bool.not_true, Bool.not_false, or_true, true_or, or_false, false_or, not_true, not_false_eq_true, not_true_eq_false, and_false, Bool.or_false, Bool.or_true, Bool.and_false, Bool.and_true, true_and, and_true, Bool.or_eq_true, Bool.and_eq_true, decide_eq_true_eq, ne_eq, Bool.not_eq_true', decide_eq_false_iff_not, iff_true, true_iff, false_iff, iff_false, Bool.true_eq, Bool.false_eq_true, reduceCtorEq, Bool.false_and, Bool.true_and, false_and] at this ⊢
    omega
theorem cut_pieces (s : List UInt8) : keyOf3 s = (if (cutL s).2.2 && (cutL (cutL s).2.1).2.2 && good (cutL s).1 (cutL (cutL s).2.1).1 (cutL (cutL s).2.1).2.1 then some ((cutL s).1, (cutL (cutL s).2.1).1, (cutL (cutL s).2.1).2.1) else none) := by
  have some_ : ∀ t : List UInt8, Lib.indexByte t 47 ≠ -1 → cutL t = (t.take (Lib.indexByte t 47).toNat, t.drop ((Lib.indexByte t 47).toNat + 1), true) ∧ pieces t = (cutL t).1 :: pieces (cutL t).2.1 := by
    intro t h
    have hge := Lib.indexByte_ge t 47
    obtain ⟨i, hi⟩ : ∃ i : Nat, Lib.indexByte t 47 = i := ⟨(Lib.indexByte t 47).toNat, by omega⟩
    have e : cutL t = (t.take (Lib.indexByte t 47).toNat, t.drop ((Lib.indexByte t 47).toNat + 1), true) := by unfold cutL; rw [if_neg h]
    refine ⟨e, ?_⟩
    rw [e, hi]
    exact (pieces_some hi).1
  have none_ : ∀ t : List UInt8, Lib.indexByte t 47 = -1 → cutL t = ([], [], false) ∧ pieces t = [t] := fun t h => ⟨by unfold cutL; rw [if_pos h], (pieces_none h).1⟩
  unfold keyOf3
  by_cases h1 : Lib.indexByte s 47 = -1
  · obtain ⟨a1, a2⟩ := none_ s h1
    rw [a1, a2]; rfl
  · obtain ⟨a1, a2⟩ := some_ s h1
    have b1 : (cutL s).2.2 = true := by rw [a1]
    rw [a2, b1]
    generalize (cutL s).1 = k at *
    generalize (cutL s).2.1 = t at *
    by_cases h2 : Lib.indexByte t 47 = -1
    · obtain ⟨c1, c2⟩ := none_ t h2
      rw [c1, c2]; rfl
    · obtain ⟨c1, c2⟩ := some_ t h2
      have d1 : (cutL t).2.2 = true := by rw [c1]
      rw [c2, d1]
      generalize (cutL t).1 = n at *
      generalize (cutL t).2.1 = u at *
      by_cases h3 : Lib.indexByte u 47 = -1
      · obtain ⟨_, q⟩ := none_ u h3
        rw [q]; simp
      · obtain ⟨_, q⟩ := some_ u h3
        have hv : vname u = false := vname_sl h3
        rw [q]
        unfold good
        rw [hv]
        generalize (cutL u).2.1 = x
        have : pieces x ≠ [] := by
          unfold pieces
          split
          · simp
          · split
            · simp
            · split <;> simp
        cases hx : pieces x with
        | nil => exact absurd hx this
        | cons p ps => simp
theorem cut_len (s : List UInt8) : (cutL s).1.length ≤ s.length ∧ (cutL s).2.1.length ≤ s.length := by
  unfold cutL
  split
  · simp
  · simp only [List.length_take, List.length_drop]; omega
theorem cutAV_0 (x : List UInt8 × List UInt8 × Bool) : evExtract 0 (cutAV x) = some (.s x.1) := rfl
theorem cutAV_1 (x : List UInt8 × List UInt8 × Bool) : evExtract 1 (cutAV x) = some (.s x.2.1) := rfl
theorem cutAV_2 (x : List UInt8 × List UInt8 × Bool) : evExtract 2 (cutAV x) = some (.b x.2.2) := rfl
theorem c16 (s : List UInt8) (hs : s.length ≤ 300) : R T0 16 [.s s] (keyAV (keyOf3 s)) := by
  have l1 := cut_len s
  have l2 := cut_len (cutL s).2.1
  have h1 : (cutL s).1.length ≤ 140737488351232 := by omega
  have h2 : (cutL (cutL s).2.1).1.length ≤ 140737488351232 := by omega
  have h3 : (cutL (cutL s).2.1).2.1.length ≤ 140737488351232 := by omega
  have h4 : (cutL s).2.1.length ≤ 300 := by omega
  rw [cut_pieces]
  refine r16 _ rfl rfl ?_
  unfold w16 good vspace
  dsimp only [prims]
  simp (disch := first | omega | exact hk _ | exact hv _ | exact hn _ | exact hf _ | assumption | exact clen_Lb | exact clen_Ow | exact clen_Mg | exact clen_Mt | exact scell | (simp only [clen_Lb, clen_Ow, clen_Mg, clen_Mt]; omega)) only [Nat.zero_add, oV_some', oN_eq, oM_some, oH_some, oD_some, oE_some, oS_eq, oT_true, oI_true, oI_false, pick_t, pick_f, un_not, oI_not, decide_not, toNat_sub1, toNat_add1, decide_true, decide_false, not_true, not_false_eq_true, Bool.not_true, Bool.not_false, Bool.not_not, oZ_b, oZ_i, oZ_s, oZ_l, slen_map, wr64, Int.toNat_natCast, Int.toNat_zero, ne_eq, bin_ne, b_snnil, bne_4, ext_t, ofc_encLb, ofc0_encLb, st_Lb, fld_Lb_k, fld_Lb_v, prt_Lb_k, prt_Lb_v, ofc_encOw, ofc0_encOw, st_Ow, fld_Ow_kind, fld_Ow_name, fld_Ow_uid, fld_Ow_ctl, fld_Ow_blk, prt_Ow_kind, prt_Ow_name, prt_Ow_uid, prt_Ow_ctl, prt_Ow_blk, ofc_encMg, ofc0_encMg, st_Mg, fld_Mg_name, fld_Mg_fields, prt_Mg_name, prt_Mg_fields, ofc_encMt, ofc0_encMt, st_Mt, fld_Mt_kind, fld_Mt_ns, fld_Mt_name, fld_Mt_uid, fld_Mt_ver, fld_Mt_gen, fld_Mt_created, fld_Mt_deleting, fld_Mt_delAt, fld_Mt_labels, fld_Mt_owners, fld_Mt_fins, fld_Mt_mgrs, prt_Mt_kind, prt_Mt_ns, prt_Mt_name, prt_Mt_uid, prt_Mt_ver, prt_Mt_gen, prt_Mt_created, prt_Mt_deleting, prt_Mt_delAt, prt_Mt_labels, prt_Mt_owners, prt_Mt_fins, prt_Mt_mgrs, len_22, ia_22, len_23, ia_23, len_25, ia_25, gtt_1, gff_1, gtf_1, gft_1, gvv_1, gnt_1, gnf_1, gtt_2, gff_2, gtf_2, gft_2, gvv_2, gnt_2, gnf_2, gtt_3, gff_3, gtf_3, gft_3, gvv_3, gnt_3, gnf_3, e38, e32, e14, cutAV_0, cutAV_1, cutAV_2]
  repeat' ((first | with_reducible refine oI_decd (fun h => ?_) (fun h => ?_) | with_reducible refine gdt_1 (fun h => ?_) (fun h => ?_) | with_reducible refine gdt_2 (fun h => ?_) (fun h => ?_) | with_reducible refine gdt_3 (fun h => ?_) (fun h => ?_) | with_reducible refine gdf_1 (fun h => ?_) (fun h => ?_) | with_reducible refine gdf_2 (fun h => ?_) (fun h => ?_) | with_reducible refine gdf_3 (fun h => ?_) (fun h => ?_) | with_reducible refine gbt_1 (fun h => ?_) (fun h => ?_) | with_reducible refine gbt_2 (fun h => ?_) (fun h => ?_) | with_reducible refine gbt_3 (fun h => ?_) (fun h => ?_) | with_reducible refine gbf_1 (fun h => ?_) (fun h => ?_) | with_reducible refine gbf_2 (fun h => ?_) (fun h => ?_) | with_reducible refine gbf_3 (fun h => ?_) (fun h => ?_) | with_reducible refine oI_bool (fun h => ?_) (fun h => ?_)) <;> try simp (disch := first | omega | exact hk _ | exact hv _ | exact hn _ | exact hf _ | assumption | exact clen_Lb | exact clen_Ow | exact clen_Mg | exact clen_Mt | exact scell | (simp only [clen_Lb, clen_Ow, clen_Mg, clen_Mt]; omega)) only [h, Nat.zero_add, oV_some', oN_eq, oM_some, oH_some, oD_some, oE_some, oS_eq, oT_true, oI_true, oI_false, pick_t, pick_f, un_not, oI_not, decide_not, toNat_sub1, toNat_add1, decide_true, decide_false, not_true, not_false_eq_true, Bool.not_true, Bool.not_false, Bool.not_not, oZ_b, oZ_i, oZ_s, oZ_l, slen_map, wr64, Int.toNat_natCast, Int.toNat_zero, ne_eq, bin_ne, b_snnil, bne_4, ext_t, ofc_encLb, ofc0_encLb, st_Lb, fld_Lb_k, fld_Lb_v, prt_Lb_k, prt_Lb_v, ofc_encOw, ofc0_encOw, st_Ow, fld_Ow_kind, fld_Ow_name, fld_Ow_uid, fld_Ow_ctl, fld_Ow_blk, prt_Ow_kind, prt_Ow_name, prt_Ow_uid, prt_Ow_ctl, prt_Ow_blk, ofc_encMg, ofc0_encMg, st_Mg, fld_Mg_name, fld_Mg_fields, prt_Mg_name, prt_Mg_fields, ofc_encMt, ofc0_encMt, st_Mt, fld_Mt_kind, fld_Mt_ns, fld_Mt_name, fld_Mt_uid, fld_Mt_ver, fld_Mt_gen, fld_Mt_created, fld_Mt_deleting, fld_Mt_delAt, fld_Mt_labels, fld_Mt_owners, fld_Mt_fins, fld_Mt_mgrs, prt_Mt_kind, prt_Mt_ns, prt_Mt_name, prt_Mt_uid, prt_Mt_ver, prt_Mt_gen, prt_Mt_created, prt_Mt_deleting, prt_Mt_delAt, prt_Mt_labels, prt_Mt_owners, prt_Mt_fins, prt_Mt_mgrs, len_22, ia_22, len_23, ia_23, len_25, ia_25, gtt_1, gff_1, gtf_1, gft_1, gvv_1, gnt_1, gnf_1, gtt_2, gff_2, gtf_2, gft_2, gvv_2, gnt_2, gnf_2, gtt_3, gff_3, gtf_3, gft_3, gvv_3, gnt_3, gnf_3, e38, e32, e14, cutAV_0, cutAV_1, cutAV_2])
  all_goals (
    simp only [*, Bool.and_true, Bool.true_and, Bool.and_false, Bool.false_and, Bool.true_or, Bool.false_or, decide_true, decide_false, if_true, if_false, Bool.false_eq_true]
    exact Eq.mpr (oZ_free rfl) rfl)
theorem e15 {s : List UInt8} (hs : s.length ≤ 300) {d : Nat} {σ : AS} {K : AV → AS → Prop} : oC T0 d 15 [.s s] σ K = K (keyAV (keyOf3 s)) σ := (c15 s hs).eq d σ K
theorem e16 {s : List UInt8} (hs : s.length ≤ 300) {d : Nat} {σ : AS} {K : AV → AS → Prop} : oC T0 d 16 [.s s] σ K = K (keyAV (keyOf3 s)) σ := (c16 s hs).eq d σ K
def key3 (a b c : List UInt8) : List UInt8 := a ++ [47] ++ b ++ [47] ++ c
theorem c17 (a b c : List UInt8) (ha : a.length ≤ 140737488351232) (hb : b.length ≤ 140737488351232) (hc : c.length ≤ 140737488351232) : R T0 17 [.s a, .s b, .s c] (.s (key3 a b c)) := by
  refine r17 _ _ _ rfl rfl ?_
  unfold w17 key3
  dsimp only [prims]
  rw [bin_sadd (by simp; omega), oV_some', bin_sadd (by simp; omega), oV_some', bin_sadd (by simp; omega), oV_some', bin_sadd (by simp; omega), oV_some', oZ_s]
theorem e17 {a b c : List UInt8} (ha : a.length ≤ 140737488351232) (hb : b.length ≤ 140737488351232) (hc : c.length ≤ 140737488351232) {d : Nat} {σ : AS} {K : AV → AS → Prop} : oC T0 d 17 [.s a, .s b, .s c] σ K = K (.s (key3 a b c)) σ := (c17 a b c ha hb hc).eq d σ K
def joinP : List (List UInt8) → List UInt8
  | [] => []
  | [p] => p
  | p :: q :: ps => p ++ 47 :: joinP (q :: ps)
theorem join_pieces : ∀ s : List UInt8, pieces s ≠ [] ∧ joinP (pieces s) = s
  | [] => ⟨by simp [pieces], rfl⟩
  | c :: s => by
    obtain ⟨h1, h2⟩ := join_pieces s
    unfold pieces
    split
    · rename_i hc
      refine ⟨by simp, ?_⟩
      cases hp : pieces s with
      | nil => exact absurd hp h1
      | cons p ps => rw [hp] at h2; simp only [joinP, h2, hc, List.nil_append]
    · cases hp : pieces s with
      | nil => exact absurd hp h1
      | cons p ps =>
        rw [hp] at h2
        refine ⟨by simp, ?_⟩
        cases ps with
        | nil => simp only [joinP] at h2 ⊢; rw [h2]
        | cons q qs => simp only [joinP] at h2 ⊢; rw [List.cons_append, h2]
theorem keyOf3_some {s a b c : List UInt8} (h : keyOf3 s = some (a, b, c)) : key3 a b c = s ∧ good a b c = true := by
  have hj := (join_pieces s).2
  unfold keyOf3 at h
  split at h
  · rename_i a' b' c' hp
    split at h
    · rename_i hg
      simp only [Option.some.injEq, Prod.mk.injEq] at h
      obtain ⟨rfl, rfl, rfl⟩ := h
      rw [hp] at hj
      refine ⟨?_, hg⟩
      rw [← hj]
      simp [joinP, key3]
    · cases h
  · cases h
theorem ex_0 (a b c : List UInt8) : evExtract 0 (keyAV (some (a, b, c))) = some (.s a) := rfl
theorem ex_1 (a b c : List UInt8) : evExtract 1 (keyAV (some (a, b, c))) = some (.s b) := rfl
theorem ex_2 (a b c : List UInt8) : evExtract 2 (keyAV (some (a, b, c))) = some (.s c) := rfl
theorem ex_3 (a b c : List UInt8) : evExtract 3 (keyAV (some (a, b, c))) = some (.b true) := rfl
theorem exn_0 : evExtract 0 (keyAV none) = some (.s []) := rfl
theorem exn_1 : evExtract 1 (keyAV none) = some (.s []) := rfl
theorem exn_2 : evExtract 2 (keyAV none) = some (.s []) := rfl
theorem exn_3 : evExtract 3 (keyAV none) = some (.b false) := rfl
theorem c4 (s : List UInt8) (hs : s.length ≤ 140737488351232) : R T0 4 [.s s] (.b true) := by
  refine r4 _ rfl rfl ?_
  unfold w4
  dsimp only [prims]
  by_cases h300 : s.length ≤ 300
  · cases hk : keyOf3 s with
    | none =>
      simp (disch := first | omega | exact hk _ | exact hv _ | exact hn _ | exact hf _ | assumption | exact clen_Lb | exact clen_Ow | exact clen_Mg | exact clen_Mt | exact scell | (simp only [clen_Lb, clen_Ow, clen_Mg, clen_Mt]; omega)) only [Nat.zero_add, oV_some', oN_eq, oM_some, oH_some, oD_some, oE_some, oS_eq, oT_true, oI_true, oI_false, pick_t, pick_f, un_not, oI_not, decide_not, toNat_sub1, toNat_add1, decide_true, decide_false, not_true, not_false_eq_true, Bool.not_true, Bool.not_false, Bool.not_not, oZ_b, oZ_i, oZ_s, oZ_l, slen_map, wr64, Int.toNat_natCast, Int.toNat_zero, ne_eq, bin_gt, b_sgt, bin_eq, b_snil, beq_4, bin_ne, b_snnil, bne_4, ext_t, len_9, ofc_encOw, ofc0_encOw, st_Ow, fld_Ow_kind, fld_Ow_name, fld_Ow_uid, fld_Ow_ctl, fld_Ow_blk, prt_Ow_kind, prt_Ow_name, prt_Ow_uid, prt_Ow_ctl, prt_Ow_blk, ofc_encMg, ofc0_encMg, st_Mg, fld_Mg_name, fld_Mg_fields, prt_Mg_name, prt_Mg_fields, ofc_encMt, ofc0_encMt, st_Mt, fld_Mt_kind, fld_Mt_ns, fld_Mt_name, fld_Mt_uid, fld_Mt_ver, fld_Mt_gen, fld_Mt_created, fld_Mt_deleting, fld_Mt_delAt, fld_Mt_labels, fld_Mt_owners, fld_Mt_fins, fld_Mt_mgrs, prt_Mt_kind, prt_Mt_ns, prt_Mt_name, prt_Mt_uid, prt_Mt_ver, prt_Mt_gen, prt_Mt_created, prt_Mt_deleting, prt_Mt_delAt, prt_Mt_labels, prt_Mt_owners, prt_Mt_fins, prt_Mt_mgrs, len_24, ia_24, len_25, ia_25, gtt_1, gff_1, gtf_1, gft_1, gvv_1, gnt_1, gnf_1, gtt_3, gff_3, gtf_3, gft_3, gvv_3, gnt_3, gnf_3, gtt_6, gff_6, gtf_6, gft_6, gvv_6, gnt_6, gnf_6, e15, e16, e10, hk, exn_0, exn_1, exn_2, exn_3, List.length_nil, eq_self_iff_true, beq_self_eq_true]
      repeat' ((first | with_reducible refine oI_decd (fun h => ?_) (fun h => ?_) | with_reducible refine gdt_1 (fun h => ?_) (fun h => ?_) | with_reducible refine gdt_3 (fun h => ?_) (fun h => ?_) | with_reducible refine gdt_6 (fun h => ?_) (fun h => ?_) | with_reducible refine gdf_1 (fun h => ?_) (fun h => ?_) | with_reducible refine gdf_3 (fun h => ?_) (fun h => ?_) | with_reducible refine gdf_6 (fun h => ?_) (fun h => ?_) | with_reducible refine gbt_1 (fun h => ?_) (fun h => ?_) | with_reducible refine gbt_3 (fun h => ?_) (fun h => ?_) | with_reducible refine gbt_6 (fun h => ?_) (fun h => ?_) | with_reducible refine gbf_1 (fun h => ?_) (fun h => ?_) | with_reducible refine gbf_3 (fun h => ?_) (fun h => ?_) | with_reducible refine gbf_6 (fun h => ?_) (fun h => ?_) | with_reducible refine oI_bool (fun h => ?_) (fun h => ?_)) <;> try simp (disch := first | omega | exact hk _ | exact hv _ | exact hn _ | exact hf _ | assumption | exact clen_Lb | exact clen_Ow | exact clen_Mg | exact clen_Mt | exact scell | (simp only [clen_Lb, clen_Ow, clen_Mg, clen_Mt]; omega)) only [h, Nat.zero_add, oV_some', oN_eq, oM_some, oH_some, oD_some, oE_some, oS_eq, oT_true, oI_true, oI_false, pick_t, pick_f, un_not, oI_not, decide_not, toNat_sub1, toNat_add1, decide_true, decide_false, not_true, not_false_eq_true, Bool.not_true, Bool.not_false, Bool.not_not, oZ_b, oZ_i, oZ_s, oZ_l, slen_map, wr64, Int.toNat_natCast, Int.toNat_zero, ne_eq, bin_gt, b_sgt, bin_eq, b_snil, beq_4, bin_ne, b_snnil, bne_4, ext_t, len_9, ofc_encOw, ofc0_encOw, st_Ow, fld_Ow_kind, fld_Ow_name, fld_Ow_uid, fld_Ow_ctl, fld_Ow_blk, prt_Ow_kind, prt_Ow_name, prt_Ow_uid, prt_Ow_ctl, prt_Ow_blk, ofc_encMg, ofc0_encMg, st_Mg, fld_Mg_name, fld_Mg_fields, prt_Mg_name, prt_Mg_fields, ofc_encMt, ofc0_encMt, st_Mt, fld_Mt_kind, fld_Mt_ns, fld_Mt_name, fld_Mt_uid, fld_Mt_ver, fld_Mt_gen, fld_Mt_created, fld_Mt_deleting, fld_Mt_delAt, fld_Mt_labels, fld_Mt_owners, fld_Mt_fins, fld_Mt_mgrs, prt_Mt_kind, prt_Mt_ns, prt_Mt_name, prt_Mt_uid, prt_Mt_ver, prt_Mt_gen, prt_Mt_created, prt_Mt_deleting, prt_Mt_delAt, prt_Mt_labels, prt_Mt_owners, prt_Mt_fins, prt_Mt_mgrs, len_24, ia_24, len_25, ia_25, gtt_1, gff_1, gtf_1, gft_1, gvv_1, gnt_1, gnf_1, gtt_3, gff_3, gtf_3, gft_3, gvv_3, gnt_3, gnf_3, gtt_6, gff_6, gtf_6, gft_6, gvv_6, gnt_6, gnf_6, e15, e16, e10, hk, exn_0, exn_1, exn_2, exn_3, List.length_nil, eq_self_iff_true, beq_self_eq_true])
    | some x =>
      obtain ⟨a, b, c⟩ := x
      obtain ⟨k1, k2⟩ := keyOf3_some hk
      have kl := congrArg List.length k1
      have l1 : a.length ≤ 140737488351232 := by simp [key3] at kl; omega
      have l2 : b.length ≤ 140737488351232 := by simp [key3] at kl; omega
      have l3 : c.length ≤ 140737488351232 := by simp [key3] at kl; omega
      simp (disch := first | omega | exact hk _ | exact hv _ | exact hn _ | exact hf _ | assumption | exact clen_Lb | exact clen_Ow | exact clen_Mg | exact clen_Mt | exact scell | (simp only [clen_Lb, clen_Ow, clen_Mg, clen_Mt]; omega)) only [Nat.zero_add, oV_some', oN_eq, oM_some, oH_some, oD_some, oE_some, oS_eq, oT_true, oI_true, oI_false, pick_t, pick_f, un_not, oI_not, decide_not, toNat_sub1, toNat_add1, decide_true, decide_false, not_true, not_false_eq_true, Bool.not_true, Bool.not_false, Bool.not_not, oZ_b, oZ_i, oZ_s, oZ_l, slen_map, wr64, Int.toNat_natCast, Int.toNat_zero, ne_eq, bin_gt, b_sgt, bin_eq, b_snil, beq_4, bin_ne, b_snnil, bne_4, ext_t, len_9, ofc_encOw, ofc0_encOw, st_Ow, fld_Ow_kind, fld_Ow_name, fld_Ow_uid, fld_Ow_ctl, fld_Ow_blk, prt_Ow_kind, prt_Ow_name, prt_Ow_uid, prt_Ow_ctl, prt_Ow_blk, ofc_encMg, ofc0_encMg, st_Mg, fld_Mg_name, fld_Mg_fields, prt_Mg_name, prt_Mg_fields, ofc_encMt, ofc0_encMt, st_Mt, fld_Mt_kind, fld_Mt_ns, fld_Mt_name, fld_Mt_uid, fld_Mt_ver, fld_Mt_gen, fld_Mt_created, fld_Mt_deleting, fld_Mt_delAt, fld_Mt_labels, fld_Mt_owners, fld_Mt_fins, fld_Mt_mgrs, prt_Mt_kind, prt_Mt_ns, prt_Mt_name, prt_Mt_uid, prt_Mt_ver, prt_Mt_gen, prt_Mt_created, prt_Mt_deleting, prt_Mt_delAt, prt_Mt_labels, prt_Mt_owners, prt_Mt_fins, prt_Mt_mgrs, len_24, ia_24, len_25, ia_25, gtt_1, gff_1, gtf_1, gft_1, gvv_1, gnt_1, gnf_1, gtt_3, gff_3, gtf_3, gft_3, gvv_3, gnt_3, gnf_3, gtt_6, gff_6, gtf_6, gft_6, gvv_6, gnt_6, gnf_6, e15, e16, e10, e17, hk, k1, ex_0, ex_1, ex_2, ex_3, b_seq, b_sne, eq_self_iff_true, beq_self_eq_true]
      repeat' ((first | with_reducible refine oI_decd (fun h => ?_) (fun h => ?_) | with_reducible refine gdt_1 (fun h => ?_) (fun h => ?_) | with_reducible refine gdt_3 (fun h => ?_) (fun h => ?_) | with_reducible refine gdt_6 (fun h => ?_) (fun h => ?_) | with_reducible refine gdf_1 (fun h => ?_) (fun h => ?_) | with_reducible refine gdf_3 (fun h => ?_) (fun h => ?_) | with_reducible refine gdf_6 (fun h => ?_) (fun h => ?_) | with_reducible refine gbt_1 (fun h => ?_) (fun h => ?_) | with_reducible refine gbt_3 (fun h => ?_) (fun h => ?_) | with_reducible refine gbt_6 (fun h => ?_) (fun h => ?_) | with_reducible refine gbf_1 (fun h => ?_) (fun h => ?_) | with_reducible refine gbf_3 (fun h => ?_) (fun h => ?_) | with_reducible refine gbf_6 (fun h => ?_) (fun h => ?_) | with_reducible refine oI_bool (fun h => ?_) (fun h => ?_)) <;> try simp (disch := first | omega | exact hk _ | exact hv _ | exact hn _ | exact hf _ | assumption | exact clen_Lb | exact clen_Ow | exact clen_Mg | exact clen_Mt | exact scell | (simp only [clen_Lb, clen_Ow, clen_Mg, clen_Mt]; omega)) only [h, Nat.zero_add, oV_some', oN_eq, oM_some, oH_some, oD_some, oE_some, oS_eq, oT_true, oI_true, oI_false, pick_t, pick_f, un_not, oI_not, decide_not, toNat_sub1, toNat_add1, decide_true, decide_false, not_true, not_false_eq_true, Bool.not_true, Bool.not_false, Bool.not_not, oZ_b, oZ_i, oZ_s, oZ_l, slen_map, wr64, Int.toNat_natCast, Int.toNat_zero, ne_eq, bin_gt, b_sgt, bin_eq, b_snil, beq_4, bin_ne, b_snnil, bne_4, ext_t, len_9, ofc_encOw, ofc0_encOw, st_Ow, fld_Ow_kind, fld_Ow_name, fld_Ow_uid, fld_Ow_ctl, fld_Ow_blk, prt_Ow_kind, prt_Ow_name, prt_Ow_uid, prt_Ow_ctl, prt_Ow_blk, ofc_encMg, ofc0_encMg, st_Mg, fld_Mg_name, fld_Mg_fields, prt_Mg_name, prt_Mg_fields, ofc_encMt, ofc0_encMt, st_Mt, fld_Mt_kind, fld_Mt_ns, fld_Mt_name, fld_Mt_uid, fld_Mt_ver, fld_Mt_gen, fld_Mt_created, fld_Mt_deleting, fld_Mt_delAt, fld_Mt_labels, fld_Mt_owners, fld_Mt_fins, fld_Mt_mgrs, prt_Mt_kind, prt_Mt_ns, prt_Mt_name, prt_Mt_uid, prt_Mt_ver, prt_Mt_gen, prt_Mt_created, prt_Mt_deleting, prt_Mt_delAt, prt_Mt_labels, prt_Mt_owners, prt_Mt_fins, prt_Mt_mgrs, len_24, ia_24, len_25, ia_25, gtt_1, gff_1, gtf_1, gft_1, gvv_1, gnt_1, gnf_1, gtt_3, gff_3, gtf_3, gft_3, gvv_3, gnt_3, gnf_3, gtt_6, gff_6, gtf_6, gft_6, gvv_6, gnt_6, gnf_6, e15, e16, e10, e17, hk, k1, ex_0, ex_1, ex_2, ex_3, b_seq, b_sne, eq_self_iff_true, beq_self_eq_true])
  · simp (disch := first | omega | exact hk _ | exact hv _ | exact hn _ | exact hf _ | assumption | exact clen_Lb | exact clen_Ow | exact clen_Mg | exact clen_Mt | exact scell | (simp only [clen_Lb, clen_Ow, clen_Mg, clen_Mt]; omega)) only [Nat.zero_add, oV_some', oN_eq, oM_some, oH_some, oD_some, oE_some, oS_eq, oT_true, oI_true, oI_false, pick_t, pick_f, un_not, oI_not, decide_not, toNat_sub1, toNat_add1, decide_true, decide_false, not_true, not_false_eq_true, Bool.not_true, Bool.not_false, Bool.not_not, oZ_b, oZ_i, oZ_s, oZ_l, slen_map, wr64, Int.toNat_natCast, Int.toNat_zero, ne_eq, bin_gt, b_sgt, bin_eq, b_snil, beq_4, bin_ne, b_snnil, bne_4, ext_t, len_9, ofc_encOw, ofc0_encOw, st_Ow, fld_Ow_kind, fld_Ow_name, fld_Ow_uid, fld_Ow_ctl, fld_Ow_blk, prt_Ow_kind, prt_Ow_name, prt_Ow_uid, prt_Ow_ctl, prt_Ow_blk, ofc_encMg, ofc0_encMg, st_Mg, fld_Mg_name, fld_Mg_fields, prt_Mg_name, prt_Mg_fields, ofc_encMt, ofc0_encMt, st_Mt, fld_Mt_kind, fld_Mt_ns, fld_Mt_name, fld_Mt_uid, fld_Mt_ver, fld_Mt_gen, fld_Mt_created, fld_Mt_deleting, fld_Mt_delAt, fld_Mt_labels, fld_Mt_owners, fld_Mt_fins, fld_Mt_mgrs, prt_Mt_kind, prt_Mt_ns, prt_Mt_name, prt_Mt_uid, prt_Mt_ver, prt_Mt_gen, prt_Mt_created, prt_Mt_deleting, prt_Mt_delAt, prt_Mt_labels, prt_Mt_owners, prt_Mt_fins, prt_Mt_mgrs, len_24, ia_24, len_25, ia_25, gtt_1, gff_1, gtf_1, gft_1, gvv_1, gnt_1, gnf_1, gtt_3, gff_3, gtf_3, gft_3, gvv_3, gnt_3, gnf_3, gtt_6, gff_6, gtf_6, gft_6, gvv_6, gnt_6, gnf_6, e10]
    refine oI_decd (fun h => ?_) (fun h => ?_)
    · simp (disch := first | omega | exact hk _ | exact hv _ | exact hn _ | exact hf _ | assumption | exact clen_Lb | exact clen_Ow | exact clen_Mg | exact clen_Mt | exact scell | (simp only [clen_Lb, clen_Ow, clen_Mg, clen_Mt]; omega)) only [Nat.zero_add, oV_some', oN_eq, oM_some, oH_some, oD_some, oE_some, oS_eq, oT_true, oI_true, oI_false, pick_t, pick_f, un_not, oI_not, decide_not, toNat_sub1, toNat_add1, decide_true, decide_false, not_true, not_false_eq_true, Bool.not_true, Bool.not_false, Bool.not_not, oZ_b, oZ_i, oZ_s, oZ_l, slen_map, wr64, Int.toNat_natCast, Int.toNat_zero, ne_eq, bin_gt, b_sgt, bin_eq, b_snil, beq_4, bin_ne, b_snnil, bne_4, ext_t, len_9, ofc_encOw, ofc0_encOw, st_Ow, fld_Ow_kind, fld_Ow_name, fld_Ow_uid, fld_Ow_ctl, fld_Ow_blk, prt_Ow_kind, prt_Ow_name, prt_Ow_uid, prt_Ow_ctl, prt_Ow_blk, ofc_encMg, ofc0_encMg, st_Mg, fld_Mg_name, fld_Mg_fields, prt_Mg_name, prt_Mg_fields, ofc_encMt, ofc0_encMt, st_Mt, fld_Mt_kind, fld_Mt_ns, fld_Mt_name, fld_Mt_uid, fld_Mt_ver, fld_Mt_gen, fld_Mt_created, fld_Mt_deleting, fld_Mt_delAt, fld_Mt_labels, fld_Mt_owners, fld_Mt_fins, fld_Mt_mgrs, prt_Mt_kind, prt_Mt_ns, prt_Mt_name, prt_Mt_uid, prt_Mt_ver, prt_Mt_gen, prt_Mt_created, prt_Mt_deleting, prt_Mt_delAt, prt_Mt_labels, prt_Mt_owners, prt_Mt_fins, prt_Mt_mgrs, len_24, ia_24, len_25, ia_25, gtt_1, gff_1, gtf_1, gft_1, gvv_1, gnt_1, gnf_1, gtt_3, gff_3, gtf_3, gft_3, gvv_3, gnt_3, gnf_3, gtt_6, gff_6, gtf_6, gft_6, gvv_6, gnt_6, gnf_6, e10]
    · exfalso; omega
theorem law_MetaSplit (s : List UInt8) (hs : s.length ≤ 140737488351232) : R T0 4 [.s s] (.b true) := c4 s hs
end Go.Proofs.YtpnoongjaehmlaaDoor.Ev
