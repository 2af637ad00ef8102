/- What Split, both sides, and Key answer. -/
import Derived.Test.YtpnoongjaehmlaaDoorV4
import Derived.Lib.Bytealg
namespace Go.Proofs.YtpnoongjaehmlaaDoor.Ev
open Go Go.RowKit
set_option linter.unusedSimpArgs false
set_option linter.unusedVariables false
set_option maxRecDepth 100000

theorem R.prim {T : Tab} {f : Nat} {args : List AV} {r : AV} {g : List AV → Option AV} (h1 : T.prim f = some g) (h2 : g args = some r) : R T f args r :=
  ⟨1, fun σ => by unfold evCall; simp only [h1, h2]⟩
/-- The parts between slashes. -/
def pieces : List UInt8 → List (List UInt8)
  | [] => [[]]
  | c :: s => if c = 47 then [] :: pieces s else match pieces s with
    | p :: ps => (c :: p) :: ps
    | [] => [[c]]
theorem pieces_none : ∀ {s : List UInt8}, Lib.indexByte s 47 = -1 → pieces s = [s] ∧ Lib.countByte s 47 = 0
  | [], _ => ⟨rfl, rfl⟩
  | c :: s, h => by
    unfold Lib.indexByte at h
    by_cases hc : c = 47
    · subst hc; simp at h
    · have hb : (c == 47) = false := by simpa using hc
      rw [hb] at h
      have hge := Lib.indexByte_ge s 47
      have : Lib.indexByte s 47 = -1 := by
        by_cases q : Lib.indexByte s 47 = -1
        · exact q
        · simp [q] at h; omega
      obtain ⟨p1, p2⟩ := pieces_none this
      refine ⟨?_, ?_⟩
      · unfold pieces; rw [if_neg hc, p1]
      · unfold Lib.countByte at p2 ⊢
        rw [List.count_cons, p2, hb]; rfl
theorem pieces_some : ∀ {s : List UInt8} {i : Nat}, Lib.indexByte s 47 = i → pieces s = s.take i :: pieces (s.drop (i + 1)) ∧ Lib.countByte s 47 = Lib.countByte (s.drop (i + 1)) 47 + 1 ∧ i < s.length
  | [], i, h => by unfold Lib.indexByte at h; omega
  | c :: s, i, h => by
    unfold Lib.indexByte at h
    by_cases hc : c = 47
    · subst hc
      simp at h
      obtain rfl : i = 0 := by omega
      refine ⟨?_, ?_, by simp⟩
      · conv => lhs; unfold pieces
        rw [if_pos rfl]; rfl
      · unfold Lib.countByte
        rw [List.count_cons]; rfl
    · have hb : (c == 47) = false := by simpa using hc
      rw [hb] at h
      by_cases q : Lib.indexByte s 47 = -1
      · simp [q] at h
      · simp [q] at h
        have hge := Lib.indexByte_ge s 47
        obtain ⟨j, hj⟩ : ∃ j : Nat, i = j + 1 := ⟨i - 1, by omega⟩
        subst hj
        obtain ⟨p1, p2, p3⟩ := pieces_some (s := s) (i := j) (by omega)
        refine ⟨?_, ?_, by simp only [List.length_cons]; omega⟩
        · conv => lhs; unfold pieces
          rw [if_neg hc, p1]; rfl
        · unfold Lib.countByte at p2 ⊢
          rw [List.count_cons, p2, hb]; rfl
theorem count_le (s : List UInt8) : Lib.countByte s 47 ≤ s.length := List.count_le_length
theorem c98 (s : List UInt8) : R T0 98 [.s s, .i .u8 47] (.i .i64 (Lib.indexByte s 47)) := R.prim (g := primIndexByte) (by kernel_rfl) rfl
theorem e98 {s : List UInt8} {d : Nat} {σ : AS} {K : AV → AS → Prop} : oC T0 d 98 [.s s, .i .u8 47] σ K = K (.i .i64 (Lib.indexByte s 47)) σ := (c98 s).eq d σ K
theorem c79 (s : List UInt8) : R T0 79 [.s s, .i .u8 47] (.i .i64 (Lib.countByte s 47)) := R.prim (g := primCount) (by kernel_rfl) rfl
theorem e79 {s : List UInt8} {d : Nat} {σ : AS} {K : AV → AS → Prop} : oC T0 d 79 [.s s, .i .u8 47] σ K = K (.i .i64 (Lib.countByte s 47)) σ := (c79 s).eq d σ K
theorem c88 (s : List UInt8) : R T0 88 [.s s, .i .u8 47] (.i .i64 (Lib.indexByte s 47)) := by
  refine r88 _ _ rfl rfl ?_
  unfold w88
  dsimp only [prims]
  simp only [e98, oZ_i]
theorem e88 {s : List UInt8} {d : Nat} {σ : AS} {K : AV → AS → Prop} : oC T0 d 88 [.s s, .i .u8 47] σ K = K (.i .i64 (Lib.indexByte s 47)) σ := (c88 s).eq d σ K
theorem idx47 : evIndex T0 9 (.s [47]) (.i .i64 0) = some (.i .u8 47) := by kernel_rfl
theorem len47 (h : Tr AB) : evBuiltin T0 h .len [9] [.s [47]] = some (.i .i64 1) := by rw [len_9]; rfl
theorem l47 : ([47] : List UInt8).length = 1 := rfl
theorem c1 : ((1 : Nat) : Int) = 1 := rfl
theorem c80 (s : List UInt8) : R T0 80 [.s s, .s [47]] (.i .i64 (Lib.indexByte s 47)) := by
  refine r80 _ _ rfl rfl ?_
  unfold w80
  dsimp only [prims]
  simp (disch := first | omega | exact hk _ | exact hv _ | exact hn _ | exact hf _ | assumption | exact clen_Lb | exact clen_Ow | exact clen_Mg | exact clen_Mt | exact scell | (simp only [clen_Lb, clen_Ow, clen_Mg, clen_Mt]; omega)) only [Nat.zero_add, oV_some', oN_eq, oM_some, oH_some, oD_some, oE_some, oS_eq, oT_true, oI_true, oI_false, pick_t, pick_f, un_not, oI_not, decide_not, toNat_sub1, toNat_add1, decide_true, decide_false, not_true, not_false_eq_true, Bool.not_true, Bool.not_false, Bool.not_not, oZ_b, oZ_i, oZ_s, oZ_l, slen_map, wr64, Int.toNat_natCast, Int.toNat_zero, ne_eq, bin_ge, bin_sge, bin_eq, b_snil, beq_4, len_9, idx_9, ofc_encLb, ofc0_encLb, st_Lb, fld_Lb_k, fld_Lb_v, prt_Lb_k, prt_Lb_v, ofc_encOw, ofc0_encOw, st_Ow, fld_Ow_kind, fld_Ow_name, fld_Ow_uid, fld_Ow_ctl, fld_Ow_blk, prt_Ow_kind, prt_Ow_name, prt_Ow_uid, prt_Ow_ctl, prt_Ow_blk, len_22, ia_22, len_23, ia_23, gtt_3, gff_3, gtf_3, gft_3, gvv_3, gnt_3, gnf_3, len47, l47, c1, idx47, e88, b_seq]
  repeat' ((first | with_reducible refine oI_decd (fun h => ?_) (fun h => ?_) | with_reducible refine gdt_3 (fun h => ?_) (fun h => ?_) | with_reducible refine gdf_3 (fun h => ?_) (fun h => ?_) | with_reducible refine gbt_3 (fun h => ?_) (fun h => ?_) | with_reducible refine gbf_3 (fun h => ?_) (fun h => ?_) | with_reducible refine oI_bool (fun h => ?_) (fun h => ?_)) <;> try simp (disch := first | omega | exact hk _ | exact hv _ | exact hn _ | exact hf _ | assumption | exact clen_Lb | exact clen_Ow | exact clen_Mg | exact clen_Mt | exact scell | (simp only [clen_Lb, clen_Ow, clen_Mg, clen_Mt]; omega)) only [h, Nat.zero_add, oV_some', oN_eq, oM_some, oH_some, oD_some, oE_some, oS_eq, oT_true, oI_true, oI_false, pick_t, pick_f, un_not, oI_not, decide_not, toNat_sub1, toNat_add1, decide_true, decide_false, not_true, not_false_eq_true, Bool.not_true, Bool.not_false, Bool.not_not, oZ_b, oZ_i, oZ_s, oZ_l, slen_map, wr64, Int.toNat_natCast, Int.toNat_zero, ne_eq, bin_ge, bin_sge, bin_eq, b_snil, beq_4, len_9, idx_9, ofc_encLb, ofc0_encLb, st_Lb, fld_Lb_k, fld_Lb_v, prt_Lb_k, prt_Lb_v, ofc_encOw, ofc0_encOw, st_Ow, fld_Ow_kind, fld_Ow_name, fld_Ow_uid, fld_Ow_ctl, fld_Ow_blk, prt_Ow_kind, prt_Ow_name, prt_Ow_uid, prt_Ow_ctl, prt_Ow_blk, len_22, ia_22, len_23, ia_23, gtt_3, gff_3, gtf_3, gft_3, gvv_3, gnt_3, gnf_3, len47, l47, c1, idx47, e88, b_seq])
  all_goals first
    | done
    | (exfalso; omega)
    | (subst h; rfl)
theorem e80 {s : List UInt8} {d : Nat} {σ : AS} {K : AV → AS → Prop} : oC T0 d 80 [.s s, .s [47]] σ K = K (.i .i64 (Lib.indexByte s 47)) σ := (c80 s).eq d σ K
theorem c67 (s : List UInt8) : R T0 67 [.s s, .s [47]] (.i .i64 (Lib.indexByte s 47)) := by
  refine r67 _ _ rfl rfl ?_
  unfold w67
  dsimp only [prims]
  simp only [e80, oZ_i]
theorem e67 {s : List UInt8} {d : Nat} {σ : AS} {K : AV → AS → Prop} : oC T0 d 67 [.s s, .s [47]] σ K = K (.i .i64 (Lib.indexByte s 47)) σ := (c67 s).eq d σ K
theorem c66 (s : List UInt8) : R T0 66 [.s s, .s [47]] (.i .i64 (Lib.countByte s 47)) := by
  refine r66 _ _ rfl rfl ?_
  unfold w66
  dsimp only [prims]
  simp (disch := first | omega | exact hk _ | exact hv _ | exact hn _ | exact hf _ | assumption | exact clen_Lb | exact clen_Ow | exact clen_Mg | exact clen_Mt | exact scell | (simp only [clen_Lb, clen_Ow, clen_Mg, clen_Mt]; omega)) only [Nat.zero_add, oV_some', oN_eq, oM_some, oH_some, oD_some, oE_some, oS_eq, oT_true, oI_true, oI_false, pick_t, pick_f, un_not, oI_not, decide_not, toNat_sub1, toNat_add1, decide_true, decide_false, not_true, not_false_eq_true, Bool.not_true, Bool.not_false, Bool.not_not, oZ_b, oZ_i, oZ_s, oZ_l, slen_map, wr64, Int.toNat_natCast, Int.toNat_zero, ne_eq, bin_eq, b_snil, beq_4, bin_add, len_9, idx_9, ofc_encLb, ofc0_encLb, st_Lb, fld_Lb_k, fld_Lb_v, prt_Lb_k, prt_Lb_v, ofc_encMt, ofc0_encMt, st_Mt, fld_Mt_kind, fld_Mt_ns, fld_Mt_name, fld_Mt_uid, fld_Mt_ver, fld_Mt_gen, fld_Mt_created, fld_Mt_deleting, fld_Mt_delAt, fld_Mt_labels, fld_Mt_owners, fld_Mt_fins, fld_Mt_mgrs, prt_Mt_kind, prt_Mt_ns, prt_Mt_name, prt_Mt_uid, prt_Mt_ver, prt_Mt_gen, prt_Mt_created, prt_Mt_deleting, prt_Mt_delAt, prt_Mt_labels, prt_Mt_owners, prt_Mt_fins, prt_Mt_mgrs, len_22, ia_22, len_24, ia_24, len47, l47, c1, idx47, e79]
  repeat' ((first | with_reducible refine oI_decd (fun h => ?_) (fun h => ?_)  | with_reducible refine oI_bool (fun h => ?_) (fun h => ?_)) <;> try simp (disch := first | omega | exact hk _ | exact hv _ | exact hn _ | exact hf _ | assumption | exact clen_Lb | exact clen_Ow | exact clen_Mg | exact clen_Mt | exact scell | (simp only [clen_Lb, clen_Ow, clen_Mg, clen_Mt]; omega)) only [h, Nat.zero_add, oV_some', oN_eq, oM_some, oH_some, oD_some, oE_some, oS_eq, oT_true, oI_true, oI_false, pick_t, pick_f, un_not, oI_not, decide_not, toNat_sub1, toNat_add1, decide_true, decide_false, not_true, not_false_eq_true, Bool.not_true, Bool.not_false, Bool.not_not, oZ_b, oZ_i, oZ_s, oZ_l, slen_map, wr64, Int.toNat_natCast, Int.toNat_zero, ne_eq, bin_eq, b_snil, beq_4, bin_add, len_9, idx_9, ofc_encLb, ofc0_encLb, st_Lb, fld_Lb_k, fld_Lb_v, prt_Lb_k, prt_Lb_v, ofc_encMt, ofc0_encMt, st_Mt, fld_Mt_kind, fld_Mt_ns, fld_Mt_name, fld_Mt_uid, fld_Mt_ver, fld_Mt_gen, fld_Mt_created, fld_Mt_deleting, fld_Mt_delAt, fld_Mt_labels, fld_Mt_owners, fld_Mt_fins, fld_Mt_mgrs, prt_Mt_kind, prt_Mt_ns, prt_Mt_name, prt_Mt_uid, prt_Mt_ver, prt_Mt_gen, prt_Mt_created, prt_Mt_deleting, prt_Mt_delAt, prt_Mt_labels, prt_Mt_owners, prt_Mt_fins, prt_Mt_mgrs, len_22, ia_22, len_24, ia_24, len47, l47, c1, idx47, e79])
  all_goals first
    | done
    | (exfalso; omega)
theorem e66 {s : List UInt8} {d : Nat} {σ : AS} {K : AV → AS → Prop} : oC T0 d 66 [.s s, .s [47]] σ K = K (.i .i64 (Lib.countByte s 47)) σ := (c66 s).eq d σ K

theorem repN_one (x : AV) (n : Nat) : repN [x] n = List.replicate n x := by
  induction n with
  | zero => rfl
  | succ n ih => unfold repN; rw [ih]; rfl
theorem mk_24 {n : Nat} {m : Int} (hm : m = n) (h : n ≤ 1048576) : evMake T0 24 (.i .i64 m) (.i .i64 m) = some (.cells (List.replicate n (.s [])) 9 false, fun id => .sl id 0 n (some n)) := by
  subst hm
  have e1 : T0.ty 24 = some (.slice 9) := by kernel_rfl
  have e3 : T0.zr 9 = some (.s []) := by kernel_rfl
  have e4 : T0.by_ 9 = some 16 := by kernel_rfl
  unfold evMake
  simp only [e1, sz_9, e3, e4]
  rw [if_pos ⟨by omega, by omega, by omega, by omega⟩]
  simp only [Int.toNat_natCast, AV.cells, repN_one]
theorem ia_own {id n : Nat} {cap : Option Nat} {j : Nat} (h : j < n) : evIndexAddr T0 24 (.sl id 0 n cap) (.i .i64 j) = some (.ptr id j) := by
  have e1 : T0.ty 24 = some (.slice 9) := by kernel_rfl
  unfold evIndexAddr
  simp only [e1, sz_9]
  rw [if_pos ⟨by omega, by omega⟩]
  simp
theorem set_one {α : Type} : ∀ (cs : List α) (j : Nat) (v : α), j < cs.length → setN cs j [v] = some (cs.set j v)
  | c :: cs, 0, v, _ => by simp [setN]
  | c :: cs, j + 1, v, h => by simp only [setN, set_one cs j v (by simpa using h)]; rfl
theorem st_own {h : Tr AB} {id j : Nat} {cs : List AV} {x : List UInt8} (hg : h.get id = some (.cells cs 9 false)) (hj : j < cs.length) : evStore T0 h 9 (.ptr id j) (.s x) = some (h.put id (some (.cells (cs.set j (.s x)) 9 false))) :=
  store_p sz_9 hg rfl rfl (set_one cs j _ hj)
theorem rows_set (ps : List (List UInt8)) (x : List UInt8) (n : Nat) (hn : ps.length < n) : (ps.map AV.s ++ List.replicate (n - ps.length) (AV.s [])).set ps.length (AV.s x) = (ps ++ [x]).map AV.s ++ List.replicate (n - (ps ++ [x]).length) (AV.s []) := by
  obtain ⟨k, hk⟩ : ∃ k, n - ps.length = k + 1 := ⟨n - ps.length - 1, by omega⟩
  rw [hk, List.set_append_right _ _ (by simp), List.length_map, Nat.sub_self, List.replicate_succ, List.set_cons_zero, List.map_append, List.append_assoc]
  have e : n - (ps ++ [x]).length = k := by rw [List.length_append, List.length_singleton]; omega
  rw [e]; rfl
theorem mapO_s (T : Tab) (h : Tr AB) (k : Nat) (l : List (List UInt8)) : mapO (fz T h (k + 1)) (l.map AV.s) = some (l.map AV.s) := by
  induction l with
  | nil => rfl
  | cons a l ih => simp only [List.map_cons, mapO, ih]; rfl
theorem chunk_s (l : List (List UInt8)) : chunkE false 1 l.length (l.map AV.s) = some (l.map AV.s) := by
  induction l with
  | nil => rfl
  | cons a l ih => simp only [List.map_cons, List.length_cons, chunkE, AV.leaf, List.drop_succ_cons, List.drop_zero, ih]
theorem takeN_app {α : Type} (a b : List α) : takeN a.length (a ++ b) = some a := by
  induction a with
  | nil => rfl
  | cons x a ih => simp only [List.length_cons, List.cons_append, takeN, ih]; rfl
/-- What a row of strings of the call's own is, handed out. -/
theorem oZ_own {σ : AS} {id : Nat} {l : List (List UInt8)} {r : List AV} {n : Nat} {cap : Option Nat} {K : AV → Prop} (hn : n = l.length) (hg : σ.h.get id = some (.cells (l.map AV.s ++ r) 9 false)) (hK : K (.lst (l.map AV.s))) : oZ T0 σ (.sl id 0 n cap) K := by
  subst hn
  have e1 : T0.ty 9 = some .string := by kernel_rfl
  refine ⟨3, _, ?_, hK⟩
  unfold fz
  simp only [AV.idfree, hg, sz_9, e1, List.drop_zero]
  have := takeN_app (l.map AV.s) r
  rw [List.length_map] at this
  rw [Nat.zero_add, Nat.mul_one, this]
  simp only [mapO_s, isAggT, chunk_s]
  rfl
theorem sl_own {id n : Nat} {k : Int} {m : Nat} (hk : k = m) (h : m ≤ n) : evSlice T0 24 (.sl id 0 n (some n)) none (some (.i .i64 k)) none = some (.sl id 0 m (some n)) := by
  subst hk
  have e1 : T0.ty 24 = some (.slice 9) := by kernel_rfl
  have hb : Nat.ble m n = true := Nat.ble_eq_true_of_le h
  simp [evSlice, e1, sz_9, bounds3, bnd0, bnd, h]
theorem sl_to {s : List UInt8} {k : Int} {i : Nat} (hk : k = i) (h : i ≤ s.length) : evSlice T0 9 (.s s) none (some (.i .i64 k)) none = some (.s (s.take i)) := by
  subst hk
  have e1 : T0.ty 9 = some .string := by kernel_rfl
  simp [evSlice, e1, bounds3, bnd0, bnd, h]
theorem sl_from {s : List UInt8} {k : Int} {i : Nat} (hk : k = i) (h : i ≤ s.length) : evSlice T0 9 (.s s) (some (.i .i64 k)) none none = some (.s (s.drop i)) := by
  subst hk
  have e1 : T0.ty 9 = some .string := by kernel_rfl
  simp [evSlice, e1, bounds3, bnd0, bnd, h]
  rw [List.take_of_length_le (by simp)]
theorem c57 (s : List UInt8) (hs : s.length ≤ 300) : R T0 57 [.s s, .s [47], .i .i64 0, .i .i64 (-1)] (.lst ((pieces s).map AV.s)) := by
  have hc := count_le s
  refine r57 _ _ _ _ rfl rfl ?_
  unfold w57
  dsimp only [prims]
  have hm1 : min (((Lib.countByte s 47 : Nat) : Int) + 1) ((s.length : Int) + 1) = ((Lib.countByte s 47 : Nat) : Int) + 1 := by omega
  have hm2 : ((Lib.countByte s 47 : Nat) : Int) + 1 - 1 = ((Lib.countByte s 47 : Nat) : Int) := by omega
  simp (disch := first | omega | exact hk _ | exact hv _ | exact hn _ | exact hf _ | assumption | exact clen_Lb | exact clen_Ow | exact clen_Mg | exact clen_Mt | exact scell | (simp only [clen_Lb, clen_Ow, clen_Mg, clen_Mt]; omega)) only [Nat.zero_add, oV_some', oN_eq, oM_some, oH_some, oD_some, oE_some, oS_eq, oT_true, oI_true, oI_false, pick_t, pick_f, un_not, oI_not, decide_not, toNat_sub1, toNat_add1, decide_true, decide_false, not_true, not_false_eq_true, Bool.not_true, Bool.not_false, Bool.not_not, oZ_b, oZ_i, oZ_s, oZ_l, slen_map, wr64, Int.toNat_natCast, Int.toNat_zero, ne_eq, bin_lt, bin_slt, bin_eq, b_snil, beq_4, bin_add, bin_sub, min5, len_9, ofc_encLb, ofc0_encLb, st_Lb, fld_Lb_k, fld_Lb_v, prt_Lb_k, prt_Lb_v, ofc_encOw, ofc0_encOw, st_Ow, fld_Ow_kind, fld_Ow_name, fld_Ow_uid, fld_Ow_ctl, fld_Ow_blk, prt_Ow_kind, prt_Ow_name, prt_Ow_uid, prt_Ow_ctl, prt_Ow_blk, ofc_encMg, ofc0_encMg, st_Mg, fld_Mg_name, fld_Mg_fields, prt_Mg_name, prt_Mg_fields, ofc_encMt, ofc0_encMt, st_Mt, fld_Mt_kind, fld_Mt_ns, fld_Mt_name, fld_Mt_uid, fld_Mt_ver, fld_Mt_gen, fld_Mt_created, fld_Mt_deleting, fld_Mt_delAt, fld_Mt_labels, fld_Mt_owners, fld_Mt_fins, fld_Mt_mgrs, prt_Mt_kind, prt_Mt_ns, prt_Mt_name, prt_Mt_uid, prt_Mt_ver, prt_Mt_gen, prt_Mt_created, prt_Mt_deleting, prt_Mt_delAt, prt_Mt_labels, prt_Mt_owners, prt_Mt_fins, prt_Mt_mgrs, len_23, ia_23, len_24, ia_24, join3_eq, join4_eq, len47, l47, c1, e66, min_i, hm1, hm2, mk_24 (n := Lib.countByte s 47 + 1)]
  repeat' ((first | with_reducible refine oI_decd (fun h => ?_) (fun h => ?_)  | with_reducible refine oI_bool (fun h => ?_) (fun h => ?_)) <;> try simp (disch := first | omega | exact hk _ | exact hv _ | exact hn _ | exact hf _ | assumption | exact clen_Lb | exact clen_Ow | exact clen_Mg | exact clen_Mt | exact scell | (simp only [clen_Lb, clen_Ow, clen_Mg, clen_Mt]; omega)) only [h, Nat.zero_add, oV_some', oN_eq, oM_some, oH_some, oD_some, oE_some, oS_eq, oT_true, oI_true, oI_false, pick_t, pick_f, un_not, oI_not, decide_not, toNat_sub1, toNat_add1, decide_true, decide_false, not_true, not_false_eq_true, Bool.not_true, Bool.not_false, Bool.not_not, oZ_b, oZ_i, oZ_s, oZ_l, slen_map, wr64, Int.toNat_natCast, Int.toNat_zero, ne_eq, bin_lt, bin_slt, bin_eq, b_snil, beq_4, bin_add, bin_sub, min5, len_9, ofc_encLb, ofc0_encLb, st_Lb, fld_Lb_k, fld_Lb_v, prt_Lb_k, prt_Lb_v, ofc_encOw, ofc0_encOw, st_Ow, fld_Ow_kind, fld_Ow_name, fld_Ow_uid, fld_Ow_ctl, fld_Ow_blk, prt_Ow_kind, prt_Ow_name, prt_Ow_uid, prt_Ow_ctl, prt_Ow_blk, ofc_encMg, ofc0_encMg, st_Mg, fld_Mg_name, fld_Mg_fields, prt_Mg_name, prt_Mg_fields, ofc_encMt, ofc0_encMt, st_Mt, fld_Mt_kind, fld_Mt_ns, fld_Mt_name, fld_Mt_uid, fld_Mt_ver, fld_Mt_gen, fld_Mt_created, fld_Mt_deleting, fld_Mt_delAt, fld_Mt_labels, fld_Mt_owners, fld_Mt_fins, fld_Mt_mgrs, prt_Mt_kind, prt_Mt_ns, prt_Mt_name, prt_Mt_uid, prt_Mt_ver, prt_Mt_gen, prt_Mt_created, prt_Mt_deleting, prt_Mt_delAt, prt_Mt_labels, prt_Mt_owners, prt_Mt_fins, prt_Mt_mgrs, len_23, ia_23, len_24, ia_24, join3_eq, join4_eq, len47, l47, c1, e66, min_i, hm1, hm2, mk_24 (n := Lib.countByte s 47 + 1)])
  all_goals first
    | (exfalso; omega)
    | skip
  refine loop6 (X := List (List UInt8) × List UInt8) (fun x => .i .i64 (x.1.length : Nat)) (fun _ => .sl 0 0 (Lib.countByte s 47 + 1) (some (Lib.countByte s 47 + 1))) (fun x => .s x.2) (fun _ => .s [47]) (fun _ => .i .i64 0) (fun _ => .i .i64 (Lib.countByte s 47 : Nat))
    (fun x σ => pieces s = x.1 ++ pieces x.2 ∧ x.1.length + Lib.countByte x.2 47 = Lib.countByte s 47 ∧ x.2.length ≤ s.length ∧ σ.h.get 0 = some (.cells (x.1.map AV.s ++ List.replicate (Lib.countByte s 47 + 1 - x.1.length) (AV.s [])) 9 false)) (fun x => x.2.length) ?_ ([], s) _ ⟨rfl, by simp, Nat.le_refl _, get_put_same _ _ _⟩
  rintro R ⟨ps, t⟩ σ ⟨hp, hq, hl, hg⟩ hR
  simp only at hp hq hl hg
  have hcl : (ps.map AV.s ++ List.replicate (Lib.countByte s 47 + 1 - ps.length) (AV.s [])).length = Lib.countByte s 47 + 1 := by simp; omega
  have hsr := rows_set ps t (Lib.countByte s 47 + 1) (by omega)
  have fin : ∀ (K : AV → Prop), Lib.countByte t 47 = 0 → pieces t = [t] → K (.lst ((pieces s).map AV.s)) → oZ T0 ⟨σ.h.put 0 (some (.cells ((ps ++ [t]).map AV.s ++ List.replicate (Lib.countByte s 47 + 1 - (ps ++ [t]).length) (AV.s [])) 9 false)), σ.n⟩ (.sl 0 0 (ps.length + 1) (some (Lib.countByte s 47 + 1))) K := by
    intro K h1 h2 h3
    rw [h2] at hp
    exact oZ_own (l := ps ++ [t]) (by simp) (get_put_same _ _ _) (by rw [← hp]; exact h3)
  have hge := Lib.indexByte_ge t 47
  simp (disch := first | omega | exact hk _ | exact hv _ | exact hn _ | exact hf _ | assumption | exact clen_Lb | exact clen_Ow | exact clen_Mg | exact clen_Mt | exact scell | (simp only [clen_Lb, clen_Ow, clen_Mg, clen_Mt]; omega)) only [Nat.zero_add, oV_some', oN_eq, oM_some, oH_some, oD_some, oE_some, oS_eq, oT_true, oI_true, oI_false, pick_t, pick_f, un_not, oI_not, decide_not, toNat_sub1, toNat_add1, decide_true, decide_false, not_true, not_false_eq_true, Bool.not_true, Bool.not_false, Bool.not_not, oZ_b, oZ_i, oZ_s, oZ_l, slen_map, wr64, Int.toNat_natCast, Int.toNat_zero, ne_eq, bin_lt, bin_slt, bin_eq, b_snil, beq_4, bin_add, bin_sub, min5, len_9, ofc_encLb, ofc0_encLb, st_Lb, fld_Lb_k, fld_Lb_v, prt_Lb_k, prt_Lb_v, ofc_encOw, ofc0_encOw, st_Ow, fld_Ow_kind, fld_Ow_name, fld_Ow_uid, fld_Ow_ctl, fld_Ow_blk, prt_Ow_kind, prt_Ow_name, prt_Ow_uid, prt_Ow_ctl, prt_Ow_blk, ofc_encMg, ofc0_encMg, st_Mg, fld_Mg_name, fld_Mg_fields, prt_Mg_name, prt_Mg_fields, ofc_encMt, ofc0_encMt, st_Mt, fld_Mt_kind, fld_Mt_ns, fld_Mt_name, fld_Mt_uid, fld_Mt_ver, fld_Mt_gen, fld_Mt_created, fld_Mt_deleting, fld_Mt_delAt, fld_Mt_labels, fld_Mt_owners, fld_Mt_fins, fld_Mt_mgrs, prt_Mt_kind, prt_Mt_ns, prt_Mt_name, prt_Mt_uid, prt_Mt_ver, prt_Mt_gen, prt_Mt_created, prt_Mt_deleting, prt_Mt_delAt, prt_Mt_labels, prt_Mt_owners, prt_Mt_fins, prt_Mt_mgrs, len_23, ia_23, len_24, ia_24, join3_eq, join4_eq, e67]
  refine oI_decd (fun h => ?_) (fun h => ?_)
  · -- there is one more
    by_cases q : Lib.indexByte t 47 = -1
    · obtain ⟨p1, p2⟩ := pieces_none q
      exfalso; omega
    · obtain ⟨i, hi⟩ : ∃ i : Nat, Lib.indexByte t 47 = i := ⟨(Lib.indexByte t 47).toNat, by omega⟩
      obtain ⟨p1, p2, p3⟩ := pieces_some hi
      have hst := st_own (x := t.take i) (j := ps.length) hg (by omega)
      rw [rows_set ps (t.take i) (Lib.countByte s 47 + 1) (by omega)] at hst
      have e1 : ((ps.length : Nat) : Int) + 1 = (((ps ++ [t.take i]).length : Nat) : Int) := by simp
      simp (disch := first | omega | exact hk _ | exact hv _ | exact hn _ | exact hf _ | assumption | exact clen_Lb | exact clen_Ow | exact clen_Mg | exact clen_Mt | exact scell | (simp only [clen_Lb, clen_Ow, clen_Mg, clen_Mt]; omega)) only [Nat.zero_add, oV_some', oN_eq, oM_some, oH_some, oD_some, oE_some, oS_eq, oT_true, oI_true, oI_false, pick_t, pick_f, un_not, oI_not, decide_not, toNat_sub1, toNat_add1, decide_true, decide_false, not_true, not_false_eq_true, Bool.not_true, Bool.not_false, Bool.not_not, oZ_b, oZ_i, oZ_s, oZ_l, slen_map, wr64, Int.toNat_natCast, Int.toNat_zero, ne_eq, bin_lt, bin_slt, bin_eq, b_snil, beq_4, bin_add, bin_sub, min5, len_9, ofc_encLb, ofc0_encLb, st_Lb, fld_Lb_k, fld_Lb_v, prt_Lb_k, prt_Lb_v, ofc_encOw, ofc0_encOw, st_Ow, fld_Ow_kind, fld_Ow_name, fld_Ow_uid, fld_Ow_ctl, fld_Ow_blk, prt_Ow_kind, prt_Ow_name, prt_Ow_uid, prt_Ow_ctl, prt_Ow_blk, ofc_encMg, ofc0_encMg, st_Mg, fld_Mg_name, fld_Mg_fields, prt_Mg_name, prt_Mg_fields, ofc_encMt, ofc0_encMt, st_Mt, fld_Mt_kind, fld_Mt_ns, fld_Mt_name, fld_Mt_uid, fld_Mt_ver, fld_Mt_gen, fld_Mt_created, fld_Mt_deleting, fld_Mt_delAt, fld_Mt_labels, fld_Mt_owners, fld_Mt_fins, fld_Mt_mgrs, prt_Mt_kind, prt_Mt_ns, prt_Mt_name, prt_Mt_uid, prt_Mt_ver, prt_Mt_gen, prt_Mt_created, prt_Mt_deleting, prt_Mt_delAt, prt_Mt_labels, prt_Mt_owners, prt_Mt_fins, prt_Mt_mgrs, len_23, ia_23, len_24, ia_24, join3_eq, join4_eq, e67, hi, Int.add_zero, sl_to (i := i), sl_from (i := i + 1), ia_own, hst, len47, l47, c1]
      repeat' ((first | with_reducible refine oI_decd (fun h => ?_) (fun h => ?_)  | with_reducible refine oI_bool (fun h => ?_) (fun h => ?_)) <;> try simp (disch := first | omega | exact hk _ | exact hv _ | exact hn _ | exact hf _ | assumption | exact clen_Lb | exact clen_Ow | exact clen_Mg | exact clen_Mt | exact scell | (simp only [clen_Lb, clen_Ow, clen_Mg, clen_Mt]; omega)) only [h, Nat.zero_add, oV_some', oN_eq, oM_some, oH_some, oD_some, oE_some, oS_eq, oT_true, oI_true, oI_false, pick_t, pick_f, un_not, oI_not, decide_not, toNat_sub1, toNat_add1, decide_true, decide_false, not_true, not_false_eq_true, Bool.not_true, Bool.not_false, Bool.not_not, oZ_b, oZ_i, oZ_s, oZ_l, slen_map, wr64, Int.toNat_natCast, Int.toNat_zero, ne_eq, bin_lt, bin_slt, bin_eq, b_snil, beq_4, bin_add, bin_sub, min5, len_9, ofc_encLb, ofc0_encLb, st_Lb, fld_Lb_k, fld_Lb_v, prt_Lb_k, prt_Lb_v, ofc_encOw, ofc0_encOw, st_Ow, fld_Ow_kind, fld_Ow_name, fld_Ow_uid, fld_Ow_ctl, fld_Ow_blk, prt_Ow_kind, prt_Ow_name, prt_Ow_uid, prt_Ow_ctl, prt_Ow_blk, ofc_encMg, ofc0_encMg, st_Mg, fld_Mg_name, fld_Mg_fields, prt_Mg_name, prt_Mg_fields, ofc_encMt, ofc0_encMt, st_Mt, fld_Mt_kind, fld_Mt_ns, fld_Mt_name, fld_Mt_uid, fld_Mt_ver, fld_Mt_gen, fld_Mt_created, fld_Mt_deleting, fld_Mt_delAt, fld_Mt_labels, fld_Mt_owners, fld_Mt_fins, fld_Mt_mgrs, prt_Mt_kind, prt_Mt_ns, prt_Mt_name, prt_Mt_uid, prt_Mt_ver, prt_Mt_gen, prt_Mt_created, prt_Mt_deleting, prt_Mt_delAt, prt_Mt_labels, prt_Mt_owners, prt_Mt_fins, prt_Mt_mgrs, len_23, ia_23, len_24, ia_24, join3_eq, join4_eq, e67, hi, Int.add_zero, sl_to (i := i), sl_from (i := i + 1), ia_own, hst, len47, l47, c1])
      all_goals first
        | (exfalso; omega)
        | (rw [e1]
           exact hR (ps ++ [t.take i], t.drop (i + 1)) _ ⟨by rw [hp, p1]; simp, by simp only [List.length_append, List.length_singleton]; omega, by simp only [List.length_drop]; omega, get_put_same _ _ _⟩ (by simp only [List.length_drop]; omega))
  · by_cases q : Lib.indexByte t 47 = -1
    · obtain ⟨p1, p2⟩ := pieces_none q
      have hst := st_own (x := t) (j := ps.length) hg (by omega)
      rw [hsr] at hst
      simp (disch := first | omega | exact hk _ | exact hv _ | exact hn _ | exact hf _ | assumption | exact clen_Lb | exact clen_Ow | exact clen_Mg | exact clen_Mt | exact scell | (simp only [clen_Lb, clen_Ow, clen_Mg, clen_Mt]; omega)) only [Nat.zero_add, oV_some', oN_eq, oM_some, oH_some, oD_some, oE_some, oS_eq, oT_true, oI_true, oI_false, pick_t, pick_f, un_not, oI_not, decide_not, toNat_sub1, toNat_add1, decide_true, decide_false, not_true, not_false_eq_true, Bool.not_true, Bool.not_false, Bool.not_not, oZ_b, oZ_i, oZ_s, oZ_l, slen_map, wr64, Int.toNat_natCast, Int.toNat_zero, ne_eq, bin_lt, bin_slt, bin_eq, b_snil, beq_4, bin_add, bin_sub, min5, len_9, ofc_encLb, ofc0_encLb, st_Lb, fld_Lb_k, fld_Lb_v, prt_Lb_k, prt_Lb_v, ofc_encOw, ofc0_encOw, st_Ow, fld_Ow_kind, fld_Ow_name, fld_Ow_uid, fld_Ow_ctl, fld_Ow_blk, prt_Ow_kind, prt_Ow_name, prt_Ow_uid, prt_Ow_ctl, prt_Ow_blk, ofc_encMg, ofc0_encMg, st_Mg, fld_Mg_name, fld_Mg_fields, prt_Mg_name, prt_Mg_fields, ofc_encMt, ofc0_encMt, st_Mt, fld_Mt_kind, fld_Mt_ns, fld_Mt_name, fld_Mt_uid, fld_Mt_ver, fld_Mt_gen, fld_Mt_created, fld_Mt_deleting, fld_Mt_delAt, fld_Mt_labels, fld_Mt_owners, fld_Mt_fins, fld_Mt_mgrs, prt_Mt_kind, prt_Mt_ns, prt_Mt_name, prt_Mt_uid, prt_Mt_ver, prt_Mt_gen, prt_Mt_created, prt_Mt_deleting, prt_Mt_delAt, prt_Mt_labels, prt_Mt_owners, prt_Mt_fins, prt_Mt_mgrs, len_23, ia_23, len_24, ia_24, join3_eq, join4_eq, ia_own, hst, sl_own (m := ps.length + 1)]
      exact fin _ p2 p1 rfl
    · obtain ⟨i, hi⟩ : ∃ i : Nat, Lib.indexByte t 47 = i := ⟨(Lib.indexByte t 47).toNat, by omega⟩
      obtain ⟨p1, p2, p3⟩ := pieces_some hi
      exfalso; omega
theorem e57 {s : List UInt8} (hs : s.length ≤ 300) {d : Nat} {σ : AS} {K : AV → AS → Prop} : oC T0 d 57 [.s s, .s [47], .i .i64 0, .i .i64 (-1)] σ K = K (.lst ((pieces s).map AV.s)) σ := (c57 s hs).eq d σ K
theorem c37 (s : List UInt8) (hs : s.length ≤ 300) : R T0 37 [.s s, .s [47]] (.lst ((pieces s).map AV.s)) := by
  refine r37 _ _ rfl rfl ?_
  unfold w37
  dsimp only [prims]
  simp (disch := first | omega | exact hk _ | exact hv _ | exact hn _ | exact hf _ | assumption | exact clen_Lb | exact clen_Ow | exact clen_Mg | exact clen_Mt | exact scell | (simp only [clen_Lb, clen_Ow, clen_Mg, clen_Mt]; omega)) only [Nat.zero_add, oV_some', oN_eq, oM_some, oH_some, oD_some, oE_some, oS_eq, oT_true, oI_true, oI_false, pick_t, pick_f, un_not, oI_not, decide_not, toNat_sub1, toNat_add1, decide_true, decide_false, not_true, not_false_eq_true, Bool.not_true, Bool.not_false, Bool.not_not, oZ_b, oZ_i, oZ_s, oZ_l, slen_map, wr64, Int.toNat_natCast, Int.toNat_zero, ne_eq, e57]
theorem e37 {s : List UInt8} (hs : s.length ≤ 300) {d : Nat} {σ : AS} {K : AV → AS → Prop} : oC T0 d 37 [.s s, .s [47]] σ K = K (.lst ((pieces s).map AV.s)) σ := (c37 s hs).eq d σ K
/-- The parts of a key; 'nothing' where there are not three good ones. -/
def good (a b c : List UInt8) : Bool := vkind a && vspace b && vname c
def keyOf3 (s : List UInt8) : Option (List UInt8 × List UInt8 × List UInt8) := match pieces s with
  | [a, b, c] => if good a b c then some (a, b, c) else none
  | _ => none
def keyAV : Option (List UInt8 × List UInt8 × List UInt8) → AV
  | some (a, b, c) => .tup [.s a, .s b, .s c, .b true]
  | none => .tup [.s [], .s [], .s [], .b false]
theorem pieces_len : ∀ (s : List UInt8), ∀ p ∈ pieces s, p.length ≤ s.length
  | [], p, h => by unfold pieces at h; simp at h; subst h; simp
  | c :: s, p, h => by
    have ih := pieces_len s
    unfold pieces at h
    split at h
    · rcases List.mem_cons.1 h with rfl | h
      · simp
      · have := ih p h; simp only [List.length_cons]; omega
    · split at h
      · rename_i q qs hq
        rw [hq] at ih
        rcases List.mem_cons.1 h with rfl | h
        · have := ih q List.mem_cons_self; simp only [List.length_cons]; omega
        · have := ih p (List.mem_cons_of_mem _ h); simp only [List.length_cons]; omega
      · simp at h; subst h; simp
theorem oZ_key {σ : AS} {o : Option (List UInt8 × List UInt8 × List UInt8)} {K : AV → Prop} : oZ T0 σ (keyAV o) K = K (keyAV o) := by
  cases o with
  | none => exact oZ_free rfl
  | some x => exact oZ_free rfl
theorem c15 (s : List UInt8) (hs : s.length ≤ 300) : R T0 15 [.s s] (keyAV (keyOf3 s)) := by
  have hpl := pieces_len s
  have hn : ∀ j, ((pieces s).getD j default).length ≤ 140737488351232 := fun j => by
    have := getD_all (p := fun x : List UInt8 => x.length ≤ s.length) (by simp [default]) hpl j
    exact Nat.le_trans this (by omega)
  refine r15 _ rfl rfl ?_
  unfold w15
  dsimp only [prims]
  by_cases h3 : (pieces s).length = 3
  · obtain ⟨a, b, c, he⟩ : ∃ a b c, pieces s = [a, b, c] := by
      match hp : pieces s, h3 with
      | [a, b, c], _ => exact ⟨a, b, c, rfl⟩
    have g0 : (pieces s).getD 0 default = a := by rw [he]; rfl
    have g1 : (pieces s).getD 1 default = b := by rw [he]; rfl
    have g2 : (pieces s).getD 2 default = c := by rw [he]; rfl
    have h0 := hn 0
    have h1 := hn 1
    have h2 := hn 2
    have e0 : Int.toNat 0 = 0 := rfl
    have e1 : Int.toNat 1 = 1 := rfl
    have e2 : Int.toNat 2 = 2 := rfl
    have e3 : (((pieces s).length : Nat) : Int) = 3 := by omega
    rw [g0] at h0
    rw [g1] at h1
    rw [g2] at h2
    have hk : keyOf3 s = if good a b c then some (a, b, c) else none := by unfold keyOf3; rw [he]
    rw [hk, good]
    simp (disch := first | omega | exact hk _ | exact hv _ | exact hn _ | exact hf _ | assumption | exact clen_Lb | exact clen_Ow | exact clen_Mg | exact clen_Mt | exact scell | (simp only [clen_Lb, clen_Ow, clen_Mg, clen_Mt]; omega)) only [Nat.zero_add, oV_some', oN_eq, oM_some, oH_some, oD_some, oE_some, oS_eq, oT_true, oI_true, oI_false, pick_t, pick_f, un_not, oI_not, decide_not, toNat_sub1, toNat_add1, decide_true, decide_false, not_true, not_false_eq_true, Bool.not_true, Bool.not_false, Bool.not_not, oZ_b, oZ_i, oZ_s, oZ_l, slen_map, wr64, Int.toNat_natCast, Int.toNat_zero, ne_eq, bin_ne, b_snnil, bne_4, load_get, loadB_some, get_put_same, get_put_ne, ofc_s, load_i, ofc_encLb, ofc0_encLb, st_Lb, fld_Lb_k, fld_Lb_v, prt_Lb_k, prt_Lb_v, ofc_encOw, ofc0_encOw, st_Ow, fld_Ow_kind, fld_Ow_name, fld_Ow_uid, fld_Ow_ctl, fld_Ow_blk, prt_Ow_kind, prt_Ow_name, prt_Ow_uid, prt_Ow_ctl, prt_Ow_blk, ofc_encMg, ofc0_encMg, st_Mg, fld_Mg_name, fld_Mg_fields, prt_Mg_name, prt_Mg_fields, ofc_encMt, ofc0_encMt, st_Mt, fld_Mt_kind, fld_Mt_ns, fld_Mt_name, fld_Mt_uid, fld_Mt_ver, fld_Mt_gen, fld_Mt_created, fld_Mt_deleting, fld_Mt_delAt, fld_Mt_labels, fld_Mt_owners, fld_Mt_fins, fld_Mt_mgrs, prt_Mt_kind, prt_Mt_ns, prt_Mt_name, prt_Mt_uid, prt_Mt_ver, prt_Mt_gen, prt_Mt_created, prt_Mt_deleting, prt_Mt_delAt, prt_Mt_labels, prt_Mt_owners, prt_Mt_fins, prt_Mt_mgrs, len_22, ia_22, len_23, ia_23, len_24, ia_24, len_25, ia_25, gtt_5, gff_5, gtf_5, gft_5, gvv_5, gnt_5, gnf_5, e37, e26, e27, e13, e0, e1, e2, g0, g1, g2]
    repeat' ((first | with_reducible refine oI_decd (fun h => ?_) (fun h => ?_) | with_reducible refine gdt_5 (fun h => ?_) (fun h => ?_) | with_reducible refine gdf_5 (fun h => ?_) (fun h => ?_) | with_reducible refine gbt_5 (fun h => ?_) (fun h => ?_) | with_reducible refine gbf_5 (fun h => ?_) (fun h => ?_) | with_reducible refine oI_bool (fun h => ?_) (fun h => ?_)) <;> try simp (disch := first | omega | exact hk _ | exact hv _ | exact hn _ | exact hf _ | assumption | exact clen_Lb | exact clen_Ow | exact clen_Mg | exact clen_Mt | exact scell | (simp only [clen_Lb, clen_Ow, clen_Mg, clen_Mt]; omega)) only [h, Nat.zero_add, oV_some', oN_eq, oM_some, oH_some, oD_some, oE_some, oS_eq, oT_true, oI_true, oI_false, pick_t, pick_f, un_not, oI_not, decide_not, toNat_sub1, toNat_add1, decide_true, decide_false, not_true, not_false_eq_true, Bool.not_true, Bool.not_false, Bool.not_not, oZ_b, oZ_i, oZ_s, oZ_l, slen_map, wr64, Int.toNat_natCast, Int.toNat_zero, ne_eq, bin_ne, b_snnil, bne_4, load_get, loadB_some, get_put_same, get_put_ne, ofc_s, load_i, ofc_encLb, ofc0_encLb, st_Lb, fld_Lb_k, fld_Lb_v, prt_Lb_k, prt_Lb_v, ofc_encOw, ofc0_encOw, st_Ow, fld_Ow_kind, fld_Ow_name, fld_Ow_uid, fld_Ow_ctl, fld_Ow_blk, prt_Ow_kind, prt_Ow_name, prt_Ow_uid, prt_Ow_ctl, prt_Ow_blk, ofc_encMg, ofc0_encMg, st_Mg, fld_Mg_name, fld_Mg_fields, prt_Mg_name, prt_Mg_fields, ofc_encMt, ofc0_encMt, st_Mt, fld_Mt_kind, fld_Mt_ns, fld_Mt_name, fld_Mt_uid, fld_Mt_ver, fld_Mt_gen, fld_Mt_created, fld_Mt_deleting, fld_Mt_delAt, fld_Mt_labels, fld_Mt_owners, fld_Mt_fins, fld_Mt_mgrs, prt_Mt_kind, prt_Mt_ns, prt_Mt_name, prt_Mt_uid, prt_Mt_ver, prt_Mt_gen, prt_Mt_created, prt_Mt_deleting, prt_Mt_delAt, prt_Mt_labels, prt_Mt_owners, prt_Mt_fins, prt_Mt_mgrs, len_22, ia_22, len_23, ia_23, len_24, ia_24, len_25, ia_25, gtt_5, gff_5, gtf_5, gft_5, gvv_5, gnt_5, gnf_5, e37, e26, e27, e13, e0, e1, e2, g0, g1, g2])
    all_goals first
      | (exfalso; omega)
      | (simp only [*, Bool.and_true, Bool.true_and, Bool.and_false, Bool.false_and, if_true, if_false, Bool.false_eq_true]
         exact Eq.mpr (oZ_free rfl) rfl)
  · have hk : keyOf3 s = none := by
      unfold keyOf3
      split
      · rename_i he; rw [he] at h3; simp at h3
      · rfl
    rw [hk]
    simp (disch := first | omega | exact hk _ | exact hv _ | exact hn _ | exact hf _ | assumption | exact clen_Lb | exact clen_Ow | exact clen_Mg | exact clen_Mt | exact scell | (simp only [clen_Lb, clen_Ow, clen_Mg, clen_Mt]; omega)) only [Nat.zero_add, oV_some', oN_eq, oM_some, oH_some, oD_some, oE_some, oS_eq, oT_true, oI_true, oI_false, pick_t, pick_f, un_not, oI_not, decide_not, toNat_sub1, toNat_add1, decide_true, decide_false, not_true, not_false_eq_true, Bool.not_true, Bool.not_false, Bool.not_not, oZ_b, oZ_i, oZ_s, oZ_l, slen_map, wr64, Int.toNat_natCast, Int.toNat_zero, ne_eq, bin_ne, b_snnil, bne_4, load_get, loadB_some, get_put_same, get_put_ne, ofc_s, load_i, ofc_encLb, ofc0_encLb, st_Lb, fld_Lb_k, fld_Lb_v, prt_Lb_k, prt_Lb_v, ofc_encOw, ofc0_encOw, st_Ow, fld_Ow_kind, fld_Ow_name, fld_Ow_uid, fld_Ow_ctl, fld_Ow_blk, prt_Ow_kind, prt_Ow_name, prt_Ow_uid, prt_Ow_ctl, prt_Ow_blk, ofc_encMg, ofc0_encMg, st_Mg, fld_Mg_name, fld_Mg_fields, prt_Mg_name, prt_Mg_fields, ofc_encMt, ofc0_encMt, st_Mt, fld_Mt_kind, fld_Mt_ns, fld_Mt_name, fld_Mt_uid, fld_Mt_ver, fld_Mt_gen, fld_Mt_created, fld_Mt_deleting, fld_Mt_delAt, fld_Mt_labels, fld_Mt_owners, fld_Mt_fins, fld_Mt_mgrs, prt_Mt_kind, prt_Mt_ns, prt_Mt_name, prt_Mt_uid, prt_Mt_ver, prt_Mt_gen, prt_Mt_created, prt_Mt_deleting, prt_Mt_delAt, prt_Mt_labels, prt_Mt_owners, prt_Mt_fins, prt_Mt_mgrs, len_22, ia_22, len_23, ia_23, len_24, ia_24, len_25, ia_25, gtt_5, gff_5, gtf_5, gft_5, gvv_5, gnt_5, gnf_5, e37]
    repeat' ((first | with_reducible refine oI_decd (fun h => ?_) (fun h => ?_) | with_reducible refine gdt_5 (fun h => ?_) (fun h => ?_) | with_reducible refine gdf_5 (fun h => ?_) (fun h => ?_) | with_reducible refine gbt_5 (fun h => ?_) (fun h => ?_) | with_reducible refine gbf_5 (fun h => ?_) (fun h => ?_) | with_reducible refine oI_bool (fun h => ?_) (fun h => ?_)) <;> try simp (disch := first | omega | exact hk _ | exact hv _ | exact hn _ | exact hf _ | assumption | exact clen_Lb | exact clen_Ow | exact clen_Mg | exact clen_Mt | exact scell | (simp only [clen_Lb, clen_Ow, clen_Mg, clen_Mt]; omega)) only [h, Nat.zero_add, oV_some', oN_eq, oM_some, oH_some, oD_some, oE_some, oS_eq, oT_true, oI_true, oI_false, pick_t, pick_f, un_not, oI_not, decide_not, toNat_sub1, toNat_add1, decide_true, decide_false, not_true, not_false_eq_true, Bool.not_true, Bool.not_false, Bool.not_not, oZ_b, oZ_i, oZ_s, oZ_l, slen_map, wr64, Int.toNat_natCast, Int.toNat_zero, ne_eq, bin_ne, b_snnil, bne_4, load_get, loadB_some, get_put_same, get_put_ne, ofc_s, load_i, ofc_encLb, ofc0_encLb, st_Lb, fld_Lb_k, fld_Lb_v, prt_Lb_k, prt_Lb_v, ofc_encOw, ofc0_encOw, st_Ow, fld_Ow_kind, fld_Ow_name, fld_Ow_uid, fld_Ow_ctl, fld_Ow_blk, prt_Ow_kind, prt_Ow_name, prt_Ow_uid, prt_Ow_ctl, prt_Ow_blk, ofc_encMg, ofc0_encMg, st_Mg, fld_Mg_name, fld_Mg_fields, prt_Mg_name, prt_Mg_fields, ofc_encMt, ofc0_encMt, st_Mt, fld_Mt_kind, fld_Mt_ns, fld_Mt_name, fld_Mt_uid, fld_Mt_ver, fld_Mt_gen, fld_Mt_created, fld_Mt_deleting, fld_Mt_delAt, fld_Mt_labels, fld_Mt_owners, fld_Mt_fins, fld_Mt_mgrs, prt_Mt_kind, prt_Mt_ns, prt_Mt_name, prt_Mt_uid, prt_Mt_ver, prt_Mt_gen, prt_Mt_created, prt_Mt_deleting, prt_Mt_delAt, prt_Mt_labels, prt_Mt_owners, prt_Mt_fins, prt_Mt_mgrs, len_22, ia_22, len_23, ia_23, len_24, ia_24, len_25, ia_25, gtt_5, gff_5, gtf_5, gft_5, gvv_5, gnt_5, gnf_5, e37])
    all_goals first
      | (exfalso; omega)
      | exact Eq.mpr (oZ_free rfl) rfl
end Go.Proofs.YtpnoongjaehmlaaDoor.Ev
