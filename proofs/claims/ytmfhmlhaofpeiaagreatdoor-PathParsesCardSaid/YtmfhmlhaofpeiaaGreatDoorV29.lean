/- Parse: the reference's and the program's. -/
import Derived.Test.YtmfhmlhaofpeiaaGreatDoorV28
namespace Go.Proofs.YtmfhmlhaofpeiaaGreatDoor.Ev
open Go Go.RowKit
set_option linter.unusedSimpArgs false
set_option linter.unusedVariables false
set_option maxRecDepth 100000

theorem agg_of {T : Tab} {t : Nat} (h : (T.ty t).map isAggT = some true) : ∃ d, T.ty t = some d ∧ isAggT d = true := by
  cases hq : T.ty t with
  | none => rw [hq] at h; cases h
  | some d => rw [hq] at h; exact ⟨d, rfl, by simpa using h⟩
theorem elX : El T0 encXStep 22 50 3 48 where
  ty := by kernel_rfl
  sz := by kernel_rfl
  bytes := by kernel_rfl
  zr := by kernel_rfl
  de := agg_of (by kernel_rfl)
  len := fun _ => rfl
  leaf := fun _ => rfl
  free := fun _ => rfl
  nrm := fun _ => rfl
  agg := fun _ => rfl
theorem small48 {n : Nat} (h : n ≤ 2000000) : smallN n 48 = true := by
  unfold smallN
  rw [Nat.ble_eq_true_of_le (by omega), Nat.ble_eq_true_of_le (by omega), Nat.ble_eq_true_of_le (by omega)]; rfl
abbrev OwnX (h : Tr AB) (n : Nat) (l : List XStep) (o : Option Nat) : Prop := OwnA 50 h n (l.map encXStep) o
theorem appX {h : Tr AB} {n : Nat} {l : List XStep} {o : Option Nat} (x : XStep) (ho : OwnX h n l o) (hs : l.length + 1 ≤ 2000000) :
    evAppend T0 ⟨h, n⟩ 22 22 (vOf o l.length) (.lst [encXStep x]) = some (vOf (some n) (l ++ [x]).length, ⟨(killO h o).put n (some (.cells (flatA ((l ++ [x]).map encXStep)) 50 true)), n + 1⟩) := by
  have := appA (xs := [encXStep x]) elX.rowT ho (RowE.mapE elX l) (RowE.mapE elX [x]) (by simp) (small48 (by rw [List.length_map]; simp only [List.length_cons, List.length_nil]; omega))
  rw [List.length_map] at this
  rw [this, List.map_append, List.length_append]; rfl
theorem appX_own {h : Tr AB} {n : Nat} {l : List XStep} {o : Option Nat} (x : XStep) : OwnX ((killO h o).put n (some (.cells (flatA ((l ++ [x]).map encXStep)) 50 true))) (n + 1) (l ++ [x]) (some n) :=
  ⟨by simp, Nat.lt_succ_self n, by rw [Tr.get_put, if_pos rfl]⟩
theorem ice22 (x : XStep) : evIce T0 22 1 [(0, encXStep x)] = some (.lst [encXStep x]) := by kernel_rfl
theorem lenX {h : Tr AB} {n : Nat} {l : List XStep} {o : Option Nat} (ho : OwnX h n l o) : evBuiltin T0 h .len [22] [vOf o l.length] = some (.i .i64 (l.length : Nat)) := by
  have := len_ownA elX.ty ho
  rwa [List.length_map] at this
theorem own_call {f : Nat} {r : AV} {σ : AS} {l : List XStep} {o : Option Nat} (ho : OwnX σ.h σ.n l o) (p1 : T0.prim f = none) (p2 : T0.ext f = none) (p3 : T0.opened f = false) (hfl : r.flat = true) (hR : R T0 f [.lst (l.map encXStep)] r) : Runs T0 f [vOf o l.length] σ r σ := by
  have h1 := RowE.mapE elX l
  have hf : AV.idfree.idfrees [AV.lst (l.map encXStep)] = true := by rfl
  have hn : AV.norm.norms [AV.lst (l.map encXStep)] = [.lst (l.map encXStep)] := by rfl
  cases o with
  | none =>
    have he : l.map encXStep = [] := ho
    rw [he] at hR
    exact (R.nrm (args := [.nilz true]) (args' := [.lst []]) p1 p2 p3 rfl rfl rfl hR).runs σ
  | some id =>
    have hz := fz_ownA elX.rowT h1 ho 0
    rw [List.length_map] at hz
    exact R.lent (m := 3) p1 p2 p3 rfl hf hn hfl (mapO_cons hz rfl) hR
theorem oz_own2 {σ : AS} {l : List XStep} {o : Option Nat} {k : Int} {K : AV → Prop} (ho : OwnX σ.h σ.n l o) (hK : K (.tup [.lst (l.map encXStep), .i .i64 k])) : oZ T0 σ (.tup [vOf o l.length, .i .i64 k]) K := by
  have := oZ_ownA2 (x := .i .i64 k) elX.rowT (RowE.mapE elX l) ho rfl hK
  rwa [List.length_map] at this
theorem ozn {σ : AS} {k : Int} {K : AV → Prop} : oZ T0 σ (.tup [.nilz true, .i .i64 k]) K = K (.tup [.lst [], .i .i64 k]) := oZ_free rfl
theorem st60n {h : Tr AB} {id : Nat} {y : XStep} {j : Int} {c : Bool} (x : XStep) (i : Int) (b : Bool) : evStore T0 (h.put id (some (.cells (encG y j c).cells 60 false))) 60 (.ptr id 0) (encG x i b) = some ((h.put id (some (.cells (encG y j c).cells 60 false))).put id (some (.cells (encG x i b).cells 60 false))) := store_all sz_60 rfl rfl rfl
theorem st50n {h : Tr AB} {id : Nat} {y : XStep} (x : XStep) : evStore T0 (h.put id (some (.cells (encXStep y).cells 50 false))) 50 (.ptr id 0) (encXStep x) = some ((h.put id (some (.cells (encXStep y).cells 50 false))).put id (some (.cells (encXStep x).cells 50 false))) := store_all sz_50 rfl rfl rfl
theorem ofG0 {x : XStep} {i : Int} {b : Bool} : ofCells T0 50 (List.drop 0 (encG x i b).cells) = some (encXStep x) := by rw [List.drop_zero, ofc_50]; rfl
theorem ofG4 {x : XStep} {i : Int} {b : Bool} : ofCells T0 3 (List.drop 4 (encG x i b).cells) = some (.i .i64 i) := ofc_3 _ _
theorem ofG5 {x : XStep} {i : Int} {b : Bool} : ofCells T0 4 (List.drop 5 (encG x i b).cells) = some (.b b) := ofc_4 _ _
theorem cg4 {x : XStep} {i : Int} {b : Bool} : 4 ≤ (encG x i b).cells.length := by show 4 ≤ 6; omega
theorem cg5 {x : XStep} {i : Int} {b : Bool} : 5 ≤ (encG x i b).cells.length := by show 5 ≤ 6; omega
theorem paR_none {s : List UInt8} (hl : s.length ≤ 20000) (h : paL s = none) : paR s = .tup [.lst [], .i .i64 2] := by unfold paR; rw [if_neg (by omega), h]
theorem paR_some {s : List UInt8} {l : List XStep} (hl : s.length ≤ 20000) (h : paL s = some l) : paR s = if pathB l = true then .tup [.lst (l.map encXStep), .i .i64 0] else .tup [.lst [], .i .i64 1] := by unfold paR; rw [if_neg (by omega), h]
theorem brL_suf {t r : List UInt8} {x : XStep} (h : brL t = some (x, r)) : ∃ k, r = t.drop k := by
  by_cases h0 : nmL t = 0
  · rw [brL_0 h0] at h; cases h
  · cases hd : t.drop (nmL t) with
    | nil => rw [brL_b h0 hd] at h; cases h
    | cons d r1 =>
      obtain ⟨f1, f2, f3, f4⟩ := drop_facts hd
      by_cases h1 : d.toNat = 93
      · rw [brL_i h0 hd h1] at h
        split at h
        · injection h with h; injection h with h2 h3; exact ⟨_, by rw [← h3]; exact f3.symm⟩
        · cases h
      · by_cases h2 : d.toNat = 61
        · rw [brL_q h0 hd h1 h2] at h
          cases hq : quL r1 with
          | bad => rw [hq] at h; cases h
          | op a => rw [hq] at h; cases h
          | ok a r' =>
            rw [hq] at h
            cases r' with
            | nil => cases h
            | cons c r2 =>
              simp only [] at h
              split at h
              · injection h with h; injection h with h3 h4
                rw [← f3] at hq
                have g := qu_suf hq (by rw [List.length_cons]; omega)
                exact ⟨_, by rw [← h4]; exact (drop_facts g.symm).2.2.1.symm⟩
              · cases h
        · rw [brL_e h0 hd h1 h2] at h; cases h
theorem fdL_suf {t r : List UInt8} {x : XStep} (h : fdL t = some (x, r)) : ∃ k, r = t.drop k := by
  unfold fdL at h
  split at h
  · cases h
  · injection h with h; injection h with h2 h3; exact ⟨_, h3.symm⟩
theorem stL_suf {t r : List UInt8} {b : Bool} {x : XStep} (h : stL b t = some (x, r)) : ∃ k, r = t.drop k := by
  cases t with
  | nil => cases h
  | cons c t =>
    rw [stL_c] at h
    split at h
    · obtain ⟨k, hk⟩ := brL_suf h; exact ⟨k + 1, hk⟩
    · split at h
      · exact fdL_suf h
      · split at h
        · obtain ⟨k, hk⟩ := fdL_suf h; exact ⟨k + 1, hk⟩
        · cases h
theorem isE (l : List XStep) (i : Nat) (h : l = [] ↔ i = 0) : l.isEmpty = decide (i = 0) := by
  cases l with
  | nil => rw [decide_eq_true (h.1 rfl)]; rfl
  | cons a l => rw [decide_eq_false (fun q => by cases h.2 q)]; rfl
theorem c18 (s : List UInt8) (hl : s.length ≤ 100000) : R T0 18 [.s s] (paR s) := by
  refine r18 _ rfl rfl ?_
  unfold w18
  dsimp only [prims]
  by_cases hL : 20000 < s.length
  · rw [show paR s = .tup [.lst [], .i .i64 4] from if_pos hL]
    simp (disch := first | first | omega | assumption | exact scell | exact clen_XStep | (simp only [clen_XStep]; omega) | exact cg4 | exact cg5 | (simp only [List.length_append, List.length_cons, List.length_nil]; omega)) only [Nat.zero_add, oV_some', oN_eq, oM_some, oH_some, oD_some, oE_some, oS_eq, oT_true, oI_true, oI_false, pick_t, pick_f, un_not, oI_not, decide_not, toNat_sub1, toNat_add1, decide_true, decide_false, not_true, not_false_eq_true, Bool.not_true, Bool.not_false, Bool.not_not, oZ_b, oZ_i, oZ_s, oZ_l, slen_map, wr64, Int.toNat_natCast, Int.toNat_zero, ne_eq, bin_lt, bin_slt, bin_gt, b_sgt, load_get, loadB_some, get_put_same, get_put_ne, ofc_s, load_i, off_i, off_p, len_9, ofc_encXStep, ofc0_encXStep, st_XStep, fld_XStep_kind_, fld_XStep_name_, fld_XStep_index_, fld_XStep_value_, prt_XStep_kind_, prt_XStep_name_, prt_XStep_index_, prt_XStep_value_, decT, ozn]
  · simp (disch := first | first | omega | assumption | exact scell | exact clen_XStep | (simp only [clen_XStep]; omega) | exact cg4 | exact cg5 | (simp only [List.length_append, List.length_cons, List.length_nil]; omega)) only [len_9, oV_some', bin_gt, decF, oI_false]
    refine loop3 (X := List XStep × Nat × Option Nat) (fun x => vOf x.2.2 x.1.length) (fun _ => .s s) (fun x => .i .i64 (x.2.1 : Nat)) (fun x σ => x.2.1 ≤ s.length ∧ x.1.length ≤ x.2.1 ∧ (x.1 = [] ↔ x.2.1 = 0) ∧ (∀ y ∈ x.1, okXStep y) ∧ OwnX σ.h σ.n x.1 x.2.2 ∧ parA (s.length - x.2.1) x.1 (s.drop x.2.1) = paL s) (fun x => s.length - x.2.1) ?_ ([], 0, none) _
      ⟨Nat.zero_le _, Nat.le_refl _, ⟨fun _ => rfl, fun _ => rfl⟩, fun y hy => (by cases hy), rfl, rfl⟩
    rintro R ⟨acc, i, o⟩ ⟨h, n⟩ ⟨hi, ha, hz, hok, ho, hp⟩ hR
    dsimp only at hi ha hz hok ho hp hR ⊢
    by_cases hi' : i < s.length
    · obtain ⟨x, j, b, hb, hr⟩ := c40 s i hl hi'
      rw [← isE acc i hz] at hb
      have hdl : (s.drop i).length = s.length - i := List.length_drop
      rw [← hdl] at hp
      cases hs : stL acc.isEmpty (s.drop i) with
      | none =>
        rw [hs] at hb
        obtain rfl : b = true := hb
        rw [par_none (fun q => by rw [q, List.length_nil] at hdl; omega) hs] at hp
        rw [paR_none (by omega) hp.symm]
        simp (disch := first | first | omega | assumption | exact scell | exact clen_XStep | (simp only [clen_XStep]; omega) | exact cg4 | exact cg5 | (simp only [List.length_append, List.length_cons, List.length_nil]; omega)) only [Nat.zero_add, oV_some', oN_eq, oM_some, oH_some, oD_some, oE_some, oS_eq, oT_true, oI_true, oI_false, pick_t, pick_f, un_not, oI_not, decide_not, toNat_sub1, toNat_add1, decide_true, decide_false, not_true, not_false_eq_true, Bool.not_true, Bool.not_false, Bool.not_not, oZ_b, oZ_i, oZ_s, oZ_l, slen_map, wr64, Int.toNat_natCast, Int.toNat_zero, ne_eq, bin_lt, bin_slt, bin_gt, b_sgt, load_get, loadB_some, get_put_same, get_put_ne, ofc_s, load_i, off_i, off_p, len_9, ofc_encXStep, ofc0_encXStep, st_XStep, fld_XStep_kind_, fld_XStep_name_, fld_XStep_index_, fld_XStep_value_, prt_XStep_kind_, prt_XStep_name_, prt_XStep_index_, prt_XStep_value_, enc_g0, st60n, ofG5, clG, decT, hr.eq, ozn]
      | some p =>
        obtain ⟨y, r⟩ := p
        rw [hs] at hb
        obtain ⟨rfl, hj, rfl⟩ := hb
        dsimp only at hj
        have hst := stL_ok (by omega) hs
        rw [par_some (by omega) hs] at hp
        have hlr : s.length - (s.length - r.length) = r.length := by omega
        have hnn : n ≤ n + 1 := Nat.le_succ n
        have hR' := hR (acc ++ [x], s.length - r.length, some (n + 1))
        dsimp only at hR'
        subst hj
        simp (disch := first | first | omega | assumption | exact scell | exact clen_XStep | (simp only [clen_XStep]; omega) | exact cg4 | exact cg5 | (simp only [List.length_append, List.length_cons, List.length_nil]; omega)) only [Nat.zero_add, oV_some', oN_eq, oM_some, oH_some, oD_some, oE_some, oS_eq, oT_true, oI_true, oI_false, pick_t, pick_f, un_not, oI_not, decide_not, toNat_sub1, toNat_add1, decide_true, decide_false, not_true, not_false_eq_true, Bool.not_true, Bool.not_false, Bool.not_not, oZ_b, oZ_i, oZ_s, oZ_l, slen_map, wr64, Int.toNat_natCast, Int.toNat_zero, ne_eq, bin_lt, bin_slt, bin_gt, b_sgt, load_get, loadB_some, get_put_same, get_put_ne, ofc_s, load_i, off_i, off_p, len_9, ofc_encXStep, ofc0_encXStep, st_XStep, fld_XStep_kind_, fld_XStep_name_, fld_XStep_index_, fld_XStep_value_, prt_XStep_kind_, prt_XStep_name_, prt_XStep_index_, prt_XStep_value_, enc_g0, st60n, ofG0, ofG5, clG, decT, hr.eq, ice22]
        rw [appX x (ho.same (fun k hk hlt => by simp (disch := omega) only [get_put_ne]) hnn) (by omega), oM_some]
        have hk : ∀ o', o = o' → (killO (h.put n (some (.cells (encG x0 0 false).cells 60 false)) |>.put n (some (.cells (encG x ((s.length - r.length : Nat) : Int) false).cells 60 false))) o').get n = some (.cells (encG x ((s.length - r.length : Nat) : Int) false).cells 60 false) := fun o' q => by
          rw [kill_get (fun e => by rw [← q] at e; exact ho.ne e (Nat.le_refl _) rfl), get_put_same]
        simp (disch := first | first | omega | assumption | exact scell | exact clen_XStep | (simp only [clen_XStep]; omega) | exact cg4 | exact cg5 | (simp only [List.length_append, List.length_cons, List.length_nil]; omega)) only [Nat.zero_add, oV_some', oN_eq, oM_some, oH_some, oD_some, oE_some, oS_eq, oT_true, oI_true, oI_false, pick_t, pick_f, un_not, oI_not, decide_not, toNat_sub1, toNat_add1, decide_true, decide_false, not_true, not_false_eq_true, Bool.not_true, Bool.not_false, Bool.not_not, oZ_b, oZ_i, oZ_s, oZ_l, slen_map, wr64, Int.toNat_natCast, Int.toNat_zero, ne_eq, bin_lt, bin_slt, bin_gt, b_sgt, load_get, loadB_some, get_put_same, get_put_ne, ofc_s, load_i, off_i, off_p, len_9, ofc_encXStep, ofc0_encXStep, st_XStep, fld_XStep_kind_, fld_XStep_name_, fld_XStep_index_, fld_XStep_value_, prt_XStep_kind_, prt_XStep_name_, prt_XStep_index_, prt_XStep_value_, hk o rfl, ofG4, clG]
        have hsuf : s.drop (s.length - r.length) = r := by
          obtain ⟨k, hk⟩ := stL_suf hs
          rw [List.drop_drop] at hk
          by_cases h0 : 0 < r.length
          · exact (drop_suf hk h0).symm
          · rw [List.drop_of_length_le (by omega)]; exact (List.eq_nil_of_length_eq_zero (by omega)).symm
        refine hR' ⟨_, _⟩ ?_ (by omega)
        refine ⟨by omega, ?_, ?_, ?_, appX_own x, ?_⟩
        · rw [List.length_append]; simp only [List.length_cons, List.length_nil]; omega
        · exact ⟨fun q => by simp at q, fun q => by omega⟩
        · intro y hy
          rcases List.mem_append.1 hy with hy | hy
          · exact hok y hy
          · rw [List.mem_singleton.1 hy]; exact hst.2
        · rw [hlr, hsuf]; exact hp
    · obtain rfl : i = s.length := by omega
      rw [Nat.sub_self, List.drop_length, parA_nil] at hp
      have hpr := paR_some (by omega) hp.symm
      have hal : acc.length ≤ 140737488351232 := by omega
      have r14 := own_call (σ := ⟨h, n⟩) ho (by kernel_rfl) (by kernel_rfl) (by kernel_rfl) rfl (c14 acc hal hok)
      rw [hpr]
      cases hb : pathB acc
      · rw [hb] at r14
        simp (disch := first | first | omega | assumption | exact scell | exact clen_XStep | (simp only [clen_XStep]; omega) | exact cg4 | exact cg5 | (simp only [List.length_append, List.length_cons, List.length_nil]; omega)) only [Nat.zero_add, oV_some', oN_eq, oM_some, oH_some, oD_some, oE_some, oS_eq, oT_true, oI_true, oI_false, pick_t, pick_f, un_not, oI_not, decide_not, toNat_sub1, toNat_add1, decide_true, decide_false, not_true, not_false_eq_true, Bool.not_true, Bool.not_false, Bool.not_not, oZ_b, oZ_i, oZ_s, oZ_l, slen_map, wr64, Int.toNat_natCast, Int.toNat_zero, ne_eq, bin_lt, bin_slt, bin_gt, b_sgt, load_get, loadB_some, get_put_same, get_put_ne, ofc_s, load_i, off_i, off_p, len_9, ofc_encXStep, ofc0_encXStep, st_XStep, fld_XStep_kind_, fld_XStep_name_, fld_XStep_index_, fld_XStep_value_, prt_XStep_kind_, prt_XStep_name_, prt_XStep_index_, prt_XStep_value_, decF, r14.eq, ozn, Bool.false_eq_true, if_false]
      · rw [hb] at r14
        simp (disch := first | first | omega | assumption | exact scell | exact clen_XStep | (simp only [clen_XStep]; omega) | exact cg4 | exact cg5 | (simp only [List.length_append, List.length_cons, List.length_nil]; omega)) only [Nat.zero_add, oV_some', oN_eq, oM_some, oH_some, oD_some, oE_some, oS_eq, oT_true, oI_true, oI_false, pick_t, pick_f, un_not, oI_not, decide_not, toNat_sub1, toNat_add1, decide_true, decide_false, not_true, not_false_eq_true, Bool.not_true, Bool.not_false, Bool.not_not, oZ_b, oZ_i, oZ_s, oZ_l, slen_map, wr64, Int.toNat_natCast, Int.toNat_zero, ne_eq, bin_lt, bin_slt, bin_gt, b_sgt, load_get, loadB_some, get_put_same, get_put_ne, ofc_s, load_i, off_i, off_p, len_9, ofc_encXStep, ofc0_encXStep, st_XStep, fld_XStep_kind_, fld_XStep_name_, fld_XStep_index_, fld_XStep_value_, prt_XStep_kind_, prt_XStep_name_, prt_XStep_index_, prt_XStep_value_, decF, r14.eq, if_true]
        exact oz_own2 (σ := ⟨h, n⟩) ho rfl
theorem e18 {s : List UInt8} (hl : s.length ≤ 100000) {d : Nat} {σ : AS} {K : AV → AS → Prop} : oC T0 d 18 [.s s] σ K = K (paR s) σ := (c18 s hl).eq d σ K
theorem slP {s : List UInt8} {h : Tr AB} {k : Nat} (hk : k ≤ s.length) : evSliceH T0 h 9 (.s s) none (some (.i .i64 (k : Nat))) none = some (.s (s.take k)) := by
  have b1 : bnd0 s.length s.length (some (.i .i64 (k : Nat))) = some k := by
    simp only [bnd0, bnd]; rw [if_pos ⟨by omega, by omega⟩]; simp
  have b2 : bnd0 k 0 none = some 0 := rfl
  have b : bounds3 s.length (some s.length) none (some (.i .i64 (k : Nat))) none = some (0, k, some s.length) := by
    simp only [bounds3, Option.getD_some, b1, b2]
  refine slH_of ?_
  unfold evSlice
  simp only [ty9, b, List.drop_zero, Nat.sub_zero]
/-- The end of a round of Parse. -/
theorem par_next {s : List UInt8} {acc : List XStep} {x : XStep} {t r : List UInt8} (hl : t.length ≤ 140737488351232) (hs : stL acc.isEmpty t = some (x, r)) (hp : parA t.length acc t = paL s) (hok : ∀ y ∈ acc, okXStep y) (hb : acc.length + t.length ≤ s.length) :
    r.length < t.length ∧ (∀ y ∈ acc ++ [x], okXStep y) ∧ parA r.length (acc ++ [x]) r = paL s ∧ (acc ++ [x]).length + r.length ≤ s.length := by
  have h1 := stL_ok hl hs
  refine ⟨h1.1, fun y hy => ?_, by rw [← par_some hl hs]; exact hp, by rw [List.length_append]; simp only [List.length_cons, List.length_nil]; omega⟩
  rcases List.mem_append.1 hy with hy | hy
  · exact hok y hy
  · rw [List.mem_singleton.1 hy]; exact h1.2
theorem is1 (l : List XStep) : decide ((0 : Int) < (l.length : Nat)) = !l.isEmpty := by
  cases l with
  | nil => rfl
  | cons a l => rw [decide_eq_true (by rw [List.length_cons]; omega)]; rfl
theorem c17 (s : List UInt8) (hl : s.length ≤ 50000) : R T0 17 [.s s] (paR s) := by
  refine r17 _ rfl rfl ?_
  unfold w17
  dsimp only [prims]
  by_cases hL : 20000 < s.length
  · rw [show paR s = .tup [.lst [], .i .i64 4] from if_pos hL]
    simp (disch := first | first | omega | assumption | exact scell | exact clen_XStep | (simp only [clen_XStep]; omega) | exact cg4 | exact cg5 | (simp only [List.length_append, List.length_cons, List.length_nil]; omega)) only [Nat.zero_add, oV_some', oN_eq, oM_some, oH_some, oD_some, oE_some, oS_eq, oT_true, oI_true, oI_false, pick_t, pick_f, un_not, oI_not, decide_not, toNat_sub1, toNat_add1, decide_true, decide_false, not_true, not_false_eq_true, Bool.not_true, Bool.not_false, Bool.not_not, oZ_b, oZ_i, oZ_s, oZ_l, slen_map, wr64, Int.toNat_natCast, Int.toNat_zero, ne_eq, bin_gt, b_sgt, bin_eq, b_snil, beq_4, bin_ne, b_snnil, bne_4, load_get, loadB_some, get_put_same, get_put_ne, ofc_s, load_i, ext_t, List.getElem?_cons_zero, List.getElem?_cons_succ, len_9, idx_9, ofc_encXStep, ofc0_encXStep, st_XStep, fld_XStep_kind_, fld_XStep_name_, fld_XStep_index_, fld_XStep_value_, prt_XStep_kind_, prt_XStep_name_, prt_XStep_index_, prt_XStep_value_, len_22, join2_eq, decT, ozn]
  · simp (disch := first | first | omega | assumption | exact scell | exact clen_XStep | (simp only [clen_XStep]; omega) | exact cg4 | exact cg5 | (simp only [List.length_append, List.length_cons, List.length_nil]; omega)) only [len_9, oV_some', bin_gt, decF, oI_false]
    refine loop2 (X := List XStep × List UInt8 × Option Nat) (fun x => vOf x.2.2 x.1.length) (fun x => .s x.2.1) (fun x σ => x.1.length + x.2.1.length ≤ s.length ∧ (∀ y ∈ x.1, okXStep y) ∧ OwnX σ.h σ.n x.1 x.2.2 ∧ parA x.2.1.length x.1 x.2.1 = paL s) (fun x => x.2.1.length) ?_ ([], s, none) _
      ⟨by simp, fun y hy => (by cases hy), rfl, rfl⟩
    rintro R ⟨acc, t, o⟩ ⟨h, n⟩ ⟨ha, hok, ho, hp⟩ hR
    dsimp only at ha hok ho hp hR ⊢
    have nz : ∀ c (l : List UInt8), decide (¬ (c :: l : List UInt8).length = 0) = true := fun c l => by rw [List.length_cons]; rfl
    cases t with
    | nil =>
      rw [List.length_nil] at ha
      rw [parA_nil] at hp
      have hpr := paR_some (by omega) hp.symm
      have hal : acc.length ≤ 140737488351232 := by omega
      have r13 := own_call (σ := ⟨h, n⟩) ho (by kernel_rfl) (by kernel_rfl) (by kernel_rfl) rfl (c13 acc hal hok)
      rw [hpr]
      cases hb : pathB acc
      · rw [hb] at r13
        simp (disch := first | first | omega | assumption | exact scell | exact clen_XStep | (simp only [clen_XStep]; omega) | exact cg4 | exact cg5 | (simp only [List.length_append, List.length_cons, List.length_nil]; omega)) only [Nat.zero_add, oV_some', oN_eq, oM_some, oH_some, oD_some, oE_some, oS_eq, oT_true, oI_true, oI_false, pick_t, pick_f, un_not, oI_not, decide_not, toNat_sub1, toNat_add1, decide_true, decide_false, not_true, not_false_eq_true, Bool.not_true, Bool.not_false, Bool.not_not, oZ_b, oZ_i, oZ_s, oZ_l, slen_map, wr64, Int.toNat_natCast, Int.toNat_zero, ne_eq, bin_gt, b_sgt, bin_eq, b_snil, beq_4, bin_ne, b_snnil, bne_4, load_get, loadB_some, get_put_same, get_put_ne, ofc_s, load_i, ext_t, List.getElem?_cons_zero, List.getElem?_cons_succ, len_9, idx_9, ofc_encXStep, ofc0_encXStep, st_XStep, fld_XStep_kind_, fld_XStep_name_, fld_XStep_index_, fld_XStep_value_, prt_XStep_kind_, prt_XStep_name_, prt_XStep_index_, prt_XStep_value_, len_22, join2_eq, nl0, r13.eq, ozn, Bool.false_eq_true, if_false]
      · rw [hb] at r13
        simp (disch := first | first | omega | assumption | exact scell | exact clen_XStep | (simp only [clen_XStep]; omega) | exact cg4 | exact cg5 | (simp only [List.length_append, List.length_cons, List.length_nil]; omega)) only [Nat.zero_add, oV_some', oN_eq, oM_some, oH_some, oD_some, oE_some, oS_eq, oT_true, oI_true, oI_false, pick_t, pick_f, un_not, oI_not, decide_not, toNat_sub1, toNat_add1, decide_true, decide_false, not_true, not_false_eq_true, Bool.not_true, Bool.not_false, Bool.not_not, oZ_b, oZ_i, oZ_s, oZ_l, slen_map, wr64, Int.toNat_natCast, Int.toNat_zero, ne_eq, bin_gt, b_sgt, bin_eq, b_snil, beq_4, bin_ne, b_snnil, bne_4, load_get, loadB_some, get_put_same, get_put_ne, ofc_s, load_i, ext_t, List.getElem?_cons_zero, List.getElem?_cons_succ, len_9, idx_9, ofc_encXStep, ofc0_encXStep, st_XStep, fld_XStep_kind_, fld_XStep_name_, fld_XStep_index_, fld_XStep_value_, prt_XStep_kind_, prt_XStep_name_, prt_XStep_index_, prt_XStep_value_, len_22, join2_eq, nl0, r13.eq, if_true]
        exact oz_own2 (σ := ⟨h, n⟩) ho rfl
    | cons c t =>
      have hlt : (c :: t).length ≤ 140737488351232 := by omega
      have lc : (c :: t).length = t.length + 1 := List.length_cons
      by_cases h1 : c.toNat = 91
      · have hst : stL acc.isEmpty (c :: t) = brL t := by rw [stL_c, if_pos h1]
        obtain ⟨x, r, b, hb, hr⟩ := c38 c t (by omega)
        cases hs : brL t with
        | none =>
          rw [hs] at hb
          obtain rfl : b = false := hb
          rw [par_none (by simp) (hst.trans hs)] at hp
          rw [paR_none (by omega) hp.symm]
          simp (disch := first | first | omega | assumption | exact scell | exact clen_XStep | (simp only [clen_XStep]; omega) | exact cg4 | exact cg5 | (simp only [List.length_append, List.length_cons, List.length_nil]; omega)) only [Nat.zero_add, oV_some', oN_eq, oM_some, oH_some, oD_some, oE_some, oS_eq, oT_true, oI_true, oI_false, pick_t, pick_f, un_not, oI_not, decide_not, toNat_sub1, toNat_add1, decide_true, decide_false, not_true, not_false_eq_true, Bool.not_true, Bool.not_false, Bool.not_not, oZ_b, oZ_i, oZ_s, oZ_l, slen_map, wr64, Int.toNat_natCast, Int.toNat_zero, ne_eq, bin_gt, b_sgt, bin_eq, b_snil, beq_4, bin_ne, b_snnil, bne_4, load_get, loadB_some, get_put_same, get_put_ne, ofc_s, load_i, ext_t, List.getElem?_cons_zero, List.getElem?_cons_succ, len_9, idx_9, ofc_encXStep, ofc0_encXStep, st_XStep, fld_XStep_kind_, fld_XStep_name_, fld_XStep_index_, fld_XStep_value_, prt_XStep_kind_, prt_XStep_name_, prt_XStep_index_, prt_XStep_value_, len_22, join2_eq, cl0, gd0, decT, hr.eq, ex0, ex1, ex2, enc_x0, st50n, ozn]
        | some p =>
          obtain ⟨y, r'⟩ := p
          rw [hs] at hb
          obtain ⟨rfl, rfl, rfl⟩ := hb
          obtain ⟨g1, g2, g3, g4⟩ := par_next hlt (hst.trans hs) hp hok ha
          have hR' := hR (acc ++ [x], r, some (n + 1))
          dsimp only at hR'
          simp (disch := first | first | omega | assumption | exact scell | exact clen_XStep | (simp only [clen_XStep]; omega) | exact cg4 | exact cg5 | (simp only [List.length_append, List.length_cons, List.length_nil]; omega)) only [Nat.zero_add, oV_some', oN_eq, oM_some, oH_some, oD_some, oE_some, oS_eq, oT_true, oI_true, oI_false, pick_t, pick_f, un_not, oI_not, decide_not, toNat_sub1, toNat_add1, decide_true, decide_false, not_true, not_false_eq_true, Bool.not_true, Bool.not_false, Bool.not_not, oZ_b, oZ_i, oZ_s, oZ_l, slen_map, wr64, Int.toNat_natCast, Int.toNat_zero, ne_eq, bin_gt, b_sgt, bin_eq, b_snil, beq_4, bin_ne, b_snnil, bne_4, load_get, loadB_some, get_put_same, get_put_ne, ofc_s, load_i, ext_t, List.getElem?_cons_zero, List.getElem?_cons_succ, len_9, idx_9, ofc_encXStep, ofc0_encXStep, st_XStep, fld_XStep_kind_, fld_XStep_name_, fld_XStep_index_, fld_XStep_value_, prt_XStep_kind_, prt_XStep_name_, prt_XStep_index_, prt_XStep_value_, len_22, join2_eq, cl0, gd0, decT, hr.eq, ex0, ex1, ex2, enc_x0, st50n, ice22]
          rw [appX x (ho.same (fun k hk hlt => by simp (disch := omega) only [get_put_ne]) (Nat.le_succ n)) (by omega), oM_some]
          exact hR' ⟨_, _⟩ ⟨g4, g2, appX_own x, g3⟩ g1
      · by_cases ha0 : acc = []
        · have hst : stL acc.isEmpty (c :: t) = fdL (c :: t) := by rw [stL_c, if_neg h1, ha0]; rfl
          have dl : decide ((0 : Int) < (acc.length : Nat)) = false := by rw [is1, ha0]; rfl
          have hu := nmL_le (c :: t)
          have e39' := fun (d : Nat) (σ : AS) (K : AV → AS → Prop) => e39 (s := c :: t) (by omega) (d := d) (σ := σ) (K := K)
          by_cases hk : nmL (c :: t) = 0
          · have hf : fdL (c :: t) = none := by unfold fdL; rw [if_pos hk]
            rw [par_none (by simp) (hst.trans hf)] at hp
            rw [paR_none (by omega) hp.symm]
            simp (disch := first | first | omega | assumption | exact scell | exact clen_XStep | (simp only [clen_XStep]; omega) | exact cg4 | exact cg5 | (simp only [List.length_append, List.length_cons, List.length_nil]; omega)) only [Nat.zero_add, oV_some', oN_eq, oM_some, oH_some, oD_some, oE_some, oS_eq, oT_true, oI_true, oI_false, pick_t, pick_f, un_not, oI_not, decide_not, toNat_sub1, toNat_add1, decide_true, decide_false, not_true, not_false_eq_true, Bool.not_true, Bool.not_false, Bool.not_not, oZ_b, oZ_i, oZ_s, oZ_l, slen_map, wr64, Int.toNat_natCast, Int.toNat_zero, ne_eq, bin_gt, b_sgt, bin_eq, b_snil, beq_4, bin_ne, b_snnil, bne_4, load_get, loadB_some, get_put_same, get_put_ne, ofc_s, load_i, ext_t, List.getElem?_cons_zero, List.getElem?_cons_succ, len_9, idx_9, ofc_encXStep, ofc0_encXStep, st_XStep, fld_XStep_kind_, fld_XStep_name_, fld_XStep_index_, fld_XStep_value_, prt_XStep_kind_, prt_XStep_name_, prt_XStep_index_, prt_XStep_value_, len_22, join2_eq, cl0, gd0, decT, decF, lenX ho, dl, sl_c, e39', ozn]
          · have hf : fdL (c :: t) = some (⟨1, (c :: t).take (nmL (c :: t)), 0, []⟩, (c :: t).drop (nmL (c :: t))) := by unfold fdL; rw [if_neg hk]
            obtain ⟨g1, g2, g3, g4⟩ := par_next hlt (hst.trans hf) hp hok ha
            have hR' := hR (acc ++ [⟨1, (c :: t).take (nmL (c :: t)), 0, []⟩], (c :: t).drop (nmL (c :: t)), some n)
            dsimp only at hR'
            simp (disch := first | first | omega | assumption | exact scell | exact clen_XStep | (simp only [clen_XStep]; omega) | exact cg4 | exact cg5 | (simp only [List.length_append, List.length_cons, List.length_nil]; omega)) only [Nat.zero_add, oV_some', oN_eq, oM_some, oH_some, oD_some, oE_some, oS_eq, oT_true, oI_true, oI_false, pick_t, pick_f, un_not, oI_not, decide_not, toNat_sub1, toNat_add1, decide_true, decide_false, not_true, not_false_eq_true, Bool.not_true, Bool.not_false, Bool.not_not, oZ_b, oZ_i, oZ_s, oZ_l, slen_map, wr64, Int.toNat_natCast, Int.toNat_zero, ne_eq, bin_gt, b_sgt, bin_eq, b_snil, beq_4, bin_ne, b_snnil, bne_4, load_get, loadB_some, get_put_same, get_put_ne, ofc_s, load_i, ext_t, List.getElem?_cons_zero, List.getElem?_cons_succ, len_9, idx_9, ofc_encXStep, ofc0_encXStep, st_XStep, fld_XStep_kind_, fld_XStep_name_, fld_XStep_index_, fld_XStep_value_, prt_XStep_kind_, prt_XStep_name_, prt_XStep_index_, prt_XStep_value_, len_22, join2_eq, cl0, gd0, decT, decF, lenX ho, dl, sl_c, e39', pl_s, pl_i, pl_o, pl_n, slE, slP, bld_50f, ice22]
            rw [appX _ ho (by omega), oM_some]
            exact hR' ⟨_, _⟩ ⟨g4, g2, appX_own _, g3⟩ g1
        · have hae : acc.isEmpty = false := by cases acc with | nil => exact absurd rfl ha0 | cons a l => rfl
          have dl : decide ((0 : Int) < (acc.length : Nat)) = true := by rw [is1, hae]; rfl
          by_cases h2 : c.toNat = 46
          · have hst : stL acc.isEmpty (c :: t) = fdL t := by rw [stL_c, if_neg h1, hae, if_neg Bool.false_ne_true, if_pos h2]
            have hu := nmL_le (t)
            have e39' := fun (d : Nat) (σ : AS) (K : AV → AS → Prop) => e39 (s := t) (by omega) (d := d) (σ := σ) (K := K)
            by_cases hk : nmL (t) = 0
            · have hf : fdL (t) = none := by unfold fdL; rw [if_pos hk]
              rw [par_none (by simp) (hst.trans hf)] at hp
              rw [paR_none (by omega) hp.symm]
              simp (disch := first | first | omega | assumption | exact scell | exact clen_XStep | (simp only [clen_XStep]; omega) | exact cg4 | exact cg5 | (simp only [List.length_append, List.length_cons, List.length_nil]; omega)) only [Nat.zero_add, oV_some', oN_eq, oM_some, oH_some, oD_some, oE_some, oS_eq, oT_true, oI_true, oI_false, pick_t, pick_f, un_not, oI_not, decide_not, toNat_sub1, toNat_add1, decide_true, decide_false, not_true, not_false_eq_true, Bool.not_true, Bool.not_false, Bool.not_not, oZ_b, oZ_i, oZ_s, oZ_l, slen_map, wr64, Int.toNat_natCast, Int.toNat_zero, ne_eq, bin_gt, b_sgt, bin_eq, b_snil, beq_4, bin_ne, b_snnil, bne_4, load_get, loadB_some, get_put_same, get_put_ne, ofc_s, load_i, ext_t, List.getElem?_cons_zero, List.getElem?_cons_succ, len_9, idx_9, ofc_encXStep, ofc0_encXStep, st_XStep, fld_XStep_kind_, fld_XStep_name_, fld_XStep_index_, fld_XStep_value_, prt_XStep_kind_, prt_XStep_name_, prt_XStep_index_, prt_XStep_value_, len_22, join2_eq, cl0, gd0, decT, decF, lenX ho, dl, sl_c, e39', ozn]
            · have hf : fdL (t) = some (⟨1, (t).take (nmL (t)), 0, []⟩, (t).drop (nmL (t))) := by unfold fdL; rw [if_neg hk]
              obtain ⟨g1, g2, g3, g4⟩ := par_next hlt (hst.trans hf) hp hok ha
              have hR' := hR (acc ++ [⟨1, (t).take (nmL (t)), 0, []⟩], (t).drop (nmL (t)), some n)
              dsimp only at hR'
              simp (disch := first | first | omega | assumption | exact scell | exact clen_XStep | (simp only [clen_XStep]; omega) | exact cg4 | exact cg5 | (simp only [List.length_append, List.length_cons, List.length_nil]; omega)) only [Nat.zero_add, oV_some', oN_eq, oM_some, oH_some, oD_some, oE_some, oS_eq, oT_true, oI_true, oI_false, pick_t, pick_f, un_not, oI_not, decide_not, toNat_sub1, toNat_add1, decide_true, decide_false, not_true, not_false_eq_true, Bool.not_true, Bool.not_false, Bool.not_not, oZ_b, oZ_i, oZ_s, oZ_l, slen_map, wr64, Int.toNat_natCast, Int.toNat_zero, ne_eq, bin_gt, b_sgt, bin_eq, b_snil, beq_4, bin_ne, b_snnil, bne_4, load_get, loadB_some, get_put_same, get_put_ne, ofc_s, load_i, ext_t, List.getElem?_cons_zero, List.getElem?_cons_succ, len_9, idx_9, ofc_encXStep, ofc0_encXStep, st_XStep, fld_XStep_kind_, fld_XStep_name_, fld_XStep_index_, fld_XStep_value_, prt_XStep_kind_, prt_XStep_name_, prt_XStep_index_, prt_XStep_value_, len_22, join2_eq, cl0, gd0, decT, decF, lenX ho, dl, sl_c, e39', pl_s, pl_i, pl_o, pl_n, slE, slP, bld_50f, ice22]
              rw [appX _ ho (by omega), oM_some]
              exact hR' ⟨_, _⟩ ⟨g4, g2, appX_own _, g3⟩ g1
          · have hst : stL acc.isEmpty (c :: t) = none := by rw [stL_c, if_neg h1, hae, if_neg Bool.false_ne_true, if_neg h2]
            rw [par_none (by simp) hst] at hp
            rw [paR_none (by omega) hp.symm]
            simp (disch := first | first | omega | assumption | exact scell | exact clen_XStep | (simp only [clen_XStep]; omega) | exact cg4 | exact cg5 | (simp only [List.length_append, List.length_cons, List.length_nil]; omega)) only [Nat.zero_add, oV_some', oN_eq, oM_some, oH_some, oD_some, oE_some, oS_eq, oT_true, oI_true, oI_false, pick_t, pick_f, un_not, oI_not, decide_not, toNat_sub1, toNat_add1, decide_true, decide_false, not_true, not_false_eq_true, Bool.not_true, Bool.not_false, Bool.not_not, oZ_b, oZ_i, oZ_s, oZ_l, slen_map, wr64, Int.toNat_natCast, Int.toNat_zero, ne_eq, bin_gt, b_sgt, bin_eq, b_snil, beq_4, bin_ne, b_snnil, bne_4, load_get, loadB_some, get_put_same, get_put_ne, ofc_s, load_i, ext_t, List.getElem?_cons_zero, List.getElem?_cons_succ, len_9, idx_9, ofc_encXStep, ofc0_encXStep, st_XStep, fld_XStep_kind_, fld_XStep_name_, fld_XStep_index_, fld_XStep_value_, prt_XStep_kind_, prt_XStep_name_, prt_XStep_index_, prt_XStep_value_, len_22, join2_eq, cl0, gd0, decT, decF, lenX ho, dl, ozn]
theorem e17 {s : List UInt8} (hl : s.length ≤ 50000) {d : Nat} {σ : AS} {K : AV → AS → Prop} : oC T0 d 17 [.s s] σ K = K (paR s) σ := (c17 s hl).eq d σ K
end Go.Proofs.YtmfhmlhaofpeiaaGreatDoor.Ev
