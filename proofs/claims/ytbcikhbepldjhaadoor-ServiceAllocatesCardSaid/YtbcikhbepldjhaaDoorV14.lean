/- The program's copy of a service. -/
import Derived.Test.YtbcikhbepldjhaaDoorV13
namespace Go.Proofs.YtbcikhbepldjhaaDoor.Ev
open Go Go.RowKit
set_option linter.unusedSimpArgs false
set_option linter.unusedVariables false
set_option maxRecDepth 100000

theorem elL : El T0 encXLabel 24 69 1 32 := ⟨by kernel_rfl, by kernel_rfl, by kernel_rfl, by kernel_rfl, agg_of (by kernel_rfl), fun _ => rfl, fun _ => rfl, fun _ => rfl, fun _ => rfl, fun _ => rfl⟩
theorem elO : El T0 encXOwner 25 72 4 48 := ⟨by kernel_rfl, by kernel_rfl, by kernel_rfl, by kernel_rfl, agg_of (by kernel_rfl), fun _ => rfl, fun _ => rfl, fun _ => rfl, fun _ => rfl, fun _ => rfl⟩
theorem elM : El T0 encXManager 27 76 1 40 := ⟨by kernel_rfl, by kernel_rfl, by kernel_rfl, by kernel_rfl, agg_of (by kernel_rfl), fun _ => rfl, fun _ => rfl, fun _ => rfl, fun _ => rfl, fun _ => rfl⟩
theorem elR : El T0 encXRequirement 30 79 2 48 := ⟨by kernel_rfl, by kernel_rfl, by kernel_rfl, by kernel_rfl, agg_of (by kernel_rfl), fun _ => rfl, fun _ => rfl, fun _ => rfl, fun _ => rfl, fun _ => rfl⟩
theorem elP : El T0 encXServicePort 31 56 2 32 := ⟨by kernel_rfl, by kernel_rfl, by kernel_rfl, by kernel_rfl, agg_of (by kernel_rfl), fun _ => rfl, fun _ => rfl, fun _ => rfl, fun _ => rfl, fun _ => rfl⟩
theorem rtS : RowT T0 26 9 0 16 false := ⟨by kernel_rfl, by kernel_rfl, by kernel_rfl, by kernel_rfl, by kernel_rfl⟩
theorem small_of {n b : Nat} (hb : b ≤ 1048576) (h0 : 0 < b) (h : n * b ≤ 140737488351232) : smallN n b = true := by
  have : n ≤ 140737488351232 := Nat.le_trans (Nat.le_mul_of_pos_right n h0) h
  unfold smallN
  rw [Nat.ble_eq_true_of_le this, Nat.ble_eq_true_of_le hb, Nat.ble_eq_true_of_le h]; rfl
theorem e26 {l : List XLabel} (hl : l.length * 32 ≤ 140737488351232) {d : Nat} {σ : AS} {K : AV → AS → Prop} : oC T0 d 26 [.lst (l.map encXLabel)] σ K = K (clA (l.map encXLabel)) σ :=
  (clone_any (fn := Go.Proofs.Tryd.f26) elL.rowT (RowE.mapE elL l) (by rw [List.length_map]; exact small_of (by decide) (by decide) hl) (by kernel_rfl) (by kernel_rfl) (by kernel_rfl) (by kernel_rfl) (by kernel_rfl) (fun P a Q => by kernel_rfl)).eq d σ K
theorem e27 {l : List XOwner} (hl : l.length * 48 ≤ 140737488351232) {d : Nat} {σ : AS} {K : AV → AS → Prop} : oC T0 d 27 [.lst (l.map encXOwner)] σ K = K (clA (l.map encXOwner)) σ :=
  (clone_any (fn := Go.Proofs.Tryd.f27) elO.rowT (RowE.mapE elO l) (by rw [List.length_map]; exact small_of (by decide) (by decide) hl) (by kernel_rfl) (by kernel_rfl) (by kernel_rfl) (by kernel_rfl) (by kernel_rfl) (fun P a Q => by kernel_rfl)).eq d σ K
theorem e28 {l : List (List UInt8)} (hl : l.length * 16 ≤ 140737488351232) {d : Nat} {σ : AS} {K : AV → AS → Prop} : oC T0 d 28 [.lst (l.map AV.s)] σ K = K (clA (l.map AV.s)) σ :=
  (clone_any (fn := Go.Proofs.Tryd.f28) rtS (RowE.mapS l) (by rw [List.length_map]; exact small_of (by decide) (by decide) hl) (by kernel_rfl) (by kernel_rfl) (by kernel_rfl) (by kernel_rfl) (by kernel_rfl) (fun P a Q => by kernel_rfl)).eq d σ K
theorem e31 {l : List XServicePort} (hl : l.length * 32 ≤ 140737488351232) {d : Nat} {σ : AS} {K : AV → AS → Prop} : oC T0 d 31 [.lst (l.map encXServicePort)] σ K = K (clA (l.map encXServicePort)) σ :=
  (clone_any (fn := Go.Proofs.Tryd.f31) elP.rowT (RowE.mapE elP l) (by rw [List.length_map]; exact small_of (by decide) (by decide) hl) (by kernel_rfl) (by kernel_rfl) (by kernel_rfl) (by kernel_rfl) (by kernel_rfl) (fun P a Q => by kernel_rfl)).eq d σ K
theorem a29 {l : List XManager} (hl : l.length * 40 ≤ 140737488351232) {d n : Nat} {K : AV → Option AB → Prop} : oA T0 d 29 [.lst (l.map encXManager)] n K = K (rowV l n) (rowB encXManager 76 l) :=
  clone_oA (fn := Go.Proofs.Tryd.f29) elM (small_of (by decide) (by decide) hl) (by kernel_rfl) (by kernel_rfl) (by kernel_rfl) (by kernel_rfl) (by kernel_rfl) (by kernel_rfl) (fun P a Q => by kernel_rfl) d n K
theorem a30 {l : List XRequirement} (hl : l.length * 48 ≤ 140737488351232) {d n : Nat} {K : AV → Option AB → Prop} : oA T0 d 30 [.lst (l.map encXRequirement)] n K = K (rowV l n) (rowB encXRequirement 79 l) :=
  clone_oA (fn := Go.Proofs.Tryd.f30) elR (small_of (by decide) (by decide) hl) (by kernel_rfl) (by kernel_rfl) (by kernel_rfl) (by kernel_rfl) (by kernel_rfl) (by kernel_rfl) (fun P a Q => by kernel_rfl) d n K
/-- The managers and the requirements, their own rows copied. -/
def encDM (x : XManager) : AV := .agg [.s x.name_, clA (x.fields_.map AV.s)]
def encDR (x : XRequirement) : AV := .agg [.s x.key_, .i .i64 x.op_, clA (x.values_.map AV.s)]
theorem dm_norm (x : XManager) : AV.norm.norms (encDM x).cells = (encXManager x).cells := by
  simp only [encDM, encXManager, AV.cells, AV.norm.norms, clA_norm, AV.norm]
theorem dr_norm (x : XRequirement) : AV.norm.norms (encDR x).cells = (encXRequirement x).cells := by
  simp only [encDR, encXRequirement, AV.cells, AV.norm.norms, clA_norm, AV.norm]
theorem dm_free (x : XManager) : AV.idfree.idfrees (encDM x).cells = true := by
  simp only [encDM, AV.cells, AV.idfree.idfrees, clA_free, AV.idfree, Bool.and_self]
theorem dr_free (x : XRequirement) : AV.idfree.idfrees (encDR x).cells = true := by
  simp only [encDR, AV.cells, AV.idfree.idfrees, clA_free, AV.idfree, Bool.and_self]
/-- The service's cells, with the rows as they come. -/
def cellsS (s : XService) (a b c d e f : AV) : List AV := [.s s.meta_.kind_, .s s.meta_.namespace_, .s s.meta_.name_, .i .i64 s.meta_.uid_, .i .i64 s.meta_.version_, .i .i64 s.meta_.generation_, .i .i64 s.meta_.created_, .b s.meta_.deleting_, .i .i64 s.meta_.deleteAt_, a, b, c, d, e, f, .b s.sticky_, .i .i64 s.address_]
theorem cells_S (s : XService) : (encXService s).cells = cellsS s (.lst (s.meta_.labels_.map encXLabel)) (.lst (s.meta_.owners_.map encXOwner)) (.lst (s.meta_.finalizers_.map AV.s)) (.lst (s.meta_.managers_.map encXManager)) (.lst (s.selector_.map encXRequirement)) (.lst (s.ports_.map encXServicePort)) := rfl
section
variable {s : XService} {a b c d e f x : AV} {h : Tr AB} {id : Nat} {g : Bool}
theorem l9 (hg : h.get id = some (.cells (cellsS s a b c d e f) 33 g)) : evLoad T0 h 24 (.ptr id 9) = some a := by rw [load_p hg (show 9 ≤ 17 by decide)]; exact ofc_24 _ _
theorem l10 (hg : h.get id = some (.cells (cellsS s a b c d e f) 33 g)) : evLoad T0 h 25 (.ptr id 10) = some b := by rw [load_p hg (show 10 ≤ 17 by decide)]; exact ofc_25 _ _
theorem l11 (hg : h.get id = some (.cells (cellsS s a b c d e f) 33 g)) : evLoad T0 h 26 (.ptr id 11) = some c := by rw [load_p hg (show 11 ≤ 17 by decide)]; exact ofc_26 _ _
theorem l12 (hg : h.get id = some (.cells (cellsS s a b c d e f) 33 g)) : evLoad T0 h 27 (.ptr id 12) = some d := by rw [load_p hg (show 12 ≤ 17 by decide)]; exact ofc_27 _ _
theorem l13 (hg : h.get id = some (.cells (cellsS s a b c d e f) 33 g)) : evLoad T0 h 30 (.ptr id 13) = some e := by rw [load_p hg (show 13 ≤ 17 by decide)]; exact ofc_30 _ _
theorem l14 (hg : h.get id = some (.cells (cellsS s a b c d e f) 33 g)) : evLoad T0 h 31 (.ptr id 14) = some f := by rw [load_p hg (show 14 ≤ 17 by decide)]; exact ofc_31 _ _
theorem s9 (hg : h.get id = some (.cells (cellsS s a b c d e f) 33 g)) (hl : x.cells = [x]) (ha : x.leaf = true) : storeA T0 h 24 (.ptr id 9) x = some (id, .cells (cellsS s x b c d e f) 33 g) := storeA_p sz_24 hg (by rw [hl]; rfl) (by rw [hl]; simp [allLeaf, ha]) (by rw [hl]; rfl)
theorem s10 (hg : h.get id = some (.cells (cellsS s a b c d e f) 33 g)) (hl : x.cells = [x]) (ha : x.leaf = true) : storeA T0 h 25 (.ptr id 10) x = some (id, .cells (cellsS s a x c d e f) 33 g) := storeA_p sz_25 hg (by rw [hl]; rfl) (by rw [hl]; simp [allLeaf, ha]) (by rw [hl]; rfl)
theorem s11 (hg : h.get id = some (.cells (cellsS s a b c d e f) 33 g)) (hl : x.cells = [x]) (ha : x.leaf = true) : storeA T0 h 26 (.ptr id 11) x = some (id, .cells (cellsS s a b x d e f) 33 g) := storeA_p sz_26 hg (by rw [hl]; rfl) (by rw [hl]; simp [allLeaf, ha]) (by rw [hl]; rfl)
theorem s12 (hg : h.get id = some (.cells (cellsS s a b c d e f) 33 g)) (hl : x.cells = [x]) (ha : x.leaf = true) : storeA T0 h 27 (.ptr id 12) x = some (id, .cells (cellsS s a b c x e f) 33 g) := storeA_p sz_27 hg (by rw [hl]; rfl) (by rw [hl]; simp [allLeaf, ha]) (by rw [hl]; rfl)
theorem s13 (hg : h.get id = some (.cells (cellsS s a b c d e f) 33 g)) (hl : x.cells = [x]) (ha : x.leaf = true) : storeA T0 h 30 (.ptr id 13) x = some (id, .cells (cellsS s a b c d x f) 33 g) := storeA_p sz_30 hg (by rw [hl]; rfl) (by rw [hl]; simp [allLeaf, ha]) (by rw [hl]; rfl)
theorem s14 (hg : h.get id = some (.cells (cellsS s a b c d e f) 33 g)) (hl : x.cells = [x]) (ha : x.leaf = true) : storeA T0 h 31 (.ptr id 14) x = some (id, .cells (cellsS s a b c d e x) 33 g) := storeA_p sz_31 hg (by rw [hl]; rfl) (by rw [hl]; simp [allLeaf, ha]) (by rw [hl]; rfl)
end
theorem clA_cells (es : List AV) : (clA es).cells = [clA es] := by cases es <;> rfl
theorem dm_cells (x : XManager) : (encDM x).cells.length = 1 + 1 := rfl
theorem dr_cells (x : XRequirement) : (encDR x).cells.length = 2 + 1 := rfl
theorem c19 (s : XService) (ok : okXService s) : R T0 19 [encXService s] (encXService s) := by
  obtain ⟨okm, ⟨hsel, hsels⟩, ⟨hpo, -⟩, -, -⟩ := ok
  obtain ⟨-, -, -, -, -, -, -, -, -, ⟨hlb, -⟩, ⟨how, -⟩, ⟨hfi, -⟩, ⟨hmg, hmgs⟩⟩ := okm
  refine r19 _ rfl rfl ?_
  unfold w19
  dsimp only [prims]
  rw [cells_S]
  obtain ⟨L, hL⟩ : ∃ L, AV.lst (s.meta_.labels_.map encXLabel) = L := ⟨_, rfl⟩
  obtain ⟨O, hO⟩ : ∃ L, AV.lst (s.meta_.owners_.map encXOwner) = L := ⟨_, rfl⟩
  obtain ⟨F, hF⟩ : ∃ L, AV.lst (s.meta_.finalizers_.map AV.s) = L := ⟨_, rfl⟩
  obtain ⟨M, hM⟩ : ∃ L, AV.lst (s.meta_.managers_.map encXManager) = L := ⟨_, rfl⟩
  obtain ⟨S, hS⟩ : ∃ L, AV.lst (s.selector_.map encXRequirement) = L := ⟨_, rfl⟩
  obtain ⟨Q, hQ⟩ : ∃ L, AV.lst (s.ports_.map encXServicePort) = L := ⟨_, rfl⟩
  have q26 : ∀ {d : Nat} {σ : AS} {K : AV → AS → Prop}, oC T0 d 26 [L] σ K = K (clA (s.meta_.labels_.map encXLabel)) σ := hL ▸ e26 hlb
  have q27 : ∀ {d : Nat} {σ : AS} {K : AV → AS → Prop}, oC T0 d 27 [O] σ K = K (clA (s.meta_.owners_.map encXOwner)) σ := hO ▸ e27 how
  have q28 : ∀ {d : Nat} {σ : AS} {K : AV → AS → Prop}, oC T0 d 28 [F] σ K = K (clA (s.meta_.finalizers_.map AV.s)) σ := hF ▸ e28 hfi
  have q31 : ∀ {d : Nat} {σ : AS} {K : AV → AS → Prop}, oC T0 d 31 [Q] σ K = K (clA (s.ports_.map encXServicePort)) σ := hQ ▸ e31 hpo
  have q29 : ∀ {d n : Nat} {K : AV → Option AB → Prop}, oA T0 d 29 [M] n K = K (rowV s.meta_.managers_ n) (rowB encXManager 76 s.meta_.managers_) := hM ▸ a29 hmg
  have q30 : ∀ {d n : Nat} {K : AV → Option AB → Prop}, oA T0 d 30 [S] n K = K (rowV s.selector_ n) (rowB encXRequirement 79 s.selector_) := hS ▸ a30 hsel
  rw [hL, hO, hF, hM, hS, hQ]
  have g0 : ∀ (b : Option AB), ((Tr.nil.put 0 (some (.cells (cellsS s L O F M S Q) 33 false))).put 1 b).get 0 = some (.cells (cellsS s L O F M S Q) 33 false) := fun b => by simp only [Tr.get_put]; rfl
  simp only [oN_eq, oV_some', off_p, nilc_p, Nat.zero_add, l9 (g0 _), l10 (g0 _), l11 (g0 _), l12 (g0 _), q26, q27, q28, q29]
  refine oT_intro (by kernel_rfl) ?_
  rw [s9 ((get_put_ne _ _ (by decide)).trans (g0 _)) (clA_cells _) (clA_leaf _), oD_some]
  refine oT_intro (by kernel_rfl) ?_
  refine oT_intro (by kernel_rfl) ?_
  rw [s10 (get_put_same _ _ _) (clA_cells _) (clA_leaf _), oD_some]
  refine oT_intro (by kernel_rfl) ?_
  refine oT_intro (by kernel_rfl) ?_
  rw [s11 (get_put_same _ _ _) (clA_cells _) (clA_leaf _), oD_some]
  refine oT_intro (by kernel_rfl) ?_
  refine oT_intro (by kernel_rfl) ?_
  rw [s12 (get_put_same _ _ _) rowV_cells rowV_leaf, oD_some]
  refine oT_intro (by kernel_rfl) ?_
  rw [oS_eq]
  rw [l12 (get_put_same _ _ _), oV_some', rowV_len elM.ty, oV_some']
  obtain ⟨L', hL'⟩ : ∃ L, clA (s.meta_.labels_.map encXLabel) = L := ⟨_, rfl⟩
  obtain ⟨O', hO'⟩ : ∃ L, clA (s.meta_.owners_.map encXOwner) = L := ⟨_, rfl⟩
  obtain ⟨F', hF'⟩ : ∃ L, clA (s.meta_.finalizers_.map AV.s) = L := ⟨_, rfl⟩
  obtain ⟨M', hM'⟩ : ∃ L, rowV s.meta_.managers_ (1 + 1) = L := ⟨_, rfl⟩
  rw [hL', hO', hF', hM']
  obtain ⟨ms, hms⟩ : ∃ l, s.meta_.managers_ = l := ⟨_, rfl⟩
  refine loop6 (X := Nat) (fun _ => .ptr 1 0) (fun _ => .ptr 0 0) (fun _ => .ptr 0 0) (fun _ => M') (fun _ => .i .i64 (s.meta_.managers_.length : Nat)) (fun j => .i .i64 (j : Nat))
    (fun j σ => j ≤ s.meta_.managers_.length ∧ 3 ≤ σ.n ∧ σ.h.get 0 = some (.cells (cellsS s L' O' F' M' S Q) 33 false) ∧ (∃ z, z.length = 17 ∧ σ.h.get 1 = some (.cells z 33 false)) ∧ RowAt encXManager encDM 76 σ.h s.meta_.managers_ 2 j) (fun j => s.meta_.managers_.length - j) ?_ 0 _ ⟨Nat.zero_le _, Nat.le_refl _, get_put_same _ _ _, ⟨[.s [], .s [], .s [], .i .i64 0, .i .i64 0, .i .i64 0, .i .i64 0, .b false, .i .i64 0, .nils, .nils, .nils, .nils, .nils, .nils, .b false, .i .i64 0], rfl, rfl⟩, RowAt.new rfl⟩
  rintro R j σ ⟨hj, hn, h0, ⟨z1, hz1, h1⟩, hr⟩ hR
  simp only [oV_some', bin_lt]
  refine oI_decd (fun h => ?_) (fun h => ?_)
  · have hj' : j < s.meta_.managers_.length := by omega
    rw [← hM', rowV_ia elM.ty elM.sz hj', oV_some', hr.load elM dm_cells hj', oV_some']
    generalize hx : s.meta_.managers_.getD j default = x
    have hxm : x ∈ s.meta_.managers_ := hx ▸ getD_mem hj'
    have hxf := (hmgs x hxm).2.1
    have e1 : ((σ.h.put σ.n (some (.cells [.s [], .nilz true] 76 false))).put σ.n (some (.cells (encXManager x).cells 76 false))).get 0 = some (.cells (cellsS s L' O' F' M' S Q) 33 false) := by rw [get_put_ne _ _ (by omega), get_put_ne _ _ (by omega)]; exact h0
    have e2 : RowAt encXManager encDM 76 ((σ.h.put σ.n (some (.cells [.s [], .nilz true] 76 false))).put σ.n (some (.cells (encXManager x).cells 76 false))) s.meta_.managers_ 2 j := hr.same (by rw [get_put_ne _ _ (by omega), get_put_ne _ _ (by omega)])
    have f1 : evLoad T0 ((σ.h.put σ.n (some (.cells [.s [], .nilz true] 76 false))).put σ.n (some (.cells (encXManager x).cells 76 false))) 26 (.ptr σ.n 1) = some (.lst (x.fields_.map AV.s)) := by rw [load_p (get_put_same _ _ _) (show 1 ≤ 2 by decide)]; exact fld_XManager_fields_ x
    rw [st_XManager, oH_some]
    simp only [oV_some', off_p, nilc_p, Nat.zero_add, l12 e1, f1, e28 hxf]
    rw [← hM', rowV_ia elM.ty elM.sz hj', oV_some', off_p, oV_some', e2.store dm_cells hj' sz_26 (by rw [clA_cells]; rfl) (by rw [clA_cells]; simp [allLeaf, clA_leaf]) (by rw [hx, clA_cells]; rfl), oD_some, oT_wr rfl rfl, oS_eq]
    simp (disch := omega) only [oV_some', bin_add, wr64]
    rw [hM']
    refine hR (j + 1) _ ⟨by omega, by dsimp only; omega, ?_, ⟨z1, hz1, ?_⟩, fun hne => get_put_same _ _ _⟩ (by omega)
    · dsimp only; rw [get_put_ne _ _ (by decide)]; exact e1
    · dsimp only; rw [get_put_ne _ _ (by decide), get_put_ne _ _ (by omega), get_put_ne _ _ (by omega)]; exact h1
  · clear hR
    have hall : s.meta_.managers_.length ≤ j := by omega
    simp only [oV_some', off_p, Nat.zero_add, l13 h0, l14 h0, q30]
    rw [oT_rd1 rfl, oT_rd rfl]
    obtain ⟨m, hm⟩ : ∃ m, σ.n = m := ⟨_, rfl⟩
    rw [hm] at hn ⊢
    rw [q31, oT_rd rfl, s13 ((get_put_ne _ _ (by omega)).trans h0) rowV_cells rowV_leaf, oD_some, oT_wr rfl rfl, oT_rd rfl, s14 (get_put_same _ _ _) (clA_cells _) (clA_leaf _), oD_some, oT_wr rfl rfl, oS_eq]
    rw [l13 (get_put_same _ _ _), oV_some', rowV_len elR.ty, oV_some']
    obtain ⟨S', hS'⟩ : ∃ L, rowV s.selector_ m = L := ⟨_, rfl⟩
    obtain ⟨P', hP'⟩ : ∃ L, clA (s.ports_.map encXServicePort) = L := ⟨_, rfl⟩
    rw [hS', hP']
    refine loop5 (X := Nat) (fun _ => .ptr 1 0) (fun _ => .ptr 0 0) (fun _ => S') (fun _ => .i .i64 (s.selector_.length : Nat)) (fun j => .i .i64 (j : Nat))
      (fun k σ => k ≤ s.selector_.length ∧ m + 1 ≤ σ.n ∧ σ.h.get 0 = some (.cells (cellsS s L' O' F' M' S' P') 33 false) ∧ (∃ z, z.length = 17 ∧ σ.h.get 1 = some (.cells z 33 false)) ∧ RowAt encXManager encDM 76 σ.h s.meta_.managers_ 2 j ∧ RowAt encXRequirement encDR 79 σ.h s.selector_ m k) (fun k => s.selector_.length - k) ?_ 0 _
      ⟨Nat.zero_le _, Nat.le_refl _, get_put_same _ _ _, ⟨z1, hz1, by simp (disch := omega) only [get_put_ne]; exact h1⟩, hr.same (by simp (disch := omega) only [get_put_ne]), RowAt.new (by simp (disch := omega) only [get_put_ne, get_put_same])⟩
    rintro R k σ ⟨hk, hn2, h0, ⟨z2, hz2, h1⟩, hrm, hr⟩ hR
    simp only [oV_some', bin_lt]
    refine oI_decd (fun h => ?_) (fun h => ?_)
    · have hk' : k < s.selector_.length := by omega
      rw [← hS', rowV_ia elR.ty elR.sz hk', oV_some', hr.load elR dr_cells hk', oV_some']
      generalize hx : s.selector_.getD k default = x
      have hxm : x ∈ s.selector_ := hx ▸ getD_mem hk'
      have hxf := (hsels x hxm).2.2.1
      have e1 : ((σ.h.put σ.n (some (.cells [.s [], .i .i64 0, .nilz true] 79 false))).put σ.n (some (.cells (encXRequirement x).cells 79 false))).get 0 = some (.cells (cellsS s L' O' F' M' S' P') 33 false) := by rw [get_put_ne _ _ (by omega), get_put_ne _ _ (by omega)]; exact h0
      have e2 : RowAt encXRequirement encDR 79 ((σ.h.put σ.n (some (.cells [.s [], .i .i64 0, .nilz true] 79 false))).put σ.n (some (.cells (encXRequirement x).cells 79 false))) s.selector_ m k := hr.same (by rw [get_put_ne _ _ (by omega), get_put_ne _ _ (by omega)])
      have f1 : evLoad T0 ((σ.h.put σ.n (some (.cells [.s [], .i .i64 0, .nilz true] 79 false))).put σ.n (some (.cells (encXRequirement x).cells 79 false))) 26 (.ptr σ.n 2) = some (.lst (x.values_.map AV.s)) := by rw [load_p (get_put_same _ _ _) (show 2 ≤ 3 by decide)]; exact fld_XRequirement_values_ x
      rw [st_XRequirement, oH_some]
      simp only [oV_some', off_p, nilc_p, Nat.zero_add, l13 e1, f1, e28 hxf]
      rw [← hS', rowV_ia elR.ty elR.sz hk', oV_some', off_p, oV_some', e2.store dr_cells hk' sz_26 (by rw [clA_cells]; rfl) (by rw [clA_cells]; simp [allLeaf, clA_leaf]) (by rw [hx, clA_cells]; rfl), oD_some, oT_wr rfl rfl, oS_eq]
      simp (disch := omega) only [oV_some', bin_add, wr64]
      rw [hS']
      refine hR (k + 1) _ ⟨by omega, by dsimp only; omega, ?_, ⟨z2, hz2, ?_⟩, hrm.same ?_, fun hne => get_put_same _ _ _⟩ (by omega)
      · dsimp only; rw [get_put_ne _ _ (by omega)]; exact e1
      · dsimp only; rw [get_put_ne _ _ (by omega), get_put_ne _ _ (by omega), get_put_ne _ _ (by omega)]; exact h1
      · dsimp only; rw [get_put_ne _ _ (by omega), get_put_ne _ _ (by omega), get_put_ne _ _ (by omega)]
    · have ld : ∀ {h : Tr AB} {id : Nat}, h.get id = some (.cells (cellsS s L' O' F' M' S' P') 33 false) → evLoad T0 h 33 (.ptr id 0) = some (.agg (cellsS s L' O' F' M' S' P')) := fun hg => by
        rw [load_p hg (Nat.zero_le _), List.drop_zero, ofc_33]; rfl
      have a1 : L'.leaf = true := hL' ▸ clA_leaf _
      have a2 : O'.leaf = true := hO' ▸ clA_leaf _
      have a3 : F'.leaf = true := hF' ▸ clA_leaf _
      have a4 : M'.leaf = true := hM' ▸ rowV_leaf
      have a5 : S'.leaf = true := hS' ▸ rowV_leaf
      have a6 : P'.leaf = true := hP' ▸ clA_leaf _
      have al : allLeaf (cellsS s L' O' F' M' S' P') = true := by
        unfold cellsS
        simp only [allLeaf, a1, a2, a3, a4, a5, a6]
        rfl
      rw [ld h0, oV_some', storeA_all (v := .agg (cellsS s L' O' F' M' S' P')) sz_33 h1 rfl hz2 al, oH_some]
      dsimp only [AV.cells]
      rw [ld (get_put_same _ _ _), oV_some']
      refine ⟨4, _, ?_, rfl⟩
      have fM : fz T0 (σ.h.put 1 (some (.cells (cellsS s L' O' F' M' S' P') 33 false))) 3 M' = some M := by
        rw [← hM', ← hM]; exact (hrm.same (get_put_ne _ _ (by decide))).fz elM dm_cells dm_free dm_norm hall
      have fS : fz T0 (σ.h.put 1 (some (.cells (cellsS s L' O' F' M' S' P') 33 false))) 3 S' = some S := by
        rw [← hS', ← hS]; exact (hr.same (get_put_ne _ _ (by omega))).fz elR dr_cells dr_free dr_norm (by omega)
      have fL : ∀ {h : Tr AB}, fz T0 h 3 L' = some L := fun {h} => by rw [← hL', ← hL, fz_free _ (clA_free _), clA_norm]
      have fO : ∀ {h : Tr AB}, fz T0 h 3 O' = some O := fun {h} => by rw [← hO', ← hO, fz_free _ (clA_free _), clA_norm]
      have fF : ∀ {h : Tr AB}, fz T0 h 3 F' = some F := fun {h} => by rw [← hF', ← hF, fz_free _ (clA_free _), clA_norm]
      have fP : ∀ {h : Tr AB}, fz T0 h 3 P' = some Q := fun {h} => by rw [← hP', ← hQ, fz_free _ (clA_free _), clA_norm]
      have fs : ∀ {h : Tr AB} (x : List UInt8), fz T0 h 3 (.s x) = some (.s x) := fun _ => rfl
      have fi : ∀ {h : Tr AB} (x : Int), fz T0 h 3 (.i .i64 x) = some (.i .i64 x) := fun _ => rfl
      have fb : ∀ {h : Tr AB} (x : Bool), fz T0 h 3 (.b x) = some (.b x) := fun _ => rfl
      dsimp only
      generalize σ.h.put 1 (some (.cells (cellsS s L' O' F' M' S' P') 33 false)) = H at fM fS ⊢
      rw [fz_agg]
      simp only [cellsS, mapO, fs, fi, fb, fL, fO, fF, fP, fM, fS, Option.map_some]
      rw [← hL, ← hO, ← hF, ← hM, ← hS, ← hQ]; rfl
theorem e19 {s : XService} (ok : okXService s) {d : Nat} {σ : AS} {K : AV → AS → Prop} : oC T0 d 19 [encXService s] σ K = K (encXService s) σ := (c19 s ok).eq d σ K
end Go.Proofs.YtbcikhbepldjhaaDoor.Ev
