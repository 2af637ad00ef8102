/- What 'ready' and 'sticky' of the laws make. -/
import Derived.Test.YtbcikhbepldjhaaDoorV5
namespace Go.Proofs.YtbcikhbepldjhaaDoor.Ev
open Go Go.RowKit
set_option linter.unusedSimpArgs false
set_option linter.unusedVariables false
set_option maxRecDepth 100000

def readyE (p : List UInt8) (i : Nat) : XEndpoint := ⟨p, [], (i : Int) + 1, true, false⟩
def readyTo (pods : List (List UInt8)) (j : Nat) : List XEndpoint := (List.range j).map (fun i => readyE (pods.getD i []) i)
def readyOf (pods : List (List UInt8)) : List XEndpoint := readyTo pods pods.length
theorem readyTo_len (pods : List (List UInt8)) (j : Nat) : (readyTo pods j).length = j := by simp [readyTo]
theorem readyTo_succ (pods : List (List UInt8)) (j : Nat) : readyTo pods (j + 1) = readyTo pods j ++ [readyE (pods.getD j []) j] := by
  unfold readyTo
  rw [List.range_succ, List.map_append]; rfl
theorem readyOf_at (pods : List (List UInt8)) {j : Nat} (h : j < pods.length) : (readyOf pods).getD j default = readyE (pods.getD j []) j := by
  unfold readyOf readyTo
  simp [List.getD_eq_getElem?_getD, h]
theorem cand_ready (pods : List (List UInt8)) (h : 0 < pods.length) : cand (readyOf pods) = readyOf pods := by
  have : readyL (readyOf pods) = readyOf pods := by
    unfold readyL
    rw [List.filter_eq_self]
    intro x hx
    unfold readyOf readyTo at hx
    rw [List.mem_map] at hx
    obtain ⟨i, _, rfl⟩ := hx
    rfl
  unfold cand
  rw [this, if_pos]
  unfold readyOf; rw [readyTo_len]; exact h
def setOf (l : List XEndpoint) : XEndpointSet := { (default : XEndpointSet) with items_ := l }
theorem build_54 (p : List UInt8) (i : Int) : evBuild T0 54 [(0, .s p), (2, .i .i64 i), (3, .b true)] = some (encXEndpoint ⟨p, [], i, true, false⟩) := by kernel_rfl
def z15 (v : AV) : List AV := [.s [], .s [], .s [], .i .i64 0, .i .i64 0, .i .i64 0, .i .i64 0, .b false, .i .i64 0, .nilz true, .nilz true, .nilz true, .nilz true, .nilz true, v]
theorem ld_z15 (v : AV) : ofCells T0 34 ((z15 v).drop 14) = some v := ofc_34 v []
theorem sA_z15 {h : Tr AB} {n : Nat} {o : Option Nat} {v : AV} (hg : h.get 1 = some (.cells (z15 v) 36 false)) : storeA T0 h 34 (.ptr 1 14) (vOf o n) = some (1, .cells (z15 (vOf o n)) 36 false) := by
  unfold storeA
  cases o <;> simp only [vOf, sz_34, hg] <;> rfl
theorem oZ_set {σ : AS} {n : Nat} {l : List XEndpoint} {o : Option Nat} {K : AV → Prop} (ho : Own encXEndpoint 54 σ.h n l o) (hK : K (encXEndpointSet (setOf l))) : oZ T0 σ (.agg (z15 (vOf o l.length))) K := by
  obtain ⟨k, r', hk, rfl⟩ : oZ T0 σ (vOf o l.length) (fun r => r = .lst (l.map encXEndpoint)) := oZ_own elE ho rfl
  cases o with
  | none =>
    have hl : l = [] := ho
    subst hl
    exact Eq.mpr (oZ_free rfl) hK
  | some id =>
    cases k with
    | zero => cases hk
    | succ k =>
      refine ⟨k + 1 + 1, _, ?_, hK⟩
      unfold fz
      have e0 : (AV.agg (z15 (vOf (some id) l.length))).idfree = false := rfl
      simp only [e0]
      have fs : fz T0 σ.h (k + 1) (.s []) = some (.s []) := rfl
      have fi : fz T0 σ.h (k + 1) (.i .i64 0) = some (.i .i64 0) := rfl
      have fb : fz T0 σ.h (k + 1) (.b false) = some (.b false) := rfl
      have fn : fz T0 σ.h (k + 1) (.nilz true) = some (.lst []) := rfl
      simp only [z15, mapO, fs, fi, fb, fn, hk, Option.map_some]
      rfl
theorem c16 (pods : List (List UInt8)) (hl : pods.length ≤ 1048576) (hp : ∀ p ∈ pods, p.length ≤ 140737488351232) : R T0 16 [.lst (pods.map AV.s)] (encXEndpointSet (setOf (readyOf pods))) := by
  refine r16 _ rfl rfl ?_
  unfold w16
  dsimp only [prims]
  rw [oN_eq, oN_eq]
  refine loop4 (X := Nat × Option Nat) (fun _ => .ptr 0 0) (fun _ => .ptr 1 0) (fun _ => .lst (pods.map AV.s)) (fun x => .i .i64 (x.1 : Nat))
    (fun x σ => x.1 ≤ pods.length ∧ 2 ≤ σ.n ∧ σ.h.get 0 = some (.cells (z15 (.nilz true)) 36 false) ∧ σ.h.get 1 = some (.cells (z15 (vOf x.2 (readyTo pods x.1).length)) 36 false) ∧ Own encXEndpoint 54 σ.h σ.n (readyTo pods x.1) x.2 ∧ (∀ i, x.2 = some i → 2 ≤ i)) (fun x => pods.length - x.1) ?_ (0, none) _
    ⟨Nat.zero_le _, Nat.le_refl _, by simp (disch := omega) only [get_put_ne, get_put_same]; rfl, by simp only [get_put_same]; rfl, rfl, fun i h => (by cases h)⟩
  rintro R ⟨j, o⟩ σ ⟨hj, hn, hb0, hb1, ho, h2⟩ hR
  dsimp only at hj hb0 hb1 ho h2 hn ⊢
  have hlen := readyTo_len pods j
  simp (disch := first | omega | assumption | exact scell | exact clen_XLabel | exact clen_XOwner | exact clen_XManager | exact clen_XMeta | exact clen_XRequirement | exact clen_XServicePort | exact clen_XService | exact clen_XEndpoint | exact clen_XEndpointSet | (simp only [clen_XLabel, clen_XOwner, clen_XManager, clen_XMeta, clen_XRequirement, clen_XServicePort, clen_XService, clen_XEndpoint, clen_XEndpointSet]; omega)) only [oV_some', len_26, slen_map, bin_lt]
  refine oI_decd (fun h => ?_) (fun h => ?_)
  · have hcl : ∀ v, 14 ≤ (z15 v).length := fun v => by simp [z15]
    have hs : (AV.s (pods.getD j default)).cells = [.s (pods.getD j [])] := rfl
    simp (disch := first | first | omega | assumption | exact scell | exact clen_XLabel | exact clen_XOwner | exact clen_XManager | exact clen_XMeta | exact clen_XRequirement | exact clen_XServicePort | exact clen_XService | exact clen_XEndpoint | exact clen_XEndpointSet | (simp only [clen_XLabel, clen_XOwner, clen_XManager, clen_XMeta, clen_XRequirement, clen_XServicePort, clen_XService, clen_XEndpoint, clen_XEndpointSet]; omega) | exact hcl _) only [oV_some', off_p, Nat.zero_add, load_get, hb1, loadB_some, ld_z15, ia_26, load_i, hs, ofc_9, bin_add, wr64, Int.toNat_natCast]
    have e9' : ofCells T0 9 (List.drop 0 (AV.s (pods.getD j default)).cells) = some (.s (pods.getD j [])) := ofc_9 _ _
    try simp (disch := first | omega | assumption | exact scell | exact clen_XLabel | exact clen_XOwner | exact clen_XManager | exact clen_XMeta | exact clen_XRequirement | exact clen_XServicePort | exact clen_XService | exact clen_XEndpoint | exact clen_XEndpointSet | (simp only [clen_XLabel, clen_XOwner, clen_XManager, clen_XMeta, clen_XRequirement, clen_XServicePort, clen_XService, clen_XEndpoint, clen_XEndpointSet]; omega)) only [e9', oV_some']
    rw [build_54, oV_some']
    change oE (evLit T0 34 1 [(0, encXEndpoint (readyE (pods.getD j []) j))]) _
    rw [lit_34, oE_some, oS_eq]
    rw [app_one elE (l := readyTo pods j) (x := readyE (pods.getD j []) j) (ho.same (fun i hi hlt => by simp (disch := omega) only [get_put_ne]) (by omega)) (get_put_same _ _ _) (small48 (by omega)), oM_some]
    have hne1 : o ≠ some 1 := fun e => by have := h2 1 e; omega
    have hne0 : o ≠ some 0 := fun e => by have := h2 0 e; omega
    simp (disch := first | omega | assumption | exact scell | exact clen_XLabel | exact clen_XOwner | exact clen_XManager | exact clen_XMeta | exact clen_XRequirement | exact clen_XServicePort | exact clen_XService | exact clen_XEndpoint | exact clen_XEndpointSet | (simp only [clen_XLabel, clen_XOwner, clen_XManager, clen_XMeta, clen_XRequirement, clen_XServicePort, clen_XService, clen_XEndpoint, clen_XEndpointSet]; omega)) only [off_p, Nat.zero_add, oV_some']
    rw [sA_z15 (v := vOf o (readyTo pods j).length) (by rw [get_put_ne _ _ (by omega), kill_get hne1, get_put_ne _ _ (by omega)]; exact hb1), oD_some]
    refine ⟨by simp [rdsOK, wrsOK, memN], ?_⟩
    rw [oS_eq]
    try simp (disch := first | omega | assumption | exact scell | exact clen_XLabel | exact clen_XOwner | exact clen_XManager | exact clen_XMeta | exact clen_XRequirement | exact clen_XServicePort | exact clen_XService | exact clen_XEndpoint | exact clen_XEndpointSet | (simp only [clen_XLabel, clen_XOwner, clen_XManager, clen_XMeta, clen_XRequirement, clen_XServicePort, clen_XService, clen_XEndpoint, clen_XEndpointSet]; omega)) only [oV_some', bin_add, wr64]
    have e2 := readyTo_succ pods j
    refine hR (j + 1, some (σ.n + 1)) _ ⟨by dsimp only; omega, by dsimp only; omega, ?_, ?_, ?_, fun i hi => by (dsimp only at hi; injection hi with hi; omega)⟩ (by dsimp only; omega)
    · dsimp only
      rw [get_put_ne _ _ (by omega), get_put_ne _ _ (by omega), kill_get hne0, get_put_ne _ _ (by omega)]; exact hb0
    · dsimp only
      rw [get_put_same, readyTo_len, readyTo_len]
    · dsimp only
      rw [e2]
      exact ⟨by simp, by omega, by rw [get_put_ne _ _ (by omega), get_put_same]⟩
  · have hjl : j = pods.length := by omega
    subst hjl
    have l0 : ∀ v, ofCells T0 36 ((z15 v).drop 0) = some (.agg (z15 v)) := fun v => by rw [ofc_36]; rfl
    have st : evStore T0 σ.h 36 (.ptr 0 0) (.agg (z15 (vOf o (readyTo pods pods.length).length))) = some (σ.h.put 0 (some (.cells (z15 (vOf o (readyTo pods pods.length).length)) 36 false))) :=
      storeA_all sz_36 hb0 rfl rfl (by cases o <;> rfl)
    simp (disch := first | omega | assumption | exact scell | exact clen_XLabel | exact clen_XOwner | exact clen_XManager | exact clen_XMeta | exact clen_XRequirement | exact clen_XServicePort | exact clen_XService | exact clen_XEndpoint | exact clen_XEndpointSet | (simp only [clen_XLabel, clen_XOwner, clen_XManager, clen_XMeta, clen_XRequirement, clen_XServicePort, clen_XService, clen_XEndpoint, clen_XEndpointSet]; omega)) only [oV_some', load_get, hb1, loadB_some, l0, st, oH_some, get_put_same, Nat.zero_le]
    exact oZ_set (l := readyOf pods) (ho.put (fun i hi => by have := h2 i hi; omega) (Nat.le_refl _)) rfl
theorem e16 {pods : List (List UInt8)} (hl : pods.length ≤ 1048576) (hp : ∀ p ∈ pods, p.length ≤ 140737488351232) {d : Nat} {σ : AS} {K : AV → AS → Prop} : oC T0 d 16 [.lst (pods.map AV.s)] σ K = K (encXEndpointSet (setOf (readyOf pods))) σ := (c16 pods hl hp).eq d σ K
def stickyS : XService := { (default : XService) with sticky_ := true, ports_ := [⟨[], 1, 2⟩] }
theorem c17 : R T0 17 [] (encXService stickyS) := ⟨30, fun σ => by kernel_rfl⟩
theorem e17 {d : Nat} {σ : AS} {K : AV → AS → Prop} : oC T0 d 17 [] σ K = K (encXService stickyS) σ := c17.eq d σ K
end Go.Proofs.YtbcikhbepldjhaaDoor.Ev
