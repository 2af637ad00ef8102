/- Calls of functions that are given what they are handed: the blocks behind it are gone afterwards. -/
import Derived.Test.YtmfhmlhaofpeiaaGreatDoorEvLh
namespace Go.Proofs.YtmfhmlhaofpeiaaGreatDoor.Ev
open Go Go.RowKit
set_option linter.unusedSimpArgs false
set_option linter.unusedVariables false
section
variable {T : Tab} {t e z by_ : Nat} {ag : Bool} {es xs : List AV} {h : Tr AB}
theorem iy {k : Nat} {a : AV} (hi : a.idfree = true) : rch T h k a = [] := by
 cases k with
 | zero => rfl
 | succ k => unfold rch; simp only [hi]
theorem uU {l : List AV} (hi : AV.idfree.idfrees l = true) {a : AV} (ha : a ∈ l) : a.idfree = true := by
 obtain ⟨j, hj⟩ := List.getElem?_of_mem ha
 exact cO hi hj
theorem ks {k : Nat} {l : List AV} (hi : AV.idfree.idfrees l = true) : l.flatMap (rch T h k) = [] := by
 rw [List.flatMap_eq_nil_iff]
 exact fun a ha => iy (uU hi ha)
theorem R.mkG {f : Nat} {args : List AV} {r : AV} {fn : Func} {c : Code} (h1 : T.prim f = none) (h2 : fI T f args = none) (h3 : T.fn f = some fn) (h4 : fn.body = some c) (h5 : T.opened f = true) (hm : T.mode f = 2) (h6 : AV.idfree.idfrees args = true) (h7 : AV.norm.norms args = args) {an : AN}
  (hv : bI (av T) T fn c an args ⟨.nil, 0⟩ (fun r1 σ1 => oZ T σ1 r1 (fun r2 => r2 = r))) : R T f args r := by
 obtain ⟨k, r1, σ1, e1, m, r2, e2, rfl⟩ := dq hv
 refine ⟨max k m + 1, fun σ => ?_⟩
 have e1' := hI (m := max k m) (aT k (max k m) (Nat.le_max_left _ _)) (Nat.le_max_left _ _) e1
 have e2' := gj m (max k m + 1) _ _ (by omega) e2
 have b : (Nat.beq 2 3 && true) = false := rfl
 have hz := cZ (T := T) (h := σ.h) (max k m) args h6
 rw [h7] at hz
 unfold aJ
 simp only [h1, h2, h3, h4, h5, hm, h6, h7, b, e1', e2', hz, ks h6, lV]
theorem Runs.give {f : Nat} {args args' : List AV} {r : AV} {σ : AS} (h1 : T.prim f = none) (h2 : T.ext f = none) (h5 : T.opened f = true) (hm : T.mode f = 2 ∨ T.mode f = 3) (hi : AV.idfree.idfrees args = false) (hi' : AV.idfree.idfrees args' = true) (hn : AV.norm.norms args' = args') {m : Nat}
  (hz : cV (fz T σ.h m) args = some args') (h : R T f args' r) : ∃ k, Runs T f args σ r ⟨lV σ.h (args.flatMap (rch T σ.h k)), σ.n⟩ := by
 obtain ⟨k, hk⟩ := h
 have e := aT k (max k m + 1) (by omega) _ _ _ _ (hk σ)
 refine ⟨max k m + 1, max k m + 1, ?_⟩
 have hz' := tj (k := max k m + 1) (by omega) hz
 have hz2 := cZ (T := T) (h := σ.h) (max k m) args' hi'
 rw [hn] at hz2
 have b1 : (Nat.beq 2 3 && true) = false := rfl
 have b2 : (Nat.beq 2 3 && false) = false := rfl
 have b3 : (Nat.beq 3 3 && true) = true := rfl
 have b4 : (Nat.beq 3 3 && false) = false := rfl
 unfold aJ at e |-
 rcases hm with hm | hm
 ·simp only [fI, h1, h2, h5, hm, hi, hi', hn, hz', hz2, b1, b2] at e |-
  split at e
  ·rename_i fn hfn
   split at e
   ·rename_i c hc
    split at e
    ·rename_i r1 σ1 hb
     split at e
     ·rename_i r2 hr
      injection e with e
      simp only [Prod.mk.injEq] at e
      obtain ⟨rfl, _⟩ := e
      simp only [hb, hr]
     ·cases e
    ·cases e
   ·cases e
  ·cases e
 ·simp only [fI, h1, h2, h5, hm, hi, hi', hn, hz', hz2, b3, b4] at e |-
  split at e
  ·rename_i fn hfn
   split at e
   ·rename_i c hc
    split at e
    ·rename_i r1 σ1 hb
     split at e
     ·rename_i r2 hr
      injection e with e
      simp only [Prod.mk.injEq] at e
      obtain ⟨rfl, _⟩ := e
      simp only [hb, hr]
     ·cases e
    ·cases e
   ·cases e
  ·cases e
theorem R.nrmH {f : Nat} {args args' : List AV} {r : AV} (h1 : T.prim f = none) (h2 : T.ext f = none) (h5 : T.opened f = true) (hm : T.mode f = 3 ∨ T.mode f = 2) (hi : AV.idfree.idfrees args = true) (hi' : AV.idfree.idfrees args' = true) (hn : AV.norm.norms args = AV.norm.norms args') (h : R T f args' r) : R T f args r := by
 obtain ⟨k, hk⟩ := h
 cases k with
 | zero => have := hk ⟨.nil, 0⟩; unfold aJ at this; cases this
 | succ k =>
  refine ⟨k + 1, fun σ => ?_⟩
  have e := hk σ
  have b1 : (Nat.beq 2 3 && true) = false := rfl
  have b3 : (Nat.beq 3 3 && true) = true := rfl
  have z1 := cZ (T := T) (h := σ.h) k args hi
  have z2 := cZ (T := T) (h := σ.h) k args' hi'
  unfold aJ at e |-
  rcases hm with hm | hm <;>
  ·simp only [fI, h1, h2, h5, hm, hi, hi', hn, b1, b3, z1, z2, ks hi, ks hi'] at e |-
   exact e
theorem pb {id len : Nat} {cap : Option Nat} {cs : List AV} {g : Bool} (hg : h.get id = some (.cells cs e g)) (hf : AV.idfree.idfrees cs = true) (k : Nat) : ∀ i ∈ rch T h k (.sl id 0 len cap), i = id := by
 cases k with
 | zero => intro i hi; cases hi
 | succ k =>
  intro i hi
  unfold rch at hi
  simp only [AV.idfree, hg] at hi
  split at hi
  ·rw [ks (lZ _ (jg _ hf))] at hi
   exact List.mem_singleton.1 hi
  ·exact List.mem_singleton.1 hi
theorem OwnW.rch {m n : Nat} {x : AV} (o : OwnW e m h n es x) (hf : AV.idfree.idfrees (aN es) = true) (k : Nat) : ∀ i ∈ Go.Proofs.YtmfhmlhaofpeiaaGreatDoor.Ev.rch T h k x, m <= i := by
 rcases o with ⟨rfl, b, rfl⟩ | ⟨id, g1, rfl, g2, g3, g4⟩
 ·intro i hi; rw [iy rfl] at hi; cases hi
 ·intro i hi; rw [pb g4 hf k i hi]; exact g2
theorem qo {l : List Nat} {m j : Nat} (hl : ∀ i ∈ l, m <= i) (hj : j < m) : (lV h l).get j = h.get j := by
 rw [fF, if_neg (fun q => by have := hl j q; omega)]
end
end Go.Proofs.YtmfhmlhaofpeiaaGreatDoor.Ev
