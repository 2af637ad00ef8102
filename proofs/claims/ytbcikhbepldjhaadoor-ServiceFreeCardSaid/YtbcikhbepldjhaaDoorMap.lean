/- A set by 'map[K]bool' that the call itself made: which keys are true; a store of 'true' and a look-up, for the walk. -/
import Derived.Maps.OwnSet
import Derived.Maps.OwnOps
import Derived.Maps.Views
import Derived.Below
namespace Go.Proofs.YtbcikhbepldjhaaDoorW.Sets
open Go Go.Maps Go.RowKit

/-- Block b is a map of at most n entries, all plain bools, in which just the keys of S read as true. -/
def SetIs (w : World) (P : Program) (k e : TypeId) (b n : Nat) (S : Lit → Bool) : Prop :=
  ∃ D : DataW Unit, w.ownsMap P k (plainElem P e) b n D ∧ IsMap D ∧ ∀ kl, D.atKey kl (.lit (.bool false)) = .lit (.bool (S kl))
theorem setIs_made (w : World) (P : Program) (k e : TypeId) : SetIs (w.alloc (.map #[] 0)) P k e w.heap.size 0 (fun _ => false) :=
  ⟨.map [], World.ownsMap_made _ _ _ _, isMap_empty, fun _ => rfl⟩
theorem SetIs.kept {w w' : World} {P : Program} {k e : TypeId} {b n : Nat} {S : Lit → Bool} {row : Option Nat} (h : SetIs w P k e b n S) (hg : w.grownBy w' row) (hne : some b ≠ row) : SetIs w' P k e b n S := by
  obtain ⟨D, h1, h2, h3⟩ := h
  exact ⟨D, h1.kept hg hne, h2, h3⟩
theorem SetIs.drew {w : World} {P : Program} {k e : TypeId} {b n : Nat} {S : Lit → Bool} (h : SetIs w P k e b n S) : SetIs w.drew P k e b n S := h
theorem SetIs.lt {w : World} {P : Program} {k e : TypeId} {b n : Nat} {S : Lit → Bool} (h : SetIs w P k e b n S) : b < w.heap.size := by
  obtain ⟨D, h1, _⟩ := h
  exact h1.lt
theorem SetIs.below {w w' : World} {P : Program} {k e : TypeId} {b n B : Nat} {S : Lit → Bool} (h : SetIs w P k e b n S) (hb : Below B w w') (hlt : b < B) : SetIs w' P k e b n S := by
  obtain ⟨D, ⟨es, clock, h1, h2, h3, h4⟩, h5, h6⟩ := h
  exact ⟨D, ⟨es, clock, (hb.block b hlt).trans h1, h2, h3, h4⟩, h5, h6⟩
theorem SetIs.ext {w : World} {P : Program} {k e : TypeId} {b n : Nat} {S S' : Lit → Bool} (h : SetIs w P k e b n S) (hS : ∀ x, S x = S' x) : SetIs w P k e b n S' := by
  obtain ⟨D, h1, h2, h3⟩ := h
  exact ⟨D, h1, h2, fun kl => by rw [h3, hS]⟩
theorem plainElem_bool_inv {P : Program} {e : TypeId} (he : P.underlying e = some .bool) {v : Value} {z : DataW Unit × List MemPlace} (h : plainElem P e v = some z) : ∃ x, v = .bool x ∧ z = (.lit (.bool x), []) := by
  unfold plainElem at h
  rw [he] at h
  cases v <;> simp at h
  exact ⟨_, rfl, h.symm⟩
theorem SetIs.look {w : World} {P : Program} {t k e : TypeId} {b n : Nat} {S : Lit → Bool} (h : SetIs w P k e b n S) (K : Keyed P k) (ht : P.underlying t = some (.map k e)) (he : P.underlying e = some .bool) (hz : (zeroValue e).run P w = .ok (.bool false) w)
    {key : Value} {kl : Lit} (hkey : keyOf P k key = some kl) : (Instr.lookup t (.map (some b)) key false).run P w = .ok (.bool (S kl)) w := by
  obtain ⟨D, h1, h2, h3⟩ := h
  obtain ⟨v, ps, hrun, hv⟩ := h1.lookup K ht hz (plainElem_bool he false) hkey
  obtain ⟨x, rfl, hx⟩ := plainElem_bool_inv he hv
  rw [hrun]
  have e1 := h3 kl
  rw [(Prod.mk.inj hx).1] at e1
  injection e1 with e2
  injection e2 with e3
  rw [e3]
/-- 'm[k]' at the operation. -/
theorem wpList_set_look {P : Program} (w : World) {ops : Array Oper} {rest : List Oper} {o : Oper} {a : Act} {Q : Exit → Act → World → Prop}
    (hg : o.guard = none) (m x : Operand) (t : TypeId) (hop : o.op = Op.lookup t m x false)
    (k e : TypeId) (K : Keyed P k) (ht : P.underlying t = some (.map k e)) (he : P.underlying e = some .bool) (hz : (zeroValue e).run P w = .ok (.bool false) w) (b n : Nat) (S : Lit → Bool)
    (hm : a.eval m = .map (some b)) (hown : SetIs w P k e b n S) (key : Value) (kl : Lit) (hx : a.eval x = key) (hkey : keyOf P k key = some kl)
    (hK : wpList P ops Q rest (a.put o.dst (.bool (S kl))) w) :
    wpList P ops Q (o :: rest) a w := by
  refine wpList_plain hg fun K' hK' => ?_
  have hrun := hown.look K ht he hz hkey
  unfold Oper.wp
  simp [execOp, hop, hm, hx, hrun, Result.andThen]
  exact hK' _ _ hK
/-- 'm[k] = true' at the operation. -/
theorem wpList_set_put {P : Program} (w : World) {ops : Array Oper} {rest : List Oper} {o : Oper} {a : Act} {Q : Exit → Act → World → Prop}
    (hg : o.guard = none) (m x v : Operand) (t : TypeId) (hop : o.op = Op.mapUpdate t m x v)
    (k e : TypeId) (K : Keyed P k) (ht : P.underlying t = some (.map k e)) (he : P.underlying e = some .bool) (b n : Nat) (S : Lit → Bool)
    (hm : a.eval m = .map (some b)) (hown : SetIs w P k e b n S) (hn : n < maxLen) (key val : Value) (kl : Lit) (hx : a.eval x = key) (hv : a.eval v = val) (hkey : keyOf P k key = some kl) (hval : val = .bool true)
    (hK : ∀ w', SetIs w' P k e b (n + 1) (fun y => S y || kl.sameKey y) → w.grownBy w' (some b) → wpList P ops Q rest (a.put o.dst undef) w') :
    wpList P ops Q (o :: rest) a w := by
  obtain ⟨D, h1, h2, h3⟩ := hown
  have hlit := K.key hkey
  subst hval
  refine wpList_mapUpdate_own w hg m x v t hop k e K ht (plainElem P e) b n D hm h1 hn key (.bool true) kl hx hv hkey (.lit (.bool true)) [] (plainElem_bool he true) fun w' r1 r2 => hK w' ⟨_, r1, h2.put _ _, fun y => ?_⟩ r2
  by_cases hy : y = kl
  · subst hy
    rw [atKey_put_same h2 hlit]
    simp [WideAt.sameKey_self hlit]
  · have e0 := sameKey_ne (fun e => hy e.symm)
    rw [atKey_put_other hy, h3]
    simp [e0]
end Go.Proofs.YtbcikhbepldjhaaDoorW.Sets
