/- Rows of the call's own that began as an empty row. -/
import Derived.Test.YtmfhmlhaofpeiaaGreatDoorEvLg
namespace Go.Proofs.YtmfhmlhaofpeiaaGreatDoor.Ev
open Go Go.RowKit
set_option linter.unusedSimpArgs false
set_option linter.unusedVariables false
section
variable {T : Tab} {t e z by_ : Nat} {ag : Bool} {es xs : List AV} {h : Tr AB}
def OwnW (e m : Nat) (h : Tr AB) (n : Nat) (es : List AV) (x : AV) : Prop := (es = [] /\ ∃ b, x = .nilz b) ∨ ∃ id, es ≠ [] /\ x = .sl id 0 es.length none /\ m <= id /\ id < n /\ h.get id = some (.cells (aM es) e true)
theorem OwnW.none {m n : Nat} {b : Bool} : OwnW e m h n [] (.nilz b) := .inl ⟨rfl, b, rfl⟩
theorem OwnW.leaf {m n : Nat} {x : AV} (o : OwnW e m h n es x) : x.leaf = true := by
 rcases o with ⟨_, b, rfl⟩ | ⟨id, _, rfl, _⟩ <;> rfl
theorem OwnW.cells {m n : Nat} {x : AV} (o : OwnW e m h n es x) : x.cells = [x] := by
 rcases o with ⟨_, b, rfl⟩ | ⟨id, _, rfl, _⟩ <;> rfl
theorem OwnW.same {h' : Tr AB} {m n n' : Nat} {x : AV} (o : OwnW e m h n es x) (hs : ∀ j, m <= j -> j < n -> h'.get j = h.get j) (hn : n <= n') : OwnW e m h' n' es x := by
 rcases o with o | ⟨id, h1, h2, h3, h4, h5⟩
 ·exact .inl o
 ·exact .inr ⟨id, h1, h2, h3, by omega, by rw [hs id h3 h4]; exact h5⟩
theorem appW (E : RowT T t e z by_ ag) {m n : Nat} {x : AV} (o : OwnW e m h n es x) (hm : m <= n) (h1 : RowE z ag es) (h2 : RowE z ag xs) (hs : cq (es.length + xs.length) by_ = true) :
  ∃ x' σ', aG T ⟨h, n⟩ t t x (.lst xs) = some (x', σ') /\ OwnW e m σ'.h σ'.n (es ++ xs) x' /\ n <= σ'.n /\ ∀ j, j < m -> σ'.h.get j = h.get j := by
 obtain ⟨zv, hzv⟩ := Option.isSome_iff_exists.1 E.zr
 have nr := mq (h := h) h2
 have hl := h2.leaf
 cases xs with
 | nil =>
  refine ⟨x, ⟨h, n⟩, ?_, by rw [List.append_nil]; exact o, Nat.le_refl _, fun j _ => rfl⟩
  unfold aG
  simp only [E.ty, E.sz, E.bytes, hzv, iW, nr]
  rcases o with ⟨_, b, rfl⟩ | ⟨id, _, rfl, _⟩ <;> rfl
 | cons a l =>
  rcases o with ⟨rfl, b, rfl⟩ | ⟨id, g1, rfl, g2, g3, g4⟩
  ·refine ⟨.sl n 0 (a :: l).length none, ⟨h.put n (some (.cells (aM (a :: l)) e true)), n + 1⟩, ?_, ?_, Nat.le_succ _, fun j hj => by dsimp only; rw [Tr.get_put, if_neg (by omega)]⟩
   ·simp only [List.length_nil, Nat.zero_add, List.length_cons] at hs nr
    unfold aG
    simp only [E.ty, E.sz, E.bytes, hzv, iW, List.length_cons, nr, hs, iD, List.nil_append]
   ·exact .inr ⟨n, by simp, by rw [List.nil_append], hm, Nat.lt_succ_self n, by dsimp only; rw [Tr.get_put, if_pos rfl, List.nil_append]⟩
  ·have hr := h1.len
   have b1 : Nat.beq e e = true := Nat.beq_refl e
   have b2 : Nat.beq (es.length * (z + 1)) (aM es).length = true := by rw [hr]; exact Nat.beq_refl _
   refine ⟨.sl n 0 (es.length + (a :: l).length) none, ⟨(h.put id none).put n (some (.cells (aM es ++ aM (a :: l)) e true)), n + 1⟩, ?_, ?_, Nat.le_succ _, fun j hj => by dsimp only; rw [Tr.get_put, if_neg (by omega), Tr.get_put, if_neg (by omega)]⟩
   ·simp only [List.length_cons] at hs nr
    unfold aG
    simp only [E.ty, E.sz, E.bytes, hzv, iW, List.length_cons, nr, g4, hl, hs, b1, b2]
   ·exact .inr ⟨n, by simp, by rw [List.length_append], hm, Nat.lt_succ_self n, by dsimp only; rw [Tr.get_put, if_pos rfl, sV]⟩
theorem fzW (E : RowT T t e z by_ ag) (h1 : RowE z ag es) {m n : Nat} {x : AV} (o : OwnW e m h n es x) : fz T h 3 x = some (.lst es) := by
 rcases o with ⟨rfl, b, rfl⟩ | ⟨id, g1, rfl, g2, g3, g4⟩
 ·exact dn (T := T) (h := h) 2 (a := .nilz b) rfl
 ·exact xa (σ := ⟨h, n⟩) E h1 g4
end
end Go.Proofs.YtmfhmlhaofpeiaaGreatDoor.Ev
