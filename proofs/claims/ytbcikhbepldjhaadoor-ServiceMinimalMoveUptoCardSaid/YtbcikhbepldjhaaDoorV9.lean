/- The law ServiceMinimalMove: with sticky routing the best endpoint stays the best when another is removed. -/
import Derived.Test.YtbcikhbepldjhaaDoorV8
namespace Go.Proofs.YtbcikhbepldjhaaDoor.Ev
open Go Go.RowKit
set_option linter.unusedSimpArgs false
set_option linter.unusedVariables false
set_option maxRecDepth 100000

section
variable {α : Type} (lt : α → α → Bool) (d : α)
/-- The place of the first that no other beats. -/
def bestG (l : List α) : Nat → Nat
  | 0 => 0
  | k + 1 => if lt (l.getD (k + 1) d) (l.getD (bestG l k) d) then k + 1 else bestG l k
structure OrdB (lt : α → α → Bool) : Prop where
  irr : ∀ a, lt a a = false
  tr : ∀ a b c, lt a b = true → lt b c = true → lt a c = true
  neg : ∀ a b c, lt a b = false → lt b c = false → lt a c = false
variable {lt} {d}
theorem bestG_le (l : List α) : ∀ k, bestG lt d l k ≤ k
  | 0 => Nat.le_refl _
  | k + 1 => by
    have := bestG_le l k
    unfold bestG
    split <;> omega
/-- It beats all before it, and none behind it beats it. -/
theorem bestG_is (O : OrdB lt) (l : List α) : ∀ k, (∀ j, j < bestG lt d l k → lt (l.getD (bestG lt d l k) d) (l.getD j d) = true) ∧ (∀ j, j ≤ k → lt (l.getD j d) (l.getD (bestG lt d l k) d) = false)
  | 0 => ⟨fun j h => by simp [bestG] at h, fun j h => by
    have : j = 0 := by omega
    subst this; exact O.irr _⟩
  | k + 1 => by
    obtain ⟨h1, h2⟩ := bestG_is O l k
    have hle := bestG_le (lt := lt) (d := d) l k
    unfold bestG
    split
    · rename_i hb
      refine ⟨fun j hj => ?_, fun j hj => ?_⟩
      · have h3 := h2 j (by omega)
        cases hc : lt (l.getD (k + 1) d) (l.getD j d) with
        | true => rfl
        | false => have := O.neg _ _ _ hc h3; rw [hb] at this; cases this
      · by_cases e : j = k + 1
        · subst e; exact O.irr _
        · have h3 := h2 j (by omega)
          cases hc : lt (l.getD j d) (l.getD (k + 1) d) with
          | false => rfl
          | true => have := O.tr _ _ _ hc hb; rw [h3] at this; cases this
    · rename_i hb
      have hb : lt (l.getD (k + 1) d) (l.getD (bestG lt d l k) d) = false := by simpa using hb
      refine ⟨h1, fun j hj => ?_⟩
      by_cases e : j = k + 1
      · subst e; exact hb
      · exact h2 j (by omega)
theorem bestG_unique (O : OrdB lt) (l : List α) {k i : Nat} (hi : i ≤ k) (h1 : ∀ j, j < i → lt (l.getD i d) (l.getD j d) = true) (h2 : ∀ j, j ≤ k → lt (l.getD j d) (l.getD i d) = false) : bestG lt d l k = i := by
  obtain ⟨g1, g2⟩ := bestG_is (d := d) O l k
  have hle := bestG_le (lt := lt) (d := d) l k
  rcases Nat.lt_trichotomy (bestG lt d l k) i with h | h | h
  · have := g2 i hi
    rw [h1 _ h] at this; cases this
  · exact h
  · have := h2 _ hle
    rw [g1 _ h] at this; cases this
/-- Without another element than the best, the best stays. -/
theorem bestG_erase (O : OrdB lt) (l : List α) {g : Nat} (hg : g < l.length) (h2 : 2 ≤ l.length) (hne : bestG lt d l (l.length - 1) ≠ g) :
    (l.eraseIdx g).getD (bestG lt d (l.eraseIdx g) ((l.eraseIdx g).length - 1)) d = l.getD (bestG lt d l (l.length - 1)) d := by
  obtain ⟨g1, g2⟩ := bestG_is (d := d) O l (l.length - 1)
  have hle := bestG_le (lt := lt) (d := d) l (l.length - 1)
  generalize bestG lt d l (l.length - 1) = b at *
  have hel : (l.eraseIdx g).length = l.length - 1 := List.length_eraseIdx_of_lt hg
  have at_ : ∀ j, (l.eraseIdx g).getD j d = if j < g then l.getD j d else l.getD (j + 1) d := fun j => by
    rw [List.getD_eq_getElem?_getD, List.getElem?_eraseIdx]
    split <;> simp [List.getD_eq_getElem?_getD]
  have e2 : (if (if b < g then b else b - 1) < g then l.getD (if b < g then b else b - 1) d else l.getD ((if b < g then b else b - 1) + 1) d) = l.getD b d := by
    by_cases hb : b < g
    · rw [if_pos hb, if_pos hb]
    · rw [if_neg hb, if_neg (by omega)]
      have e : b - 1 + 1 = b := by omega
      rw [e]
  have key : bestG lt d (l.eraseIdx g) ((l.eraseIdx g).length - 1) = if b < g then b else b - 1 := by
    refine bestG_unique O _ (by split <;> omega) (fun j hj => ?_) (fun j hj => ?_)
    · rw [at_, at_]
      split at hj
      · rename_i hb
        rw [if_pos hb, if_pos hb, if_pos (by omega)]
        exact g1 j hj
      · rename_i hb
        rw [if_neg hb, if_neg (by omega)]
        have e : b - 1 + 1 = b := by omega
        rw [e]
        split
        · exact g1 j (by omega)
        · exact g1 (j + 1) (by omega)
    · rw [at_, at_]
      rw [e2]
      split
      · exact g2 j (by omega)
      · exact g2 (j + 1) (by omega)
  rw [key, at_]
  exact e2
end
theorem bl_irr : ∀ a : List UInt8, Op.bytesLess a a = false
  | [] => rfl
  | x :: a => by
    have h : ¬ x < x := fun h => Nat.lt_irrefl _ (show x.toNat < x.toNat from h)
    simp [Op.bytesLess, bl_irr a, h]
theorem bl_tr : ∀ a b c : List UInt8, Op.bytesLess a b = true → Op.bytesLess b c = true → Op.bytesLess a c = true
  | a, [], c, h1, _ => by cases a <;> simp [Op.bytesLess] at h1
  | a, y :: b, [], _, h2 => by simp [Op.bytesLess] at h2
  | [], y :: b, z :: c, _, _ => by simp [Op.bytesLess]
  | x :: a, y :: b, z :: c, h1, h2 => by
    simp only [Op.bytesLess, Bool.or_eq_true, Bool.and_eq_true, decide_eq_true_eq, beq_iff_eq] at h1 h2 ⊢
    have lt : ∀ u v : UInt8, u < v ↔ u.toNat < v.toNat := fun u v => Iff.rfl
    rcases h1 with h1 | ⟨rfl, h1⟩
    · rcases h2 with h2 | ⟨rfl, h2⟩
      · left; rw [lt] at *; omega
      · left; exact h1
    · rcases h2 with h2 | ⟨rfl, h2⟩
      · left; exact h2
      · right; exact ⟨rfl, bl_tr a b c h1 h2⟩
theorem bl_not {a b : List UInt8} (h : Op.bytesLess a b = false) : Op.bytesLess b a = true ∨ b = a := by
  have := bl_total b a
  rw [h] at this
  simpa using this
theorem beats_ord (c : Int) : OrdB (beats c) where
  irr := fun a => by
    unfold beats
    rw [bl_irr, decide_eq_false (Int.lt_irrefl _)]; simp
  tr := fun a b d h1 h2 => by
    unfold beats at *
    simp only [Bool.or_eq_true, Bool.and_eq_true, decide_eq_true_eq] at *
    rcases h1 with h1 | ⟨h1, p1⟩
    · rcases h2 with h2 | ⟨h2, p2⟩
      · left; omega
      · left; omega
    · rcases h2 with h2 | ⟨h2, p2⟩
      · left; omega
      · right; exact ⟨by omega, bl_tr _ _ _ p1 p2⟩
  neg := fun a b d h1 h2 => by
    unfold beats at *
    simp only [Bool.or_eq_false_iff, Bool.and_eq_false_iff, decide_eq_false_iff_not] at *
    obtain ⟨h1, p1⟩ := h1
    obtain ⟨h2, p2⟩ := h2
    refine ⟨by omega, ?_⟩
    by_cases e : weightOf c a.pod_ = weightOf c d.pod_
    · right
      have q1 : Op.bytesLess a.pod_ b.pod_ = false := p1.resolve_left (by omega)
      have q2 : Op.bytesLess b.pod_ d.pod_ = false := p2.resolve_left (by omega)
      cases hc : Op.bytesLess a.pod_ d.pod_ with
      | false => rfl
      | true =>
        rcases bl_not q2 with q | q
        · rw [bl_tr _ _ _ hc q] at q1; cases q1
        · rw [q] at hc; rw [hc] at q1; cases q1
    · left; exact e
theorem bestAt_G (c : Int) (l : List XEndpoint) : ∀ k, bestAt c l k = bestG (beats c) default l k
  | 0 => rfl
  | k + 1 => by
    unfold bestAt bestG
    rw [bestAt_G c l k]
/-- Removing an endpoint that the client is not routed to changes nothing for the client. -/
theorem move_min (c : Int) (l : List XEndpoint) {g : Nat} (hg : g < l.length) (h2 : 2 ≤ l.length) (hne : bestAt c l (l.length - 1) ≠ g) :
    (l.eraseIdx g).getD (bestAt c (l.eraseIdx g) ((l.eraseIdx g).length - 1)) default = l.getD (bestAt c l (l.length - 1)) default := by
  rw [bestAt_G] at hne
  rw [bestAt_G, bestAt_G]
  exact bestG_erase (beats_ord c) l hg h2 hne
theorem flatA_rows (l : List XEndpoint) : flatA (l.map encXEndpoint) = rowsOf encXEndpoint l := by
  induction l with
  | nil => rfl
  | cons x l ih => simp only [List.map_cons, flatA, rowsOf, ih]
theorem lit_0 : evLit T0 34 0 [] = some (.cells [] 54 false, fun id => .sl id 0 0 (some 0)) := by kernel_rfl
theorem new_rows {h : Tr AB} (l : List XEndpoint) : newCells h (4 + 1) l.length (.lst (l.map encXEndpoint)) = some (rowsOf encXEndpoint l) := by
  unfold newCells sliceCells
  simp only [flatA_rows]
  have := takeN_all (rowsOf encXEndpoint l)
  rwa [rowsOf_len elE] at this
/-- A row that came in behind the empty one. -/
theorem app_first {h : Tr AB} {n id : Nat} {cs : List AV} {e : Nat} {g : Bool} (l : List XEndpoint) (hg : h.get id = some (.cells cs e g)) (hl : l.length ≤ 1000) : evAppend T0 ⟨h, n⟩ 34 34 (.sl id 0 0 (some 0)) (.lst (l.map encXEndpoint)) =
    some (if l.length = 0 then (.sl id 0 0 (some 0), ⟨h, n⟩) else (.sl n 0 l.length none, ⟨h.put n (some (.cells (rowsOf encXEndpoint l) 54 true)), n + 1⟩)) := by
  obtain ⟨zv, hzv⟩ := Option.isSome_iff_exists.1 elE.zr
  unfold evAppend
  have nr := new_rows (h := h) l
  simp only [elE.ty, elE.sz, elE.bytes, hzv, lenA, List.length_map, Nat.zero_add]
  cases hk : l.length with
  | zero => rw [hk] at nr; simp only [nr, if_true]
  | succ k =>
    have h1 : Nat.ble (k + 1) 0 = false := rfl
    have h2 : smallN (k + 1) 48 = true := small48 (by omega)
    have h3 : sliceCells h (0 * (4 + 1)) (.sl id 0 0 (some 0)) = some [] := by
      unfold sliceCells
      simp only [hg, Nat.zero_mul, takeN]
    rw [hk] at nr
    simp only [nr, h1, h2, h3, evGrow, List.nil_append]
    rfl
theorem leaf_app (a b : List AV) : allLeaf (a ++ b) = (allLeaf a && allLeaf b) := by
  induction a with
  | nil => simp [allLeaf]
  | cons x a ih => simp only [List.cons_append, allLeaf, ih]; cases x.leaf <;> simp
theorem leaf_rows (l : List XEndpoint) : allLeaf (rowsOf encXEndpoint l) = true := by
  induction l with
  | nil => rfl
  | cons x l ih => simp only [rowsOf, leaf_app, leafs_XEndpoint, ih, Bool.and_self]
/-- A row that came in behind others. -/
theorem app_more {h : Tr AB} {n id : Nat} (x l : List XEndpoint) (hg : h.get id = some (.cells (rowsOf encXEndpoint x) 54 true)) (hx : x.length ≤ 1000) (hl : l.length ≤ 1000) : evAppend T0 ⟨h, n⟩ 34 34 (.sl id 0 x.length none) (.lst (l.map encXEndpoint)) =
    some (if l.length = 0 then (.sl id 0 x.length none, ⟨h, n⟩) else (.sl n 0 (x.length + l.length) none, ⟨(h.put id none).put n (some (.cells (rowsOf encXEndpoint (x ++ l)) 54 true)), n + 1⟩)) := by
  obtain ⟨zv, hzv⟩ := Option.isSome_iff_exists.1 elE.zr
  unfold evAppend
  have nr := new_rows (h := h) l
  simp only [elE.ty, elE.sz, elE.bytes, hzv, lenA, List.length_map]
  have hal := leaf_rows l
  cases hk : l.length with
  | zero => rw [hk] at nr; simp only [nr, if_true]
  | succ k =>
    have h2 : smallN (x.length + (k + 1)) 48 = true := small48 (by omega)
    have b1 : Nat.beq 54 54 = true := rfl
    have b2 : Nat.beq (x.length * (4 + 1)) (rowsOf encXEndpoint x).length = true := by rw [rowsOf_len elE]; exact Nat.beq_refl _
    rw [hk] at nr
    simp only [nr, hg, hal, h2, b1, b2, rowsOf_app]
    rfl
end Go.Proofs.YtbcikhbepldjhaaDoor.Ev
