/- Chapter 56 in plain Lean: counting the used addresses of a range. -/
import Derived.Test.YtbcikhbepldjhaaDoorExtAl
import Derived.Test.YtbcikhbepldjhaaDoorStr
namespace Go.Proofs.YtbcikhbepldjhaaDoor.X
open Go.RowKit Go.Proofs.YtbcikhbepldjhaaDoorW.PrintWords Go.Proofs.YtbcikhbepldjhaaDoorW.PrintLast Go.Proofs.YtbcikhbepldjhaaDoorW.PrintMore Go.Proofs.YtbcikhbepldjhaaDoorW.Str

/-- One more number that counts: the filtered range grows by one where it had not counted. -/
theorem filter_more (P : Nat → Bool) (j0 : Nat) : ∀ m : Nat, ((List.range m).filter (fun j => P j || j == j0)).length = ((List.range m).filter P).length + (if j0 < m ∧ P j0 = false then 1 else 0)
  | 0 => by simp
  | m + 1 => by
    have ih := filter_more P j0 m
    rw [List.range_succ, List.filter_append, List.filter_append, List.length_append, List.length_append, ih]
    by_cases h : m = j0
    · subst h
      cases hp : P m
      · simp [hp]
      · simp [hp]
    · have e : (m == j0) = false := beq_eq_false_iff_ne.2 h
      have hlt : (j0 < m + 1) ↔ j0 < m := by omega
      cases hp : P m
      · simp [hp, e, hlt]
      · simp [hp, e, hlt]
        omega
/-- How many numbers of a range are used by the first n services. -/
def cnt (l : List S33) (first : Int) (m n : Nat) : Nat := ((List.range m).filter (fun j : Nat => aUsed (l.take n) (first + (j : Int)))).length
theorem cnt_zero (l : List S33) (first : Int) (m : Nat) : cnt l first m 0 = 0 := by
  unfold cnt aUsed
  simp
theorem aUsed_snoc {l : List S33} {n : Nat} (h : n < l.length) (a : Int) : aUsed (l.take (n + 1)) a = (aUsed (l.take n) a || l[n].f4 == a) := by
  unfold aUsed
  rw [List.take_add_one, List.any_append, List.getElem?_eq_getElem h]
  simp
theorem cnt_succ {l : List S33} {n : Nat} (h : n < l.length) (first : Int) (m : Nat) :
    cnt l first m (n + 1) = cnt l first m n + (if first ≤ l[n].f4 ∧ l[n].f4 < first + (m : Int) ∧ aUsed (l.take n) l[n].f4 = false then 1 else 0) := by
  unfold cnt
  by_cases hr : first ≤ l[n].f4
  · obtain ⟨j0, hj⟩ : ∃ j0 : Nat, first + (j0 : Int) = l[n].f4 := ⟨(l[n].f4 - first).toNat, by omega⟩
    have e : (fun j : Nat => aUsed (l.take (n + 1)) (first + (j : Int))) = fun j : Nat => (aUsed (l.take n) (first + (j : Int)) || j == j0) := by
      funext j
      rw [aUsed_snoc h, ← hj]
      congr 1
      rw [Bool.eq_iff_iff]
      simp
      omega
    rw [e, filter_more (fun j : Nat => aUsed (l.take n) (first + (j : Int))) j0 m, hj]
    congr 1
    have hlt : (j0 < m) ↔ (l[n].f4 < first + (m : Int)) := by omega
    by_cases h1 : j0 < m
    · by_cases h2 : aUsed (l.take n) l[n].f4 = false
      · rw [if_pos ⟨h1, h2⟩, if_pos ⟨hr, hlt.1 h1, h2⟩]
      · rw [if_neg (fun x => h2 x.2), if_neg (fun x => h2 x.2.2)]
    · rw [if_neg (fun x => h1 x.1), if_neg (fun x => h1 (hlt.2 x.2.1))]
  · rw [if_neg (fun x => hr x.1)]
    have e : (fun j : Nat => aUsed (l.take (n + 1)) (first + (j : Int))) = fun j : Nat => aUsed (l.take n) (first + (j : Int)) := by
      funext j
      rw [aUsed_snoc h]
      have : (l[n].f4 == first + (j : Int)) = false := beq_eq_false_iff_ne.2 (by omega)
      rw [this, Bool.or_false]
    rw [e]
    rfl
theorem cnt_full (l : List S33) (first : Int) (m : Nat) (h : ∀ j : Nat, j < m → aUsed l (first + (j : Int)) = true) : cnt l first m l.length = m := by
  unfold cnt
  rw [List.take_length]
  have e : (List.range m).filter (fun j : Nat => aUsed l (first + (j : Int))) = List.range m := List.filter_eq_self.2 (fun j hj => h j (List.mem_range.1 hj))
  rw [e, List.length_range]
/-- What the search finds: the first unused number, all before it used; or all are used. -/
theorem aGo_spec (l : List S33) (first : Int) : ∀ (n : Nat) (i : Nat), (∃ d : Nat, d < n ∧ aGo l first n (i : Int) = (first + (i : Int) + (d : Int), 0) ∧ aUsed l (first + (i : Int) + (d : Int)) = false ∧ ∀ j : Nat, j < d → aUsed l (first + (i : Int) + (j : Int)) = true) ∨
    (aGo l first n (i : Int) = (0, 15) ∧ ∀ j : Nat, j < n → aUsed l (first + (i : Int) + (j : Int)) = true)
  | 0, i => .inr ⟨rfl, fun j hj => absurd hj (Nat.not_lt_zero _)⟩
  | n + 1, i => by
    simp only [aGo]
    cases hu : aUsed l (first + (i : Int)) with
    | false => exact .inl ⟨0, Nat.succ_pos _, by simp, by simpa using hu, fun j hj => absurd hj (Nat.not_lt_zero _)⟩
    | true =>
      rw [if_pos rfl]
      have e : ((i : Int) + 1) = ((i + 1 : Nat) : Int) := by push_cast; rfl
      rw [e]
      have shift : ∀ j : Nat, first + (i : Int) + ((j + 1 : Nat) : Int) = first + ((i + 1 : Nat) : Int) + (j : Int) := fun j => by push_cast; omega
      rcases aGo_spec l first n (i + 1) with ⟨d, hd, h1, h2, h3⟩ | ⟨h1, h3⟩
      · refine .inl ⟨d + 1, by omega, by rw [h1, shift], by rw [shift]; exact h2, fun j hj => ?_⟩
        cases j with
        | zero => simpa using hu
        | succ j => rw [shift]; exact h3 j (by omega)
      · refine .inr ⟨h1, fun j hj => ?_⟩
        cases j with
        | zero => simpa using hu
        | succ j => rw [shift]; exact h3 j (by omega)
end Go.Proofs.YtbcikhbepldjhaaDoor.X
