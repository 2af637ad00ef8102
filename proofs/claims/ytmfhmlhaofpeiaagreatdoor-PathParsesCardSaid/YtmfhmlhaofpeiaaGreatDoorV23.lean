/- Unquote: the spec (what both answer), its steps. -/
import Derived.Test.YtmfhmlhaofpeiaaGreatDoorV22
namespace Go.Proofs.YtmfhmlhaofpeiaaGreatDoor.Ev
open Go Go.RowKit
set_option linter.unusedSimpArgs false
set_option linter.unusedVariables false
set_option maxRecDepth 100000

inductive UQ where
  | ok (acc rest : List UInt8)
  | bad
  | op (acc : List UInt8)
def unqL (acc : List UInt8) : List UInt8 → UQ
  | [] => .op acc
  | c :: r => if c.toNat = 34 then .ok acc r else if c.toNat < 32 ∨ 126 < c.toNat then .bad else if ¬ c.toNat = 92 then unqL (acc ++ [c]) r else
    match r with
    | [] => .bad
    | d :: r' => if d.toNat = 34 ∨ d.toNat = 92 then unqL (acc ++ [d]) r' else if d.toNat = 110 then unqL (acc ++ [10]) r' else .bad
theorem drop_at {s : List UInt8} {i : Nat} (h : i < s.length) : s.drop i = s.getD i 0 :: s.drop (i + 1) := by
  rw [List.drop_eq_getElem_cons h, List.getD_eq_getElem?_getD, List.getElem?_eq_getElem h]; rfl
theorem unq_end {s acc : List UInt8} {i : Nat} (h : s.length ≤ i) : unqL acc (s.drop i) = .op acc := by
  rw [List.drop_of_length_le h]; rw [unqL]
theorem unq_q {s acc : List UInt8} {i : Nat} (h : i < s.length) (hc : (s.getD i 0).toNat = 34) : unqL acc (s.drop i) = .ok acc (s.drop (i + 1)) := by
  rw [drop_at h]; unfold unqL; rw [if_pos hc]
theorem unq_bad {s acc : List UInt8} {i : Nat} (h : i < s.length) (h1 : ¬ (s.getD i 0).toNat = 34) (hc : (s.getD i 0).toNat < 32 ∨ 126 < (s.getD i 0).toNat) : unqL acc (s.drop i) = .bad := by
  rw [drop_at h]; unfold unqL; rw [if_neg h1, if_pos hc]
theorem unq_pl {s acc : List UInt8} {i : Nat} (h : i < s.length) (h1 : ¬ (s.getD i 0).toNat = 34) (h2 : ¬ ((s.getD i 0).toNat < 32 ∨ 126 < (s.getD i 0).toNat)) (h3 : ¬ (s.getD i 0).toNat = 92) : unqL acc (s.drop i) = unqL (acc ++ [s.getD i 0]) (s.drop (i + 1)) := by
  rw [drop_at h, unqL.eq_def]; simp only []; rw [if_neg h1, if_neg h2, if_pos h3]
theorem unq_ee {s acc : List UInt8} {i : Nat} (h : i < s.length) (h3 : (s.getD i 0).toNat = 92) (hn : s.length ≤ i + 1) : unqL acc (s.drop i) = .bad := by
  rw [drop_at h, List.drop_of_length_le hn, unqL.eq_def]; simp only []; rw [if_neg (by omega), if_neg (by omega), if_neg (by omega)]
theorem unq_e {s acc : List UInt8} {i : Nat} (h3 : (s.getD i 0).toNat = 92) (hn : i + 1 < s.length) : unqL acc (s.drop i) = if (s.getD (i + 1) 0).toNat = 34 ∨ (s.getD (i + 1) 0).toNat = 92 then unqL (acc ++ [s.getD (i + 1) 0]) (s.drop (i + 2)) else if (s.getD (i + 1) 0).toNat = 110 then unqL (acc ++ [10]) (s.drop (i + 2)) else .bad := by
  rw [drop_at (show i < s.length by omega), drop_at hn, unqL.eq_def]; simp only []; rw [if_neg (by omega), if_neg (by omega), if_neg (by omega)]
end Go.Proofs.YtmfhmlhaofpeiaaGreatDoor.Ev
