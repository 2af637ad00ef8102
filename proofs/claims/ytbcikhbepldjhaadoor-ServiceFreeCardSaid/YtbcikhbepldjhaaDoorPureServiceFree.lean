/- The pure statement of ServiceFree: an allocated address is free, in the range, and all below it are used. -/
import Derived.Test.YtbcikhbepldjhaaDoorDefServiceFree
import Derived.Test.YtbcikhbepldjhaaDoorCom
namespace Go.Proofs.YtbcikhbepldjhaaDoor.Pure
open Go.RowKit Go.Proofs.YtbcikhbepldjhaaDoor.X Go.Proofs.YtbcikhbepldjhaaDoor.X.RServiceFree Go.Proofs.YtbcikhbepldjhaaDoorW.PrintWords Go.Proofs.YtbcikhbepldjhaaDoorW.PrintLast Go.Proofs.YtbcikhbepldjhaaDoorW.PrintMore Go.Proofs.YtbcikhbepldjhaaDoorW.Str
set_option linter.unusedVariables false
theorem cnt_le (l : List S33) (first : Int) (m : Nat) : ∀ n : Nat, n ≤ l.length → cnt l first m n ≤ n
  | 0, _ => by rw [cnt_zero]; omega
  | n + 1, h => by
    rw [cnt_succ (by omega)]
    have := cnt_le l first m n (by omega)
    split <;> omega
section
variable {l : List S33} {first a : Int} {m : Nat}
theorem free_l1 (hn : l.length ≤ 60) {i : Nat} (hi : i < l.length) {c : Int} (hc : 0 ≤ c ∧ c ≤ 60)
    (hnext : ∃ k, orchestratorlaw56_ServiceFree.l0 k l first a (c + (if first ≤ l[i].f4 ∧ l[i].f4 < a ∧ aUsed (l.take i) l[i].f4 = false then 1 else 0)) ((i + 1 : Nat) : Int) = some true) :
    ∀ (q j : Nat), j + q = i → ∃ k, orchestratorlaw56_ServiceFree.l1 k l first a c (i : Int) (aUsed (l.take j) l[i].f4) (j : Int) = some true := by
  have w1 : ∀ x : Nat, x ≤ 61 → wrap64 ((x : Int) + 1) = ((x + 1 : Nat) : Int) := fun x hx => by rw [aw64 (by omega) (by omega)]; push_cast; rfl
  have wc : wrap64 (c + 1) = c + 1 := aw64 (by omega) (by omega)
  intro q
  induction q with
  | zero =>
    intro j hj
    obtain rfl : j = i := by omega
    obtain ⟨k, hk⟩ := hnext
    refine ⟨k + 1, ?_⟩
    unfold orchestratorlaw56_ServiceFree.l1
    rw [if_neg (by omega), if_pos (by omega), if_pos (by omega), rd_T33_nat l j hi, w1 j (by omega), wc]
    by_cases h1 : first ≤ l[j].f4
    · rw [if_pos h1]
      by_cases h2 : l[j].f4 < a
      · rw [if_pos h2]
        by_cases h3 : aUsed (l.take j) l[j].f4 = true
        · rw [if_pos h3]
          rw [if_neg (by rw [h3]; simp), Int.add_zero] at hk
          exact hk
        · rw [if_neg h3]
          rw [if_pos ⟨h1, h2, by simpa using h3⟩] at hk
          exact hk
      · rw [if_neg h2]
        rw [if_neg (fun x => h2 x.2.1), Int.add_zero] at hk
        exact hk
    · rw [if_neg h1]
      rw [if_neg (fun x => h1 x.1), Int.add_zero] at hk
      exact hk
  | succ q ih =>
    intro j hj
    obtain ⟨k, hk⟩ := ih (j + 1) (by omega)
    refine ⟨k + 1, ?_⟩
    unfold orchestratorlaw56_ServiceFree.l1
    rw [if_pos (by omega), w1 j (by omega), rd_T33_nat l j (by omega), rd_T33_nat l i hi]
    rw [aUsed_snoc (by omega)] at hk
    by_cases h3 : aUsed (l.take j) l[i].f4 = true
    · rw [if_pos h3]
      rw [h3, Bool.true_or] at hk
      exact hk
    · rw [if_neg h3, if_pos (by omega), if_pos (by omega), if_pos (by omega), if_pos (by omega)]
      have h4 : aUsed (l.take j) l[i].f4 = false := by simpa using h3
      rw [h4, Bool.false_or] at hk
      exact hk
theorem free_l0 (hn : l.length ≤ 60) (ha : a = first + (m : Int)) (hb : first ≥ 1 ∧ a ≤ 1000000000000001) (hno : ∀ i (h : i < l.length), l[i].f4 ≠ a) (hall : ∀ j : Nat, j < m → aUsed l (first + (j : Int)) = true) :
    ∀ (q i : Nat), i + q = l.length → ∃ k, orchestratorlaw56_ServiceFree.l0 k l first a (cnt l first m i : Nat) (i : Int) = some true := by
  intro q
  induction q with
  | zero =>
    intro i hi
    obtain rfl : i = l.length := by omega
    refine ⟨1, ?_⟩
    unfold orchestratorlaw56_ServiceFree.l0
    rw [if_neg (by omega), cnt_full l first m hall, aw64 (by omega) (by omega), if_pos (by omega)]
    rfl
  | succ q ih =>
    intro i hi
    have hil : i < l.length := by omega
    obtain ⟨k, hk⟩ := ih (i + 1) (by omega)
    have hle := cnt_le l first m i (by omega)
    rw [cnt_succ hil] at hk
    have hnext : ∃ k, orchestratorlaw56_ServiceFree.l0 k l first a (((cnt l first m i : Nat) : Int) + (if first ≤ l[i].f4 ∧ l[i].f4 < a ∧ aUsed (l.take i) l[i].f4 = false then 1 else 0)) ((i + 1 : Nat) : Int) = some true := by
      refine ⟨k, ?_⟩
      rw [← hk, ← ha]
      congr 1
      split <;> simp
    obtain ⟨k2, hk2⟩ := free_l1 hn hil (c := (cnt l first m i : Nat)) ⟨by omega, by omega⟩ hnext i 0 (by omega)
    refine ⟨k2 + 1, ?_⟩
    unfold orchestratorlaw56_ServiceFree.l0
    rw [if_pos (by omega), if_pos (by omega), rd_T33_nat l i hil, if_neg (hno i hil)]
    have e : aUsed (l.take 0) l[i].f4 = false := rfl
    rw [e] at hk2
    exact hk2
end
theorem heavy_l (k : Nat) (l : List S33) (e : ByteArray) : orchestratorlaw56_heavy.f (k + 1) l e e e 0 0 0 0 false 0 [] [] [] [] [] [] false 0 e e e 0 0 0 0 false 0 [] [] [] [] [] [] = some (decide ((l.length : Int) > 60)) := by
  unfold orchestratorlaw56_heavy.f orchestratorlaw56_heavy.l0
  by_cases h : (l.length : Int) > 60
  · simp [h]
  · simp [h]
theorem ServiceFree : PureAll := by
  intro l a1 a2 hl h1 h2
  have wf : aWf l = true := by
    unfold aWf
    exact List.all_eq_true.2 fun x hx => (hl.2.2 x hx).2.2.2.2
  have b1 := h1
  have b2 := h2
  unfold ok3 at b1 b2
  by_cases hh : (l.length : Int) > 60
  · refine ⟨1, ?_⟩
    unfold orchestratorlaw56_ServiceFree.f
    rw [heavy_l 0]
    simp only [Option.bind_some, hh, decide_true, if_true]
    rfl
  have hn : l.length ≤ 60 := by omega
  by_cases hbad : aBad a1 a2
  · refine ⟨1, ?_⟩
    unfold orchestratorlaw56_ServiceFree.f service_Allocate.f
    rw [heavy_l 0]
    simp only [Option.bind_some, hh, decide_false, Bool.false_eq_true, if_false, hbad, if_true]
    rfl
  have hb := hbad
  unfold aBad at hb
  simp only [not_or, Int.not_lt] at hb
  have hA : service_Allocate.f l a1 a2 = some (aGo l a1 (mn a2 ((l.length : Int) + 1)).toNat 0) := by
    unfold service_Allocate.f
    rw [if_neg hbad, if_pos ⟨wf, by omega⟩]
  have hN1 : ((mn a2 ((l.length : Int) + 1)).toNat : Int) ≤ a2 ∧ ((mn a2 ((l.length : Int) + 1)).toNat : Int) ≤ (l.length : Int) + 1 ∧ (((mn a2 ((l.length : Int) + 1)).toNat : Int) = a2 ∨ ((mn a2 ((l.length : Int) + 1)).toNat : Int) = (l.length : Int) + 1) := by
    unfold mn
    split <;> omega
  generalize (mn a2 ((l.length : Int) + 1)).toNat = N at hA hN1
  have hs := aGo_spec l a1 N 0
  simp only [Int.natCast_zero, Int.add_zero] at hs
  rcases hs with ⟨d, hd, e1, e2, e3⟩ | ⟨e1, e3⟩
  · have hno : ∀ i (h : i < l.length), l[i].f4 ≠ a1 + (d : Int) := by
      intro i h e
      have : aUsed l (a1 + (d : Int)) = true := by
        unfold aUsed
        exact List.any_eq_true.2 ⟨l[i], List.getElem_mem h, by simp [e]⟩
      rw [e2] at this; cases this
    obtain ⟨k, hk⟩ := free_l0 (m := d) hn rfl ⟨by omega, by omega⟩ hno e3 l.length 0 (by omega)
    rw [cnt_zero] at hk
    refine ⟨k + 1, ?_⟩
    unfold orchestratorlaw56_ServiceFree.f
    rw [heavy_l k, hA, e1]
    simp only [Option.bind_some, hh, decide_false, Bool.false_eq_true, if_false, if_true]
    rw [aw64 (by omega) (by omega), if_neg (by omega), if_neg (by omega)]
    have hgt : decide (a1 + (d : Int) - a1 > (l.length : Int)) = false := decide_eq_false (by omega)
    rw [hgt]
    show (if false = true then some false else orchestratorlaw56_ServiceFree.l0 k l a1 (a1 + (d : Int)) 0 0) = some true
    rw [if_neg Bool.false_ne_true]
    exact hk
  · have hle := cnt_le l a1 N l.length (Nat.le_refl _)
    rw [cnt_full l a1 N e3] at hle
    refine ⟨1, ?_⟩
    unfold orchestratorlaw56_ServiceFree.f
    rw [heavy_l 0, hA, e1]
    simp only [Option.bind_some, hh, decide_false, Bool.false_eq_true, if_false]
    rw [if_neg (by decide), if_pos (by decide), if_neg (by decide), if_pos (by decide), if_pos (by omega)]
    rfl
end Go.Proofs.YtbcikhbepldjhaaDoor.Pure
