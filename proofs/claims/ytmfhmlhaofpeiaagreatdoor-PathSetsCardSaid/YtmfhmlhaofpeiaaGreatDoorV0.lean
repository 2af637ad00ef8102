/- The chapter's structs, and how the evaluator sees them. Printed by encg.py, a program of this session's. -/
import Derived.Test.YtmfhmlhaofpeiaaGreatDoorEvF
namespace Go.Proofs.YtmfhmlhaofpeiaaGreatDoor.Ev
open Go Go.RowKit
theorem dlA {α : Type} (a b : List α) : (a ++ b).length = a.length + b.length := List.length_append ..
theorem dlC {α : Type} (a : α) (b : List α) : (a :: b).length = b.length + 1 := rfl
theorem dlN {α : Type} : ([] : List α).length = 0 := rfl
structure XStep where
 kind_ : Int
 name_ : List UInt8
 index_ : Int
 value_ : List UInt8
 deriving DecidableEq
instance : Inhabited XStep := ⟨⟨0, [], 0, []⟩⟩
def aq (x : XStep) : AV := .agg [.i .i64 x.kind_, .s x.name_, .i .i64 x.index_, .s x.value_]
def bL (x : XStep) : Prop := (Lit.int .i64 x.kind_).wf = true /\ x.name_.length <= 140737488351232 /\ (Lit.int .i64 x.index_).wf = true /\ x.value_.length <= 140737488351232
theorem bQ (x : XStep) : (aq x).cells.length = 4 := rfl
theorem du (x : XStep) : aK T0 50 (aq x).cells = some (aq x) := by rw [ofc_50]; rfl
theorem ie (x : XStep) : aK T0 50 ((aq x).cells.drop 0) = some (aq x) := du x
theorem da (x : XStep) : aK T0 3 ((aq x).cells.drop 0) = some (.i .i64 x.kind_) := nU _ _
theorem jr (x : XStep) : qG T0 3 0 (aq x) = some (.i .i64 x.kind_) := da x
theorem dA (x : XStep) : aK T0 9 ((aq x).cells.drop 1) = some (.s x.name_) := lM _ _
theorem jq (x : XStep) : qG T0 9 1 (aq x) = some (.s x.name_) := dA x
theorem dX (x : XStep) : aK T0 3 ((aq x).cells.drop 2) = some (.i .i64 x.index_) := nU _ _
theorem iA (x : XStep) : qG T0 3 2 (aq x) = some (.i .i64 x.index_) := dX x
theorem dW (x : XStep) : aK T0 9 ((aq x).cells.drop 3) = some (.s x.value_) := lM _ _
theorem iz (x : XStep) : qG T0 9 3 (aq x) = some (.s x.value_) := dW x
theorem jp (s : List UInt8) : (AV.s s).cells.length = 1 := rfl
theorem dl2 : type_of% (And.intro @bQ (And.intro @jp (And.intro @dlA (And.intro @dlC @dlN)))) := And.intro @bQ (And.intro @jp (And.intro @dlA (And.intro @dlC @dlN)))
theorem dl0 : type_of% (And.intro @bQ @jp) := And.intro @bQ @jp
theorem cg {α : Type} (f : α -> AV) (l : List α) : (l.map f).length = l.length := List.length_map ..
def xC (T : Tab) (t off : Nat) (b : Option AB) : Option AV := match b with
 | some (.cells cs _ _) => if off <= cs.length then aK T t (cs.drop off) else none
 | _ => none
theorem cN {T : Tab} {h : Tr AB} {t id off : Nat} : ac T h t (.ptr id off) = xC T t off (h.get id) := by
 unfold ac ig xC
 simp only
 generalize h.get id = b
 match b with
 | none => rfl
 | some (.cells cs e g) =>
  simp only
  by_cases q : off <= cs.length
  ·rw [if_pos q, Nat.ble_eq_true_of_le q]
  ·rw [if_neg q]
   have : Nat.ble off cs.length = false := by
    cases hb : Nat.ble off cs.length with
    | false => rfl
    | true => exact absurd (Nat.le_of_ble_eq_true hb) q
   rw [this]
 | some (.map _) => rfl
 | some (.siter _ _) => rfl
theorem bP {T : Tab} {t off : Nat} {cs : List AV} {e : TypeId} {g : Bool} (h : off <= cs.length) : xC T t off (some (.cells cs e g)) = aK T t (cs.drop off) := by unfold xC; simp only; rw [if_pos h]
theorem af {α : Type} (t : Tr α) (k : Nat) (v : Option α) : (t.put k v).get k = v := by rw [Tr.get_put, if_pos rfl]
theorem ae {α : Type} (t : Tr α) {k j : Nat} (v : Option α) (h : j ≠ k) : (t.put k v).get j = t.get j := by rw [Tr.get_put, if_neg h]
theorem mK {T : Tab} {h : Tr AB} {t id : Nat} {cs : List AV} {e z : Nat} {g : Bool} {v : AV} (hz : T.sz t = some z) (hl : v.cells.length = z) (hc : cs.length = z) (ha : aQ v.cells = true) : aB T (h.put id (some (.cells cs e g))) t (.ptr id 0) v = some ((h.put id (some (.cells cs e g))).put id (some (.cells v.cells e g))) := by
 refine dU hz (af _ _ _) hl ha ?_
 have : ∀ (a b : List AV), a.length = b.length -> bN a 0 b = some b := by
  intro a b
  induction b generalizing a with
  | nil => intro q; cases a with | nil => rfl | cons _ _ => simp at q
  | cons x b ih => intro q; cases a with | nil => simp at q | cons y a => simp [bN, ih a (by simpa using q)]
 exact this _ _ (by omega)
theorem vV {T : Tab} {h : Tr AB} {t id e z : Nat} {cs : List AV} {g : Bool} {v : AV} (hz : T.sz t = some z) (hg : h.get id = some (.cells cs e g)) (hl : v.cells.length = z) (hc : cs.length = z) (ha : aQ v.cells = true) : aB T h t (.ptr id 0) v = some (h.put id (some (.cells v.cells e g))) := by
 refine dU hz hg hl ha ?_
 have : ∀ (a b : List AV), a.length = b.length -> bN a 0 b = some b := by
  intro a b
  induction b generalizing a with
  | nil => intro q; cases a with | nil => rfl | cons _ _ => simp at q
  | cons x b ih => intro q; cases a with | nil => simp at q | cons y a => simp [bN, ih a (by simpa using q)]
 exact this _ _ (by omega)
theorem ze {h : Tr AB} {id e : Nat} {g : Bool} {cs : List AV} (x : XStep) (hg : h.get id = some (.cells cs e g)) (hc : cs.length = 4) : aB T0 h 50 (.ptr id 0) (aq x) = some (h.put id (some (.cells (aq x).cells e g))) := vV sz_50 hg rfl hc rfl
theorem tW {h : Tr AB} {id e : Nat} {g : Bool} (x : XStep) : aB T0 (h.put id (some (.cells [.i .i64 0, .s [], .i .i64 0, .s []] e g))) 50 (.ptr id 0) (aq x) = some ((h.put id (some (.cells [.i .i64 0, .s [], .i .i64 0, .s []] e g))).put id (some (.cells (aq x).cells e g))) := ze x (af _ _ _) rfl
theorem vK (a b : List UInt8) : (Op.bytesLess a b || a == b) = !Op.bytesLess b a := by
 induction a generalizing b with
 | nil => cases b <;> simp [Op.bytesLess]
 | cons x a ih =>
  cases b with
  | nil => simp [Op.bytesLess]
  | cons y b =>
   have := ih b
   simp only [Op.bytesLess]
   rcases Nat.lt_trichotomy x.toNat y.toNat with q | q | q
   ·have h1 : x < y := q
    have h2 : ¬ y < x := fun h => absurd (show y.toNat < x.toNat from h) (by omega)
    have h3 : (y == x) = false := by simp; rintro rfl; omega
    simp [h1, h2, h3]
   ·obtain rfl : x = y := UInt8.toNat_inj.1 q
    have h2 : ¬ x < x := fun h => absurd (show x.toNat < x.toNat from h) (by omega)
    simp [h2] at this |-
    rw [<- this]
   ·have h1 : y < x := q
    have h2 : ¬ x < y := fun h => absurd (show x.toNat < y.toNat from h) (by omega)
    have h3 : (x == y) = false := by simp; rintro rfl; omega
    simp [h1, h2, h3]
theorem yW {T : Tab} {t : Nat} (a b : List UInt8) (c : Bool) : ah T .leq t c (.s a) (.s b) = some (.b (!Op.bytesLess b a)) := by rw [tF, vK]
theorem yX {T : Tab} {t : Nat} (a b : List UInt8) (c : Bool) : ah T .gtr t c (.s a) (.s b) = some (.b (Op.bytesLess b a)) := by rw [bin_sgt, vK, Bool.not_not]
theorem b_seq {T : Tab} {t : Nat} (a b : List UInt8) (c : Bool) : ah T .eql t c (.s a) (.s b) = some (.b (decide (a = b))) := by rw [cm]; congr 2; rw [Bool.eq_iff_iff]; simp
theorem b_sne {T : Tab} {t : Nat} (a b : List UInt8) (c : Bool) : ah T .neq t c (.s a) (.s b) = some (.b (!decide (a = b))) := by rw [gn]; congr 3; rw [Bool.eq_iff_iff]; simp
theorem tH {T : Tab} {t : Nat} (a : List UInt8) (c : Bool) : ah T .eql t c (.s a) (.s []) = some (.b (decide (a.length = 0))) := by rw [b_seq]; congr 2; rw [Bool.eq_iff_iff]; simp [List.length_eq_zero_iff]
theorem pu {T : Tab} {t : Nat} (a : List UInt8) (c : Bool) : ah T .neq t c (.s a) (.s []) = some (.b (!decide (a.length = 0))) := by rw [b_sne]; congr 3; rw [Bool.eq_iff_iff]; simp [List.length_eq_zero_iff]
theorem xx (x : List UInt8) : aK T0 9 (AV.s x).cells = some (.s x) := lM _ _
end Go.Proofs.YtmfhmlhaofpeiaaGreatDoor.Ev
