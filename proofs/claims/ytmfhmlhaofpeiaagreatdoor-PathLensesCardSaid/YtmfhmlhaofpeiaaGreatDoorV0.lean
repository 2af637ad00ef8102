/- The chapter's structs, and how the evaluator sees them. Printed by encg.py, a program of this session's. -/
import Derived.Test.YtmfhmlhaofpeiaaGreatDoorEvF
namespace Go.Proofs.YtmfhmlhaofpeiaaGreatDoor.Ev
open Go Go.RowKit
theorem dlA {α : Type} (a b : List α) : (a ++ b).length = a.length + b.length := List.length_append ..
theorem dlC {α : Type} (a : α) (b : List α) : (a :: b).length = b.length + 1 := rfl
theorem dlN {α : Type} : ([] : List α).length = 0 := rfl
structure XStep where
 kind_ : Int
 name_ : List UInt8
 index_ : Int
 value_ : List UInt8
 deriving DecidableEq
instance : Inhabited XStep := ⟨⟨0, [], 0, []⟩⟩
def aj (x : XStep) : AV := .agg [.i .i64 x.kind_, .s x.name_, .i .i64 x.index_, .s x.value_]
def bx (x : XStep) : Prop := (Lit.int .i64 x.kind_).wf = true /\ x.name_.length <= 140737488351232 /\ (Lit.int .i64 x.index_).wf = true /\ x.value_.length <= 140737488351232
theorem bD (x : XStep) : (aj x).cells.length = 4 := rfl
theorem dQ (x : XStep) : aD T0 50 (aj x).cells = some (aj x) := by rw [ofc_50]; rfl
theorem gV (x : XStep) : aD T0 50 ((aj x).cells.drop 0) = some (aj x) := dQ x
theorem cP (x : XStep) : aD T0 3 ((aj x).cells.drop 0) = some (.i .i64 x.kind_) := nJ _ _
theorem jn (x : XStep) : qF T0 3 0 (aj x) = some (.i .i64 x.kind_) := cP x
theorem dn (x : XStep) : aD T0 9 ((aj x).cells.drop 1) = some (.s x.name_) := lG _ _
theorem jl (x : XStep) : qF T0 9 1 (aj x) = some (.s x.name_) := dn x
theorem dU (x : XStep) : aD T0 3 ((aj x).cells.drop 2) = some (.i .i64 x.index_) := nJ _ _
theorem io (x : XStep) : qF T0 3 2 (aj x) = some (.i .i64 x.index_) := dU x
theorem dT (x : XStep) : aD T0 9 ((aj x).cells.drop 3) = some (.s x.value_) := lG _ _
theorem im (x : XStep) : qF T0 9 3 (aj x) = some (.s x.value_) := dT x
theorem jk (s : List UInt8) : (AV.s s).cells.length = 1 := rfl
theorem dl2 : type_of% (And.intro @bD (And.intro @jk (And.intro @dlA (And.intro @dlC @dlN)))) := And.intro @bD (And.intro @jk (And.intro @dlA (And.intro @dlC @dlN)))
theorem dl0 : type_of% (And.intro @bD @jk) := And.intro @bD @jk
theorem bV {α : Type} (f : α -> AV) (l : List α) : (l.map f).length = l.length := List.length_map ..
def xR (T : Tab) (t off : Nat) (b : Option AB) : Option AV := match b with
 | some (.cells cs _ _) => if off <= cs.length then aD T t (cs.drop off) else none
 | _ => none
theorem cE {T : Tab} {h : Tr AB} {t id off : Nat} : ac T h t (.ptr id off) = xR T t off (h.get id) := by
 unfold ac gY xR
 simp only
 generalize h.get id = b
 match b with
 | none => rfl
 | some (.cells cs e g) =>
  simp only
  by_cases q : off <= cs.length
  ·rw [if_pos q, Nat.ble_eq_true_of_le q]
  ·rw [if_neg q]
   have : Nat.ble off cs.length = false := by
    cases hb : Nat.ble off cs.length with
    | false => rfl
    | true => exact absurd (Nat.le_of_ble_eq_true hb) q
   rw [this]
 | some (.map _) => rfl
 | some (.siter _ _) => rfl
theorem bH {T : Tab} {t off : Nat} {cs : List AV} {e : TypeId} {g : Bool} (h : off <= cs.length) : xR T t off (some (.cells cs e g)) = aD T t (cs.drop off) := by unfold xR; simp only; rw [if_pos h]
theorem ah {α : Type} (t : Tr α) (k : Nat) (v : Option α) : (t.put k v).get k = v := by rw [Tr.get_put, if_pos rfl]
theorem ae {α : Type} (t : Tr α) {k j : Nat} (v : Option α) (h : j ≠ k) : (t.put k v).get j = t.get j := by rw [Tr.get_put, if_neg h]
theorem kq {T : Tab} {h : Tr AB} {t id : Nat} {cs : List AV} {e z : Nat} {g : Bool} {v : AV} (hz : T.sz t = some z) (hl : v.cells.length = z) (hc : cs.length = z) (ha : aM v.cells = true) : aA T (h.put id (some (.cells cs e g))) t (.ptr id 0) v = some ((h.put id (some (.cells cs e g))).put id (some (.cells v.cells e g))) := by
 refine dP hz (ah _ _ _) hl ha ?_
 have : ∀ (a b : List AV), a.length = b.length -> bQ a 0 b = some b := by
  intro a b
  induction b generalizing a with
  | nil => intro q; cases a with | nil => rfl | cons _ _ => simp at q
  | cons x b ih => intro q; cases a with | nil => simp at q | cons y a => simp [bQ, ih a (by simpa using q)]
 exact this _ _ (by omega)
theorem wj {T : Tab} {h : Tr AB} {t id e z : Nat} {cs : List AV} {g : Bool} {v : AV} (hz : T.sz t = some z) (hg : h.get id = some (.cells cs e g)) (hl : v.cells.length = z) (hc : cs.length = z) (ha : aM v.cells = true) : aA T h t (.ptr id 0) v = some (h.put id (some (.cells v.cells e g))) := by
 refine dP hz hg hl ha ?_
 have : ∀ (a b : List AV), a.length = b.length -> bQ a 0 b = some b := by
  intro a b
  induction b generalizing a with
  | nil => intro q; cases a with | nil => rfl | cons _ _ => simp at q
  | cons x b ih => intro q; cases a with | nil => simp at q | cons y a => simp [bQ, ih a (by simpa using q)]
 exact this _ _ (by omega)
theorem zE {h : Tr AB} {id e : Nat} {g : Bool} {cs : List AV} (x : XStep) (hg : h.get id = some (.cells cs e g)) (hc : cs.length = 4) : aA T0 h 50 (.ptr id 0) (aj x) = some (h.put id (some (.cells (aj x).cells e g))) := wj xr hg rfl hc rfl
theorem ug {h : Tr AB} {id e : Nat} {g : Bool} (x : XStep) : aA T0 (h.put id (some (.cells [.i .i64 0, .s [], .i .i64 0, .s []] e g))) 50 (.ptr id 0) (aj x) = some ((h.put id (some (.cells [.i .i64 0, .s [], .i .i64 0, .s []] e g))).put id (some (.cells (aj x).cells e g))) := zE x (ah _ _ _) rfl
theorem vW (a b : List UInt8) : (Op.bytesLess a b || a == b) = !Op.bytesLess b a := by
 induction a generalizing b with
 | nil => cases b <;> simp [Op.bytesLess]
 | cons x a ih =>
  cases b with
  | nil => simp [Op.bytesLess]
  | cons y b =>
   have := ih b
   simp only [Op.bytesLess]
   rcases Nat.lt_trichotomy x.toNat y.toNat with q | q | q
   ·have h1 : x < y := q
    have h2 : ¬ y < x := fun h => absurd (show y.toNat < x.toNat from h) (by omega)
    have h3 : (y == x) = false := by simp; rintro rfl; omega
    simp [h1, h2, h3]
   ·obtain rfl : x = y := UInt8.toNat_inj.1 q
    have h2 : ¬ x < x := fun h => absurd (show x.toNat < x.toNat from h) (by omega)
    simp [h2] at this |-
    rw [<- this]
   ·have h1 : y < x := q
    have h2 : ¬ x < y := fun h => absurd (show x.toNat < y.toNat from h) (by omega)
    have h3 : (x == y) = false := by simp; rintro rfl; omega
    simp [h1, h2, h3]
theorem zt {T : Tab} {t : Nat} (a b : List UInt8) (c : Bool) : af T .leq t c (.s a) (.s b) = some (.b (!Op.bytesLess b a)) := by rw [bin_sle, vW]
theorem zu {T : Tab} {t : Nat} (a b : List UInt8) (c : Bool) : af T .gtr t c (.s a) (.s b) = some (.b (Op.bytesLess b a)) := by rw [bin_sgt, vW, Bool.not_not]
theorem b_seq {T : Tab} {t : Nat} (a b : List UInt8) (c : Bool) : af T .eql t c (.s a) (.s b) = some (.b (decide (a = b))) := by rw [cb]; congr 2; rw [Bool.eq_iff_iff]; simp
theorem b_sne {T : Tab} {t : Nat} (a b : List UInt8) (c : Bool) : af T .neq t c (.s a) (.s b) = some (.b (!decide (a = b))) := by rw [tK]; congr 3; rw [Bool.eq_iff_iff]; simp
theorem tM {T : Tab} {t : Nat} (a : List UInt8) (c : Bool) : af T .eql t c (.s a) (.s []) = some (.b (decide (a.length = 0))) := by rw [b_seq]; congr 2; rw [Bool.eq_iff_iff]; simp [List.length_eq_zero_iff]
theorem pf {T : Tab} {t : Nat} (a : List UInt8) (c : Bool) : af T .neq t c (.s a) (.s []) = some (.b (!decide (a.length = 0))) := by rw [b_sne]; congr 3; rw [Bool.eq_iff_iff]; simp [List.length_eq_zero_iff]
theorem xL (x : List UInt8) : aD T0 9 (AV.s x).cells = some (.s x) := lG _ _
end Go.Proofs.YtmfhmlhaofpeiaaGreatDoor.Ev
