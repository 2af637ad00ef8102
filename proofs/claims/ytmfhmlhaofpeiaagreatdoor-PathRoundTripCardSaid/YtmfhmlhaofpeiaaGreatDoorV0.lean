/- The chapter's structs, and how the evaluator sees them. Printed by encg.py, a program of this session's. -/
import Derived.Test.YtmfhmlhaofpeiaaGreatDoorEvF
namespace Go.Proofs.YtmfhmlhaofpeiaaGreatDoor.Ev
open Go Go.RowKit
structure XStep where
  kind_ : Int
  name_ : List UInt8
  index_ : Int
  value_ : List UInt8
  deriving DecidableEq
instance : Inhabited XStep := ⟨⟨0, [], 0, []⟩⟩
def encXStep (x : XStep) : AV := .agg [.i .i64 x.kind_, .s x.name_, .i .i64 x.index_, .s x.value_]
def okXStep (x : XStep) : Prop := (Lit.int .i64 x.kind_).wf = true ∧ x.name_.length ≤ 140737488351232 ∧ (Lit.int .i64 x.index_).wf = true ∧ x.value_.length ≤ 140737488351232
theorem clen_XStep (x : XStep) : (encXStep x).cells.length = 4 := rfl
theorem ofc_encXStep (x : XStep) : ofCells T0 50 (encXStep x).cells = some (encXStep x) := by rw [ofc_50]; rfl
theorem ofc0_encXStep (x : XStep) : ofCells T0 50 ((encXStep x).cells.drop 0) = some (encXStep x) := ofc_encXStep x
theorem fld_XStep_kind_ (x : XStep) : ofCells T0 3 ((encXStep x).cells.drop 0) = some (.i .i64 x.kind_) := ofc_3 _ _
theorem prt_XStep_kind_ (x : XStep) : evPart T0 3 0 (encXStep x) = some (.i .i64 x.kind_) := fld_XStep_kind_ x
theorem fld_XStep_name_ (x : XStep) : ofCells T0 9 ((encXStep x).cells.drop 1) = some (.s x.name_) := ofc_9 _ _
theorem prt_XStep_name_ (x : XStep) : evPart T0 9 1 (encXStep x) = some (.s x.name_) := fld_XStep_name_ x
theorem fld_XStep_index_ (x : XStep) : ofCells T0 3 ((encXStep x).cells.drop 2) = some (.i .i64 x.index_) := ofc_3 _ _
theorem prt_XStep_index_ (x : XStep) : evPart T0 3 2 (encXStep x) = some (.i .i64 x.index_) := fld_XStep_index_ x
theorem fld_XStep_value_ (x : XStep) : ofCells T0 9 ((encXStep x).cells.drop 3) = some (.s x.value_) := ofc_9 _ _
theorem prt_XStep_value_ (x : XStep) : evPart T0 9 3 (encXStep x) = some (.s x.value_) := fld_XStep_value_ x
theorem scell (s : List UInt8) : (AV.s s).cells.length = 1 := rfl
theorem slen_map {α : Type} (f : α → AV) (l : List α) : (l.map f).length = l.length := List.length_map ..
/-- What a block gives to a load. -/
def loadB (T : Tab) (t off : Nat) (b : Option AB) : Option AV := match b with
  | some (.cells cs _ _) => if off ≤ cs.length then ofCells T t (cs.drop off) else none
  | _ => none
theorem load_get {T : Tab} {h : Tr AB} {t id off : Nat} : evLoad T h t (.ptr id off) = loadB T t off (h.get id) := by
  unfold evLoad lookIn loadB
  simp only
  generalize h.get id = b
  match b with
  | none => rfl
  | some (.cells cs e g) =>
    simp only
    by_cases q : off ≤ cs.length
    · rw [if_pos q, Nat.ble_eq_true_of_le q]
    · rw [if_neg q]
      have : Nat.ble off cs.length = false := by
        cases hb : Nat.ble off cs.length with
        | false => rfl
        | true => exact absurd (Nat.le_of_ble_eq_true hb) q
      rw [this]
  | some (.map _) => rfl
  | some (.siter _ _) => rfl
theorem loadB_some {T : Tab} {t off : Nat} {cs : List AV} {e : TypeId} {g : Bool} (h : off ≤ cs.length) : loadB T t off (some (.cells cs e g)) = ofCells T t (cs.drop off) := by unfold loadB; simp only; rw [if_pos h]
theorem get_put_same {α : Type} (t : Tr α) (k : Nat) (v : Option α) : (t.put k v).get k = v := by rw [Tr.get_put, if_pos rfl]
theorem get_put_ne {α : Type} (t : Tr α) {k j : Nat} (v : Option α) (h : j ≠ k) : (t.put k v).get j = t.get j := by rw [Tr.get_put, if_neg h]
theorem store_all {T : Tab} {h : Tr AB} {t id : Nat} {cs : List AV} {e z : Nat} {g : Bool} {v : AV} (hz : T.sz t = some z) (hl : v.cells.length = z) (hc : cs.length = z) (ha : allLeaf v.cells = true) : evStore T (h.put id (some (.cells cs e g))) t (.ptr id 0) v = some ((h.put id (some (.cells cs e g))).put id (some (.cells v.cells e g))) := by
  refine store_p hz (get_put_same _ _ _) hl ha ?_
  have : ∀ (a b : List AV), a.length = b.length → setN a 0 b = some b := by
    intro a b
    induction b generalizing a with
    | nil => intro q; cases a with | nil => rfl | cons _ _ => simp at q
    | cons x b ih => intro q; cases a with | nil => simp at q | cons y a => simp [setN, ih a (by simpa using q)]
  exact this _ _ (by omega)
theorem storeA_all {T : Tab} {h : Tr AB} {t id e z : Nat} {cs : List AV} {g : Bool} {v : AV} (hz : T.sz t = some z) (hg : h.get id = some (.cells cs e g)) (hl : v.cells.length = z) (hc : cs.length = z) (ha : allLeaf v.cells = true) : evStore T h t (.ptr id 0) v = some (h.put id (some (.cells v.cells e g))) := by
  refine store_p hz hg hl ha ?_
  have : ∀ (a b : List AV), a.length = b.length → setN a 0 b = some b := by
    intro a b
    induction b generalizing a with
    | nil => intro q; cases a with | nil => rfl | cons _ _ => simp at q
    | cons x b ih => intro q; cases a with | nil => simp at q | cons y a => simp [setN, ih a (by simpa using q)]
  exact this _ _ (by omega)
theorem min5 {T : Tab} {h : Tr AB} {k : IntKind} (ts : List Nat) (a b c d e : Int) : evBuiltin T h .min ts [.i k a, .i k b, .i k c, .i k d, .i k e] = some (.i k (min (min (min (min a b) c) d) e)) := by
  simp only [evBuiltin, fold2, if_true]
  congr 2; omega
theorem stA_XStep {h : Tr AB} {id e : Nat} {g : Bool} {cs : List AV} (x : XStep) (hg : h.get id = some (.cells cs e g)) (hc : cs.length = 4) : evStore T0 h 50 (.ptr id 0) (encXStep x) = some (h.put id (some (.cells (encXStep x).cells e g))) := storeA_all sz_50 hg rfl hc rfl
theorem st_XStep {h : Tr AB} {id e : Nat} {g : Bool} (x : XStep) : evStore T0 (h.put id (some (.cells [.i .i64 0, .s [], .i .i64 0, .s []] e g))) 50 (.ptr id 0) (encXStep x) = some ((h.put id (some (.cells [.i .i64 0, .s [], .i .i64 0, .s []] e g))).put id (some (.cells (encXStep x).cells e g))) := stA_XStep x (get_put_same _ _ _) rfl
theorem bl_total (a b : List UInt8) : (Op.bytesLess a b || a == b) = !Op.bytesLess b a := by
  induction a generalizing b with
  | nil => cases b <;> simp [Op.bytesLess]
  | cons x a ih =>
    cases b with
    | nil => simp [Op.bytesLess]
    | cons y b =>
      have := ih b
      simp only [Op.bytesLess]
      rcases Nat.lt_trichotomy x.toNat y.toNat with q | q | q
      · have h1 : x < y := q
        have h2 : ¬ y < x := fun h => absurd (show y.toNat < x.toNat from h) (by omega)
        have h3 : (y == x) = false := by simp; rintro rfl; omega
        simp [h1, h2, h3]
      · obtain rfl : x = y := UInt8.toNat_inj.1 q
        have h2 : ¬ x < x := fun h => absurd (show x.toNat < x.toNat from h) (by omega)
        simp [h2] at this ⊢
        rw [← this]
      · have h1 : y < x := q
        have h2 : ¬ x < y := fun h => absurd (show x.toNat < y.toNat from h) (by omega)
        have h3 : (x == y) = false := by simp; rintro rfl; omega
        simp [h1, h2, h3]
theorem b_sle {T : Tab} {t : Nat} (a b : List UInt8) (c : Bool) : evBin T .leq t c (.s a) (.s b) = some (.b (!Op.bytesLess b a)) := by rw [bin_sle, bl_total]
theorem b_sgt {T : Tab} {t : Nat} (a b : List UInt8) (c : Bool) : evBin T .gtr t c (.s a) (.s b) = some (.b (Op.bytesLess b a)) := by rw [bin_sgt, bl_total, Bool.not_not]
theorem b_seq {T : Tab} {t : Nat} (a b : List UInt8) (c : Bool) : evBin T .eql t c (.s a) (.s b) = some (.b (decide (a = b))) := by rw [bin_seq]; congr 2; rw [Bool.eq_iff_iff]; simp
theorem b_sne {T : Tab} {t : Nat} (a b : List UInt8) (c : Bool) : evBin T .neq t c (.s a) (.s b) = some (.b (!decide (a = b))) := by rw [bin_sne]; congr 3; rw [Bool.eq_iff_iff]; simp
theorem b_snil {T : Tab} {t : Nat} (a : List UInt8) (c : Bool) : evBin T .eql t c (.s a) (.s []) = some (.b (decide (a.length = 0))) := by rw [b_seq]; congr 2; rw [Bool.eq_iff_iff]; simp [List.length_eq_zero_iff]
theorem b_snnil {T : Tab} {t : Nat} (a : List UInt8) (c : Bool) : evBin T .neq t c (.s a) (.s []) = some (.b (!decide (a.length = 0))) := by rw [b_sne]; congr 3; rw [Bool.eq_iff_iff]; simp [List.length_eq_zero_iff]
theorem ofc_s (x : List UInt8) : ofCells T0 9 (AV.s x).cells = some (.s x) := ofc_9 _ _
/- slices 22:50 -/
end Go.Proofs.YtmfhmlhaofpeiaaGreatDoor.Ev
