/- The chapter's structs, and how the evaluator sees them. Printed by enc.py, a program of this session's. -/
import Derived.Test.YtpnoongjaehmlaaDoorEvF
namespace Go.Proofs.YtpnoongjaehmlaaDoor.Ev
open Go Go.RowKit
structure Lb where
  k : List UInt8
  v : List UInt8
  deriving DecidableEq
instance : Inhabited Lb := ⟨⟨[], []⟩⟩
def encLb (x : Lb) : AV := .agg [.s x.k, .s x.v]
theorem clen_Lb (x : Lb) : (encLb x).cells.length = 2 := rfl
theorem leafs_Lb (x : Lb) : allLeaf (encLb x).cells = true := rfl
theorem ofc_encLb (x : Lb) : ofCells T0 66 (encLb x).cells = some (encLb x) := by rw [ofc_66]; rfl
theorem ofc0_encLb (x : Lb) : ofCells T0 66 ((encLb x).cells.drop 0) = some (encLb x) := ofc_encLb x
theorem fld_Lb_k (x : Lb) : ofCells T0 9 ((encLb x).cells.drop 0) = some (.s x.k) := ofc_9 _ _
theorem prt_Lb_k (x : Lb) : evPart T0 9 0 (encLb x) = some (.s x.k) := fld_Lb_k x
theorem fld_Lb_v (x : Lb) : ofCells T0 9 ((encLb x).cells.drop 1) = some (.s x.v) := ofc_9 _ _
theorem prt_Lb_v (x : Lb) : evPart T0 9 1 (encLb x) = some (.s x.v) := fld_Lb_v x
structure Ow where
  kind : List UInt8
  name : List UInt8
  uid : Int
  ctl : Bool
  blk : Bool
  deriving DecidableEq
instance : Inhabited Ow := ⟨⟨[], [], 0, false, false⟩⟩
def encOw (x : Ow) : AV := .agg [.s x.kind, .s x.name, .i .i64 x.uid, .b x.ctl, .b x.blk]
theorem clen_Ow (x : Ow) : (encOw x).cells.length = 5 := rfl
theorem leafs_Ow (x : Ow) : allLeaf (encOw x).cells = true := rfl
theorem ofc_encOw (x : Ow) : ofCells T0 43 (encOw x).cells = some (encOw x) := by rw [ofc_43]; rfl
theorem ofc0_encOw (x : Ow) : ofCells T0 43 ((encOw x).cells.drop 0) = some (encOw x) := ofc_encOw x
theorem fld_Ow_kind (x : Ow) : ofCells T0 9 ((encOw x).cells.drop 0) = some (.s x.kind) := ofc_9 _ _
theorem prt_Ow_kind (x : Ow) : evPart T0 9 0 (encOw x) = some (.s x.kind) := fld_Ow_kind x
theorem fld_Ow_name (x : Ow) : ofCells T0 9 ((encOw x).cells.drop 1) = some (.s x.name) := ofc_9 _ _
theorem prt_Ow_name (x : Ow) : evPart T0 9 1 (encOw x) = some (.s x.name) := fld_Ow_name x
theorem fld_Ow_uid (x : Ow) : ofCells T0 3 ((encOw x).cells.drop 2) = some (.i .i64 x.uid) := ofc_3 _ _
theorem prt_Ow_uid (x : Ow) : evPart T0 3 2 (encOw x) = some (.i .i64 x.uid) := fld_Ow_uid x
theorem fld_Ow_ctl (x : Ow) : ofCells T0 4 ((encOw x).cells.drop 3) = some (.b x.ctl) := ofc_4 _ _
theorem prt_Ow_ctl (x : Ow) : evPart T0 4 3 (encOw x) = some (.b x.ctl) := fld_Ow_ctl x
theorem fld_Ow_blk (x : Ow) : ofCells T0 4 ((encOw x).cells.drop 4) = some (.b x.blk) := ofc_4 _ _
theorem prt_Ow_blk (x : Ow) : evPart T0 4 4 (encOw x) = some (.b x.blk) := fld_Ow_blk x
structure Mg where
  name : List UInt8
  fields : List (List UInt8)
  deriving DecidableEq
instance : Inhabited Mg := ⟨⟨[], []⟩⟩
def encMg (x : Mg) : AV := .agg [.s x.name, .lst (x.fields.map AV.s)]
theorem clen_Mg (x : Mg) : (encMg x).cells.length = 2 := rfl
theorem leafs_Mg (x : Mg) : allLeaf (encMg x).cells = true := rfl
theorem ofc_encMg (x : Mg) : ofCells T0 54 (encMg x).cells = some (encMg x) := by rw [ofc_54]; rfl
theorem ofc0_encMg (x : Mg) : ofCells T0 54 ((encMg x).cells.drop 0) = some (encMg x) := ofc_encMg x
theorem fld_Mg_name (x : Mg) : ofCells T0 9 ((encMg x).cells.drop 0) = some (.s x.name) := ofc_9 _ _
theorem prt_Mg_name (x : Mg) : evPart T0 9 0 (encMg x) = some (.s x.name) := fld_Mg_name x
theorem fld_Mg_fields (x : Mg) : ofCells T0 24 ((encMg x).cells.drop 1) = some (.lst (x.fields.map AV.s)) := ofc_24 _ _
theorem prt_Mg_fields (x : Mg) : evPart T0 24 1 (encMg x) = some (.lst (x.fields.map AV.s)) := fld_Mg_fields x
structure Mt where
  kind : List UInt8
  ns : List UInt8
  name : List UInt8
  uid : Int
  ver : Int
  gen : Int
  created : Int
  deleting : Bool
  delAt : Int
  labels : List Lb
  owners : List Ow
  fins : List (List UInt8)
  mgrs : List Mg
  deriving DecidableEq
instance : Inhabited Mt := ⟨⟨[], [], [], 0, 0, 0, 0, false, 0, [], [], [], []⟩⟩
def encMt (x : Mt) : AV := .agg [.s x.kind, .s x.ns, .s x.name, .i .i64 x.uid, .i .i64 x.ver, .i .i64 x.gen, .i .i64 x.created, .b x.deleting, .i .i64 x.delAt, .lst (x.labels.map encLb), .lst (x.owners.map encOw), .lst (x.fins.map AV.s), .lst (x.mgrs.map encMg)]
theorem clen_Mt (x : Mt) : (encMt x).cells.length = 13 := rfl
theorem leafs_Mt (x : Mt) : allLeaf (encMt x).cells = true := rfl
theorem ofc_encMt (x : Mt) : ofCells T0 27 (encMt x).cells = some (encMt x) := by rw [ofc_27]; rfl
theorem ofc0_encMt (x : Mt) : ofCells T0 27 ((encMt x).cells.drop 0) = some (encMt x) := ofc_encMt x
theorem fld_Mt_kind (x : Mt) : ofCells T0 9 ((encMt x).cells.drop 0) = some (.s x.kind) := ofc_9 _ _
theorem prt_Mt_kind (x : Mt) : evPart T0 9 0 (encMt x) = some (.s x.kind) := fld_Mt_kind x
theorem fld_Mt_ns (x : Mt) : ofCells T0 9 ((encMt x).cells.drop 1) = some (.s x.ns) := ofc_9 _ _
theorem prt_Mt_ns (x : Mt) : evPart T0 9 1 (encMt x) = some (.s x.ns) := fld_Mt_ns x
theorem fld_Mt_name (x : Mt) : ofCells T0 9 ((encMt x).cells.drop 2) = some (.s x.name) := ofc_9 _ _
theorem prt_Mt_name (x : Mt) : evPart T0 9 2 (encMt x) = some (.s x.name) := fld_Mt_name x
theorem fld_Mt_uid (x : Mt) : ofCells T0 3 ((encMt x).cells.drop 3) = some (.i .i64 x.uid) := ofc_3 _ _
theorem prt_Mt_uid (x : Mt) : evPart T0 3 3 (encMt x) = some (.i .i64 x.uid) := fld_Mt_uid x
theorem fld_Mt_ver (x : Mt) : ofCells T0 3 ((encMt x).cells.drop 4) = some (.i .i64 x.ver) := ofc_3 _ _
theorem prt_Mt_ver (x : Mt) : evPart T0 3 4 (encMt x) = some (.i .i64 x.ver) := fld_Mt_ver x
theorem fld_Mt_gen (x : Mt) : ofCells T0 3 ((encMt x).cells.drop 5) = some (.i .i64 x.gen) := ofc_3 _ _
theorem prt_Mt_gen (x : Mt) : evPart T0 3 5 (encMt x) = some (.i .i64 x.gen) := fld_Mt_gen x
theorem fld_Mt_created (x : Mt) : ofCells T0 3 ((encMt x).cells.drop 6) = some (.i .i64 x.created) := ofc_3 _ _
theorem prt_Mt_created (x : Mt) : evPart T0 3 6 (encMt x) = some (.i .i64 x.created) := fld_Mt_created x
theorem fld_Mt_deleting (x : Mt) : ofCells T0 4 ((encMt x).cells.drop 7) = some (.b x.deleting) := ofc_4 _ _
theorem prt_Mt_deleting (x : Mt) : evPart T0 4 7 (encMt x) = some (.b x.deleting) := fld_Mt_deleting x
theorem fld_Mt_delAt (x : Mt) : ofCells T0 3 ((encMt x).cells.drop 8) = some (.i .i64 x.delAt) := ofc_3 _ _
theorem prt_Mt_delAt (x : Mt) : evPart T0 3 8 (encMt x) = some (.i .i64 x.delAt) := fld_Mt_delAt x
theorem fld_Mt_labels (x : Mt) : ofCells T0 22 ((encMt x).cells.drop 9) = some (.lst (x.labels.map encLb)) := ofc_22 _ _
theorem prt_Mt_labels (x : Mt) : evPart T0 22 9 (encMt x) = some (.lst (x.labels.map encLb)) := fld_Mt_labels x
theorem fld_Mt_owners (x : Mt) : ofCells T0 23 ((encMt x).cells.drop 10) = some (.lst (x.owners.map encOw)) := ofc_23 _ _
theorem prt_Mt_owners (x : Mt) : evPart T0 23 10 (encMt x) = some (.lst (x.owners.map encOw)) := fld_Mt_owners x
theorem fld_Mt_fins (x : Mt) : ofCells T0 24 ((encMt x).cells.drop 11) = some (.lst (x.fins.map AV.s)) := ofc_24 _ _
theorem prt_Mt_fins (x : Mt) : evPart T0 24 11 (encMt x) = some (.lst (x.fins.map AV.s)) := fld_Mt_fins x
theorem fld_Mt_mgrs (x : Mt) : ofCells T0 25 ((encMt x).cells.drop 12) = some (.lst (x.mgrs.map encMg)) := ofc_25 _ _
theorem prt_Mt_mgrs (x : Mt) : evPart T0 25 12 (encMt x) = some (.lst (x.mgrs.map encMg)) := fld_Mt_mgrs x

theorem scell (s : List UInt8) : (AV.s s).cells.length = 1 := rfl
theorem slen_map {α : Type} (f : α → AV) (l : List α) : (l.map f).length = l.length := List.length_map ..
/-- What a block gives to a load. -/
def loadB (T : Tab) (t off : Nat) (b : Option AB) : Option AV := match b with
  | some (.cells cs _ _) => if off ≤ cs.length then ofCells T t (cs.drop off) else none
  | _ => none
theorem load_get {T : Tab} {h : Tr AB} {t id off : Nat} : evLoad T h t (.ptr id off) = loadB T t off (h.get id) := by
  unfold evLoad lookIn loadB
  simp only
  generalize h.get id = b
  match b with
  | none => rfl
  | some (.cells cs e g) =>
    simp only
    by_cases q : off ≤ cs.length
    · rw [if_pos q, Nat.ble_eq_true_of_le q]
    · rw [if_neg q]
      have : Nat.ble off cs.length = false := by
        cases hb : Nat.ble off cs.length with
        | false => rfl
        | true => exact absurd (Nat.le_of_ble_eq_true hb) q
      rw [this]
  | some (.map _) => rfl
  | some (.siter _ _) => rfl
theorem loadB_some {T : Tab} {t off : Nat} {cs : List AV} {e : TypeId} {g : Bool} (h : off ≤ cs.length) : loadB T t off (some (.cells cs e g)) = ofCells T t (cs.drop off) := by unfold loadB; simp only; rw [if_pos h]
theorem get_put_same {α : Type} (t : Tr α) (k : Nat) (v : Option α) : (t.put k v).get k = v := by rw [Tr.get_put, if_pos rfl]
theorem get_put_ne {α : Type} (t : Tr α) {k j : Nat} (v : Option α) (h : j ≠ k) : (t.put k v).get j = t.get j := by rw [Tr.get_put, if_neg h]
theorem store_all {T : Tab} {h : Tr AB} {t id : Nat} {cs : List AV} {e z : Nat} {g : Bool} {v : AV} (hz : T.sz t = some z) (hl : v.cells.length = z) (hc : cs.length = z) (ha : allLeaf v.cells = true) : evStore T (h.put id (some (.cells cs e g))) t (.ptr id 0) v = some ((h.put id (some (.cells cs e g))).put id (some (.cells v.cells e g))) := by
  refine store_p hz (get_put_same _ _ _) hl ha ?_
  have : ∀ (a b : List AV), a.length = b.length → setN a 0 b = some b := by
    intro a b
    induction b generalizing a with
    | nil => intro q; cases a with | nil => rfl | cons _ _ => simp at q
    | cons x b ih => intro q; cases a with | nil => simp at q | cons y a => simp [setN, ih a (by simpa using q)]
  exact this _ _ (by omega)
theorem min5 {T : Tab} {h : Tr AB} {k : IntKind} (ts : List Nat) (a b c d e : Int) : evBuiltin T h .min ts [.i k a, .i k b, .i k c, .i k d, .i k e] = some (.i k (min (min (min (min a b) c) d) e)) := by
  simp only [evBuiltin, fold2, if_true]
  congr 2; omega

theorem st_Lb {h : Tr AB} {id e : Nat} {g : Bool} (x : Lb) : evStore T0 (h.put id (some (.cells [.s [], .s []] e g))) 66 (.ptr id 0) (encLb x) = some ((h.put id (some (.cells [.s [], .s []] e g))).put id (some (.cells (encLb x).cells e g))) := store_all sz_66 rfl rfl rfl
theorem st_Ow {h : Tr AB} {id e : Nat} {g : Bool} (x : Ow) : evStore T0 (h.put id (some (.cells [.s [], .s [], .i .i64 0, .b false, .b false] e g))) 43 (.ptr id 0) (encOw x) = some ((h.put id (some (.cells [.s [], .s [], .i .i64 0, .b false, .b false] e g))).put id (some (.cells (encOw x).cells e g))) := store_all sz_43 rfl rfl rfl
theorem st_Mg {h : Tr AB} {id e : Nat} {g : Bool} (x : Mg) : evStore T0 (h.put id (some (.cells [.s [], .nils] e g))) 54 (.ptr id 0) (encMg x) = some ((h.put id (some (.cells [.s [], .nils] e g))).put id (some (.cells (encMg x).cells e g))) := store_all sz_54 rfl rfl rfl
theorem st_Mt {h : Tr AB} {id e : Nat} {g : Bool} (x : Mt) : evStore T0 (h.put id (some (.cells [.s [], .s [], .s [], .i .i64 0, .i .i64 0, .i .i64 0, .i .i64 0, .b false, .i .i64 0, .nils, .nils, .nils, .nils] e g))) 27 (.ptr id 0) (encMt x) = some ((h.put id (some (.cells [.s [], .s [], .s [], .i .i64 0, .i .i64 0, .i .i64 0, .i .i64 0, .b false, .i .i64 0, .nils, .nils, .nils, .nils] e g))).put id (some (.cells (encMt x).cells e g))) := store_all sz_27 rfl rfl rfl
theorem bl_total (a b : List UInt8) : (Op.bytesLess a b || a == b) = !Op.bytesLess b a := by
  induction a generalizing b with
  | nil => cases b <;> simp [Op.bytesLess]
  | cons x a ih =>
    cases b with
    | nil => simp [Op.bytesLess]
    | cons y b =>
      have := ih b
      simp only [Op.bytesLess]
      rcases Nat.lt_trichotomy x.toNat y.toNat with q | q | q
      · have h1 : x < y := q
        have h2 : ¬ y < x := fun h => absurd (show y.toNat < x.toNat from h) (by omega)
        have h3 : (y == x) = false := by simp; rintro rfl; omega
        simp [h1, h2, h3]
      · obtain rfl : x = y := UInt8.toNat_inj.1 q
        have h2 : ¬ x < x := fun h => absurd (show x.toNat < x.toNat from h) (by omega)
        simp [h2] at this ⊢
        rw [← this]
      · have h1 : y < x := q
        have h2 : ¬ x < y := fun h => absurd (show x.toNat < y.toNat from h) (by omega)
        have h3 : (x == y) = false := by simp; rintro rfl; omega
        simp [h1, h2, h3]
theorem b_sle {T : Tab} {t : Nat} (a b : List UInt8) (c : Bool) : evBin T .leq t c (.s a) (.s b) = some (.b (!Op.bytesLess b a)) := by rw [bin_sle, bl_total]
theorem b_sgt {T : Tab} {t : Nat} (a b : List UInt8) (c : Bool) : evBin T .gtr t c (.s a) (.s b) = some (.b (Op.bytesLess b a)) := by rw [bin_sgt, bl_total, Bool.not_not]
theorem b_seq {T : Tab} {t : Nat} (a b : List UInt8) (c : Bool) : evBin T .eql t c (.s a) (.s b) = some (.b (decide (a = b))) := by rw [bin_seq]; congr 2; rw [Bool.eq_iff_iff]; simp
theorem b_sne {T : Tab} {t : Nat} (a b : List UInt8) (c : Bool) : evBin T .neq t c (.s a) (.s b) = some (.b (!decide (a = b))) := by rw [bin_sne]; congr 3; rw [Bool.eq_iff_iff]; simp
theorem b_snil {T : Tab} {t : Nat} (a : List UInt8) (c : Bool) : evBin T .eql t c (.s a) (.s []) = some (.b (decide (a.length = 0))) := by rw [b_seq]; congr 2; rw [Bool.eq_iff_iff]; simp [List.length_eq_zero_iff]
theorem b_snnil {T : Tab} {t : Nat} (a : List UInt8) (c : Bool) : evBin T .neq t c (.s a) (.s []) = some (.b (!decide (a.length = 0))) := by rw [b_sne]; congr 3; rw [Bool.eq_iff_iff]; simp [List.length_eq_zero_iff]
theorem ofc_s (x : List UInt8) : ofCells T0 9 (AV.s x).cells = some (.s x) := ofc_9 _ _
end Go.Proofs.YtpnoongjaehmlaaDoor.Ev
