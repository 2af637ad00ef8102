/- The tree of values: how the evaluator sees it, and its reading. -/
import Derived.Test.YtmfhmlhaofpeiaaGreatDoorV3
import Derived.Test.YtmfhmlhaofpeiaaGreatDoorV6
namespace Go.Proofs.YtmfhmlhaofpeiaaGreatDoor.Ev
open Go Go.RowKit
set_option linter.unusedSimpArgs false
set_option linter.unusedVariables false
set_option maxRecDepth 100000

mutual
inductive Val where
  | mk (kind n : Int) (s : List UInt8) (list : List Val) (fields : List Fld)
inductive Fld where
  | mk (name : List UInt8) (v : Val)
end
def Val.kind : Val → Int | .mk k _ _ _ _ => k
def Val.n : Val → Int | .mk _ n _ _ _ => n
def Val.s : Val → List UInt8 | .mk _ _ s _ _ => s
def Val.list : Val → List Val | .mk _ _ _ l _ => l
def Val.fields : Val → List Fld | .mk _ _ _ _ f => f
def Fld.name : Fld → List UInt8 | .mk n _ => n
def Fld.v : Fld → Val | .mk _ v => v
instance : Inhabited Val := ⟨.mk 0 0 [] [] []⟩
instance : Inhabited Fld := ⟨.mk [] default⟩
mutual
def encV : Val → AV
  | .mk k n s l fs => .agg [.i .i64 k, .i .i64 n, .s s, .lst (encVs l), .lst (encFs fs)]
def encF : Fld → AV
  | .mk nm v => .agg (.s nm :: (encV v).cells)
def encVs : List Val → List AV
  | [] => []
  | v :: vs => encV v :: encVs vs
def encFs : List Fld → List AV
  | [] => []
  | f :: fs => encF f :: encFs fs
end
theorem encVs_eq (l : List Val) : encVs l = l.map encV := by
  induction l with
  | nil => rw [encVs]; rfl
  | cons v vs ih => rw [encVs, ih]; rfl
theorem encFs_eq (l : List Fld) : encFs l = l.map encF := by
  induction l with
  | nil => rw [encFs]; rfl
  | cons v vs ih => rw [encFs, ih]; rfl
theorem encV_eq (v : Val) : encV v = .agg [.i .i64 v.kind, .i .i64 v.n, .s v.s, .lst (v.list.map encV), .lst (v.fields.map encF)] := by
  cases v; rw [encV, encVs_eq, encFs_eq]; rfl
theorem encF_eq (f : Fld) : encF f = .agg (.s f.name :: (encV f.v).cells) := by
  cases f; rw [encF]; rfl
mutual
inductive okV : Val → Prop where
  | mk {k n : Int} {s : List UInt8} {l : List Val} {fs : List Fld} : (Lit.int .i64 k).wf = true → (Lit.int .i64 n).wf = true → s.length ≤ 140737488351232 → l.length ≤ 140737488351232 → fs.length ≤ 140737488351232 → (∀ x ∈ l, okV x) → (∀ f ∈ fs, okF f) → okV (.mk k n s l fs)
inductive okF : Fld → Prop where
  | mk {nm : List UInt8} {v : Val} : nm.length ≤ 140737488351232 → okV v → okF (.mk nm v)
end
theorem clen_V (v : Val) : (encV v).cells.length = 5 := by rw [encV_eq]; rfl
theorem clen_F (f : Fld) : (encF f).cells.length = 6 := by rw [encF_eq, encV_eq]; rfl
theorem fld_V_kind (v : Val) : ofCells T0 3 ((encV v).cells.drop 0) = some (.i .i64 v.kind) := by rw [encV_eq]; exact ofc_3 _ _
theorem fld_V_n (v : Val) : ofCells T0 3 ((encV v).cells.drop 1) = some (.i .i64 v.n) := by rw [encV_eq]; exact ofc_3 _ _
theorem fld_V_s (v : Val) : ofCells T0 9 ((encV v).cells.drop 2) = some (.s v.s) := by rw [encV_eq]; exact ofc_9 _ _
theorem fld_V_list (v : Val) : ofCells T0 32 ((encV v).cells.drop 3) = some (.lst (v.list.map encV)) := by rw [encV_eq]; exact ofc_32 _ _
theorem fld_V_fields (v : Val) : ofCells T0 33 ((encV v).cells.drop 4) = some (.lst (v.fields.map encF)) := by rw [encV_eq]; exact ofc_33 _ _
theorem ofc_encV (v : Val) : ofCells T0 35 (encV v).cells = some (encV v) := by rw [encV_eq, ofc_35]; rfl
theorem ofc0_encV (v : Val) : ofCells T0 35 ((encV v).cells.drop 0) = some (encV v) := ofc_encV v
theorem fld_F_name (f : Fld) : ofCells T0 9 ((encF f).cells.drop 0) = some (.s f.name) := by rw [encF_eq]; exact ofc_9 _ _
theorem fld_F_v (f : Fld) : ofCells T0 35 ((encF f).cells.drop 1) = some (encV f.v) := by rw [encF_eq]; exact ofc_encV f.v
theorem size_list (v : Val) {x : Val} (h : x ∈ v.list) : SizeOf.sizeOf x < SizeOf.sizeOf v := by
  obtain ⟨k, n, s, l, fs⟩ := v
  have := List.sizeOf_lt_of_mem (show x ∈ l from h)
  simp only [Val.mk.sizeOf_spec]; omega
theorem size_fields (v : Val) {f : Fld} (h : f ∈ v.fields) : SizeOf.sizeOf f.v < SizeOf.sizeOf v := by
  obtain ⟨k, n, s, l, fs⟩ := v
  have := List.sizeOf_lt_of_mem (show f ∈ fs from h)
  obtain ⟨nm, w⟩ := f
  simp only [Val.mk.sizeOf_spec, Fld.mk.sizeOf_spec, Fld.v] at this ⊢; omega
theorem okV_list {v : Val} (h : okV v) : v.s.length ≤ 140737488351232 ∧ v.list.length ≤ 140737488351232 ∧ v.fields.length ≤ 140737488351232 ∧ (∀ x ∈ v.list, okV x) ∧ (∀ f ∈ v.fields, okF f) := by
  cases h with
  | mk h1 h2 h3 h4 h5 h6 h7 => exact ⟨h3, h4, h5, h6, h7⟩
theorem okF_v {f : Fld} (h : okF f) : f.name.length ≤ 140737488351232 ∧ okV f.v := by
  cases h with
  | mk h1 h2 => exact ⟨h1, h2⟩
theorem leafs_V (v : Val) : allLeaf (encV v).cells = true := by rw [encV_eq]; rfl
theorem leafs_F (f : Fld) : allLeaf (encF f).cells = true := by rw [encF_eq, encV_eq]; rfl
theorem free_V (v : Val) : (encV v).idfree = true := by rw [encV_eq]; rfl
theorem norm_V (v : Val) : (encV v).norm = encV v := by rw [encV_eq]; rfl
theorem ofc_encF (f : Fld) : ofCells T0 52 (encF f).cells = some (encF f) := by rw [encF_eq, encV_eq, ofc_52]; rfl
theorem ofc0_encF (f : Fld) : ofCells T0 52 ((encF f).cells.drop 0) = some (encF f) := ofc_encF f
theorem st_V {h : Tr AB} {id e : Nat} {g : Bool} {cs : List AV} (v : Val) (hc : cs.length = 5) : evStore T0 (h.put id (some (.cells cs e g))) 35 (.ptr id 0) (encV v) = some ((h.put id (some (.cells cs e g))).put id (some (.cells (encV v).cells e g))) := store_all sz_35 (clen_V v) hc (leafs_V v)
theorem st_F {h : Tr AB} {id e : Nat} {g : Bool} {cs : List AV} (v : Fld) (hc : cs.length = 6) : evStore T0 (h.put id (some (.cells cs e g))) 52 (.ptr id 0) (encF v) = some ((h.put id (some (.cells cs e g))).put id (some (.cells (encF v).cells e g))) := store_all sz_52 (clen_F v) hc (leafs_F v)
theorem st_V0 {h : Tr AB} {id e : Nat} {g : Bool} (v : Val) : evStore T0 (h.put id (some (.cells [.i .i64 0, .i .i64 0, .s [], .nilz true, .nilz true] e g))) 35 (.ptr id 0) (encV v) = some ((h.put id (some (.cells [.i .i64 0, .i .i64 0, .s [], .nilz true, .nilz true] e g))).put id (some (.cells (encV v).cells e g))) := st_V v rfl
theorem st_F0 {h : Tr AB} {id e : Nat} {g : Bool} (v : Fld) : evStore T0 (h.put id (some (.cells [.s [], .i .i64 0, .i .i64 0, .s [], .nilz true, .nilz true] e g))) 52 (.ptr id 0) (encF v) = some ((h.put id (some (.cells [.s [], .i .i64 0, .i .i64 0, .s [], .nilz true, .nilz true] e g))).put id (some (.cells (encF v).cells e g))) := st_F v rfl
theorem oZ_V {v : Val} {σ : AS} {K : AV → Prop} : oZ T0 σ (encV v) K = K (encV v) := by rw [oZ_free (free_V v), norm_V]
end Go.Proofs.YtmfhmlhaofpeiaaGreatDoor.Ev
