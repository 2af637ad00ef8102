/- The tree of values: how the evaluator sees it, and its reading. -/
import Derived.Test.YtpnoongjaehmlaaDoorV13
import Derived.Test.YtpnoongjaehmlaaDoorV6
namespace Go.Proofs.YtpnoongjaehmlaaDoor.Ev
open Go Go.RowKit
set_option linter.unusedSimpArgs false
set_option linter.unusedVariables false
set_option maxRecDepth 100000

mutual
inductive Val where
  | mk (kind n : Int) (s : List UInt8) (list : List Val) (fields : List Fld)
inductive Fld where
  | mk (name : List UInt8) (v : Val)
end
def Val.kind : Val → Int | .mk k _ _ _ _ => k
def Val.n : Val → Int | .mk _ n _ _ _ => n
def Val.s : Val → List UInt8 | .mk _ _ s _ _ => s
def Val.list : Val → List Val | .mk _ _ _ l _ => l
def Val.fields : Val → List Fld | .mk _ _ _ _ f => f
def Fld.name : Fld → List UInt8 | .mk n _ => n
def Fld.v : Fld → Val | .mk _ v => v
instance : Inhabited Val := ⟨.mk 0 0 [] [] []⟩
instance : Inhabited Fld := ⟨.mk [] default⟩
mutual
def encV : Val → AV
  | .mk k n s l fs => .agg [.i .i64 k, .i .i64 n, .s s, .lst (encVs l), .lst (encFs fs)]
def encF : Fld → AV
  | .mk nm v => .agg (.s nm :: (encV v).cells)
def encVs : List Val → List AV
  | [] => []
  | v :: vs => encV v :: encVs vs
def encFs : List Fld → List AV
  | [] => []
  | f :: fs => encF f :: encFs fs
end
theorem encVs_eq (l : List Val) : encVs l = l.map encV := by
  induction l with
  | nil => rw [encVs]; rfl
  | cons v vs ih => rw [encVs, ih]; rfl
theorem encFs_eq (l : List Fld) : encFs l = l.map encF := by
  induction l with
  | nil => rw [encFs]; rfl
  | cons v vs ih => rw [encFs, ih]; rfl
theorem encV_eq (v : Val) : encV v = .agg [.i .i64 v.kind, .i .i64 v.n, .s v.s, .lst (v.list.map encV), .lst (v.fields.map encF)] := by
  cases v; rw [encV, encVs_eq, encFs_eq]; rfl
theorem encF_eq (f : Fld) : encF f = .agg (.s f.name :: (encV f.v).cells) := by
  cases f; rw [encF]; rfl
mutual
inductive okV : Val → Prop where
  | mk {k n : Int} {s : List UInt8} {l : List Val} {fs : List Fld} : (Lit.int .i64 k).wf = true → (Lit.int .i64 n).wf = true → s.length ≤ 140737488351232 → l.length ≤ 140737488351232 → fs.length ≤ 140737488351232 → (∀ x ∈ l, okV x) → (∀ f ∈ fs, okF f) → okV (.mk k n s l fs)
inductive okF : Fld → Prop where
  | mk {nm : List UInt8} {v : Val} : nm.length ≤ 140737488351232 → okV v → okF (.mk nm v)
end
theorem opnVF (m : Nat) : OpV Tryd.prog 32 encV okV m ∧ OpV Tryd.prog 80 encF okF m := by
  induction m with
  | zero =>
    refine ⟨⟨fun v => ?_, fun v => ?_, fun h => ?_⟩, ⟨fun v => ?_, fun v => ?_, fun h => ?_⟩⟩
    · rw [encV_eq]; kernel_rfl
    · rw [encV_eq]; rfl
    · simp [DataW.trod] at h
    · rw [encF_eq, encV_eq]; kernel_rfl
    · rw [encF_eq, encV_eq]; rfl
    · simp [DataW.trod] at h
  | succ m ih =>
    have sl := (OpV.slice (B := 80) (m := m) Tryd.underlying29 (by kernel_rfl) (by kernel_rfl) (of_decide_eq_true (by kernel_rfl)) ih.1).le (Nat.le_succ m)
    have sf := (OpV.slice (B := 96) (m := m) Tryd.underlying30 (by kernel_rfl) (by kernel_rfl) (of_decide_eq_true (by kernel_rfl)) ih.2).le (Nat.le_succ m)
    refine ⟨?_, ?_⟩
    · refine (OpV.struct Tryd.underlying32 (by kernel_rfl) (OpF.cons (z := 1) (z' := 4) rfl (by kernel_rfl) (opnV_3 m) (OpF.cons (z := 1) (z' := 3) rfl (by kernel_rfl) (opnV_3 m) (OpF.cons (z := 1) (z' := 2) rfl (by kernel_rfl) (opnV_9 m) (OpF.cons (z := 1) (z' := 1) rfl (by kernel_rfl) sl (OpF.one (z := 1) rfl (by kernel_rfl) sf)))))).iso (fun p => .mk p.1 p.2.1 p.2.2.1 p.2.2.2.1 p.2.2.2.2) (fun v => (v.kind, v.n, v.s, v.list, v.fields)) (fun v => ?_) (fun _ => rfl) (fun a h => ?_)
      · rw [encV_eq]; rfl
      · obtain ⟨h1, h2, h3, h4, h5⟩ := h
        exact .mk h1 h2 h3 (Nat.le_trans (Nat.le_mul_of_pos_right _ (by decide)) h4.1) (Nat.le_trans (Nat.le_mul_of_pos_right _ (by decide)) h5.1) h4.2 h5.2
    · refine (OpV.struct Tryd.underlying80 (by kernel_rfl) (OpF.cons (z := 1) (z' := 5) rfl (by kernel_rfl) (opnV_9 m) (OpF.one (z := 5) rfl (by kernel_rfl) ih.1))).iso (fun p => .mk p.1 p.2) (fun f => (f.name, f.v)) (fun f => ?_) (fun _ => rfl) (fun a h => ?_)
      · rw [encF_eq]; rfl
      · exact .mk h.1 h.2
theorem opnV_32 (m : Nat) : OpV Tryd.prog 32 encV okV m := (opnVF m).1
end Go.Proofs.YtpnoongjaehmlaaDoor.Ev
