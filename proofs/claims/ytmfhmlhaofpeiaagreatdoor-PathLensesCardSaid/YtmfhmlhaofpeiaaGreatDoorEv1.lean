/- The evaluator, a part of it. This session's own text. -/
import Derived.WalkKit
import Derived.LoopN
import Derived.Orders
import Derived.Scope
import Derived.Below
import Derived.Lib.Builder
import Derived.Lib.UnsafeStr
import Derived.Laws.StructEq
import Derived.ChangeKeysEq
import Derived.Lib.Strings
import Derived.Laws.BytesArg
namespace Go.Proofs.YtmfhmlhaofpeiaaGreatDoor.Ev
set_option linter.unusedVariables false
set_option linter.unusedSimpArgs false
open Go Go.RowKit
inductive AV where
 | b (x : Bool)
 | i (k : IntKind) (n : Int)
 | s (x : List UInt8)
 | ptr (id off : Nat)
 | iptr (cs : List AV)
 | nilp
 | sl (id off len : Nat) (cap : Option Nat)
 | lst (es : List AV)
 | nilz (t : Bool)
 | fn (f : Nat) (first cap : List AV)
 | nilf
 | ifc (t : Nat) (v : AV)
 | nili
 | agg (cs : List AV)
 | tup (vs : List AV)
 | mp (id : Nat)
 | nilm
 deriving Inhabited
abbrev AV.nils : AV := .nilz true
def AV.cells : AV -> List AV
 | .agg cs => cs
 | v => [v]
def AV.leaf : AV -> Bool
 | .agg _ => false
 | .tup _ => false
 | _ => true
def aJ : List AV -> List AV
 | [] => []
 | e :: es => e.cells ++ aJ es
def AV.idfree : AV -> Bool
 | .ptr _ _ => false
 | .sl _ _ _ _ => false
 | .mp _ => false
 | .iptr cs => idfrees cs
 | .lst _ => true
 | .fn _ fs cs => idfrees fs && idfrees cs
 | .ifc _ v => v.idfree
 | .agg cs => idfrees cs
 | .tup vs => idfrees vs
 | _ => true
 where idfrees : List AV -> Bool
 | [] => true
 | c :: cs => c.idfree && idfrees cs
inductive AB where
 | cells (cs : List AV) (elem : Nat) (grown : Bool)
 | map (es : List (AV × AV))
 | siter (s : List UInt8) (pos : Nat)
 deriving Inhabited
inductive Tr (α : Type) where
 | nil
 | node (v : Option α) (l r : Tr α)
def Tr.get {α : Type} : Tr α -> Nat -> Option α
 | .nil, _ => none
 | .node v l r, k => match k with
  | 0 => v
  | k + 1 => match Nat.beq (k % 2) 0 with
   | true => l.get (k / 2)
   | false => r.get (k / 2)
def Tr.top {α : Type} : Tr α -> Option α
 | .nil => none
 | .node v _ _ => v
def Tr.lt {α : Type} : Tr α -> Tr α
 | .nil => .nil
 | .node _ l _ => l
def Tr.rt {α : Type} : Tr α -> Tr α
 | .nil => .nil
 | .node _ _ r => r
def Tr.putF {α : Type} : Nat -> Tr α -> Nat -> Option α -> Tr α
 | 0, t, _, v => .node v t.lt t.rt
 | f + 1, t, k, v => match k with
  | 0 => .node v t.lt t.rt
  | k + 1 => match Nat.beq (k % 2) 0 with
   | true => .node t.top (putF f t.lt (k / 2) v) t.rt
   | false => .node t.top t.lt (putF f t.rt (k / 2) v)
def Tr.put {α : Type} (t : Tr α) (k : Nat) (v : Option α) : Tr α := Tr.putF k t k v
theorem Tr.get_nil {α : Type} (k : Nat) : (Tr.nil : Tr α).get k = none := by rfl
theorem Tr.get_lt {α : Type} (t : Tr α) (k : Nat) : t.lt.get k = t.get (2 * k + 1) := by
 cases t with
 | nil => rfl
 | node v l r =>
  show _ = (match Nat.beq (2 * k % 2) 0 with | true => l.get (2 * k / 2) | false => r.get (2 * k / 2))
  have e1 : 2 * k % 2 = 0 := by omega
  have e2 : 2 * k / 2 = k := by omega
  rw [e1, e2]; rfl
theorem Tr.get_rt {α : Type} (t : Tr α) (k : Nat) : t.rt.get k = t.get (2 * k + 2) := by
 cases t with
 | nil => rfl
 | node v l r =>
  show _ = (match Nat.beq ((2 * k + 1) % 2) 0 with | true => l.get ((2 * k + 1) / 2) | false => r.get ((2 * k + 1) / 2))
  have e1 : (2 * k + 1) % 2 = 1 := by omega
  have e2 : (2 * k + 1) / 2 = k := by omega
  rw [e1, e2]; rfl
theorem Tr.get_top {α : Type} (t : Tr α) : t.top = t.get 0 := by cases t <;> rfl
theorem Tr.get_node {α : Type} (v : Option α) (l r : Tr α) (k : Nat) : (Tr.node v l r).get k = if k = 0 then v else if k % 2 = 1 then l.get ((k - 1) / 2) else r.get ((k - 1) / 2) := by
 cases k with
 | zero => rfl
 | succ k =>
  show (match Nat.beq (k % 2) 0 with | true => l.get (k / 2) | false => r.get (k / 2)) = _
  rw [if_neg (by omega), Nat.add_sub_cancel]
  rcases Nat.mod_two_eq_zero_or_one k with h | h
  ·rw [if_pos (by omega), h]
  ·rw [if_neg (by omega), h]
theorem Tr.get_putF {α : Type} : ∀ (f : Nat) (t : Tr α) (k : Nat) (v : Option α) (j : Nat), k <= f -> (Tr.putF f t k v).get j = if j = k then v else t.get j := by
 have base : ∀ (t : Tr α) (v : Option α) (j : Nat), (Tr.node v t.lt t.rt).get j = if j = 0 then v else t.get j := by
  intro t v j
  rw [Tr.get_node]
  by_cases h0 : j = 0
  ·rw [if_pos h0, if_pos h0]
  ·rw [if_neg h0, if_neg h0]
   by_cases h1 : j % 2 = 1
   ·rw [if_pos h1, Tr.get_lt]; congr 1; omega
   ·rw [if_neg h1, Tr.get_rt]; congr 1; omega
 intro f
 induction f with
 | zero => intro t k v j hk; obtain rfl : k = 0 := by omega
           exact base t v j
 | succ f ih =>
  intro t k v j hk
  cases k with
  | zero => exact base t v j
  | succ k =>
   show (match Nat.beq (k % 2) 0 with | true => Tr.node t.top (Tr.putF f t.lt (k / 2) v) t.rt | false => Tr.node t.top t.lt (Tr.putF f t.rt (k / 2) v)).get j = _
   rcases Nat.mod_two_eq_zero_or_one k with h | h
   ·rw [h]; show (Tr.node t.top (Tr.putF f t.lt (k / 2) v) t.rt).get j = _
    rw [Tr.get_node]
    by_cases h0 : j = 0
    ·rw [if_pos h0, if_neg (by omega), Tr.get_top, h0]
    ·rw [if_neg h0]
     by_cases h1 : j % 2 = 1
     ·rw [if_pos h1, ih _ _ _ _ (by omega), Tr.get_lt]
      by_cases h2 : j = k + 1
      ·rw [if_pos (by omega), if_pos h2]
      ·rw [if_neg (by omega), if_neg h2]; congr 1; omega
     ·rw [if_neg h1, Tr.get_rt, if_neg (by omega)]; congr 1; omega
   ·rw [h]; show (Tr.node t.top t.lt (Tr.putF f t.rt (k / 2) v)).get j = _
    rw [Tr.get_node]
    by_cases h0 : j = 0
    ·rw [if_pos h0, if_neg (by omega), Tr.get_top, h0]
    ·rw [if_neg h0]
     by_cases h1 : j % 2 = 1
     ·rw [if_pos h1, Tr.get_lt, if_neg (by omega)]; congr 1; omega
     ·rw [if_neg h1, ih _ _ _ _ (by omega), Tr.get_rt]
      by_cases h2 : j = k + 1
      ·rw [if_pos (by omega), if_pos h2]
      ·rw [if_neg (by omega), if_neg h2]; congr 1; omega
theorem Tr.get_put {α : Type} (t : Tr α) (k : Nat) (v : Option α) (j : Nat) : (t.put k v).get j = if j = k then v else t.get j := Tr.get_putF k t k v j (Nat.le_refl k)
inductive VR (φ : Nat -> Nat × Nat) (A S : Nat -> Prop) (w : World) : AV -> Value -> Prop where
 | b (x : Bool) : VR φ A S w (.b x) (.bool x)
 | i (k : IntKind) (n : Int) : VR φ A S w (.i k n) (.int k n)
 | s (x : List UInt8) (t : ByteArray) : t.data.toList = x -> VR φ A S w (.s x) (.string t)
 | ptr (id off : Nat) : A id -> VR φ A S w (.ptr id off) (.pointer (some ⟨(φ id).1, off, none⟩))
 | iptr (cs : List AV) (vs : List Value) (b o : Nat) : vs.length = cs.length -> (S b) -> (∀ (j : Nat) (v : Value), vs[j]? = some v -> w.cell? ⟨b, o + j, none⟩ = some v) ->
   (∀ (j : Nat) (c : AV) (v : Value), cs[j]? = some c -> vs[j]? = some v -> VR φ A S w c v) -> VR φ A S w (.iptr cs) (.pointer (some ⟨b, o, none⟩))
 | nilp : VR φ A S w .nilp (.pointer none)
 | sl (id off len : Nat) (cap : Option Nat) (c : Nat) : A id -> len <= c -> (∀ x, cap = some x -> c = x) -> (cap = none -> off = 0 -> c = (φ id).2) -> VR φ A S w (.sl id off len cap) (.slice (some ⟨(φ id).1, off, none⟩) len c)
 | lst (es : List AV) (vs : List Value) (b o z c : Nat) : vs.length = (aJ es).length -> (S b) -> (∀ (j : Nat) (v : Value), vs[j]? = some v -> w.cell? ⟨b, o + j, none⟩ = some v) ->
   (∀ (j : Nat) (c : AV) (v : Value), (aJ es)[j]? = some c -> vs[j]? = some v -> VR φ A S w c v) -> (∀ e ∈ es, e.cells.length = z) -> AV.idfree.idfrees (aJ es) = true -> es.length <= c -> VR φ A S w (.lst es) (.slice (some ⟨b, o, none⟩) es.length c)
 | lst0 (p : Option Addr) (c : Nat) : VR φ A S w (.lst []) (.slice p 0 c)
 | nilz (t : Bool) (p : Option Addr) : (t = true -> p = none) -> VR φ A S w (.nilz t) (.slice p 0 0)
 | fn (f : Nat) (fs cs : List AV) (us vs : List Value) : us.length = fs.length -> vs.length = cs.length -> (∀ (j : Nat) (c : AV) (v : Value), fs[j]? = some c -> us[j]? = some v -> VR φ A S w c v) ->
   (∀ (j : Nat) (c : AV) (v : Value), cs[j]? = some c -> vs[j]? = some v -> VR φ A S w c v) -> VR φ A S w (.fn f fs cs) (.func (.func f) ⟨us⟩ ⟨vs⟩)
 | nilf : VR φ A S w .nilf .nilFunc
 | ifc (t : Nat) (a : AV) (v : Value) : VR φ A S w a v -> VR φ A S w (.ifc t a) (.iface t v)
 | nili : VR φ A S w .nili .nilIface
 | agg (cs : List AV) (vs : List Value) : vs.length = cs.length -> (∀ (j : Nat) (c : AV) (v : Value), cs[j]? = some c -> vs[j]? = some v -> VR φ A S w c v) -> VR φ A S w (.agg cs) (.agg ⟨vs⟩)
 | tup (cs : List AV) (vs : List Value) : vs.length = cs.length -> (∀ (j : Nat) (c : AV) (v : Value), cs[j]? = some c -> vs[j]? = some v -> VR φ A S w c v) -> VR φ A S w (.tup cs) (.tuple ⟨vs⟩)
 | mp (id : Nat) : A id -> VR φ A S w (.mp id) (.map (some (φ id).1))
 | nilm : VR φ A S w .nilm (.map none)
def VRs (φ : Nat -> Nat × Nat) (A S : Nat -> Prop) (w : World) (cs : List AV) (vs : List Value) : Prop := vs.length = cs.length /\ ∀ (j : Nat) (c : AV) (v : Value), cs[j]? = some c -> vs[j]? = some v -> VR φ A S w c v
theorem VR.mono {φ φ' : Nat -> Nat × Nat} {A A' S S' : Nat -> Prop} {w w' : World} (hφ : ∀ id, A id -> φ' id = φ id) (hA : ∀ id, A id -> A' id) (hS : ∀ b, S b -> S' b)
  (hw : ∀ b o v, S b -> w.cell? ⟨b, o, none⟩ = some v -> w'.cell? ⟨b, o, none⟩ = some v) {a : AV} {v : Value} (h : VR φ A S w a v) : VR φ' A' S' w' a v := by
 induction h with
 | b x => exact .b x
 | i k n => exact .i k n
 | s x t e => exact .s x t e
 | ptr id off h => rw [<- hφ id h]; exact .ptr id off (hA _ h)
 | iptr cs vs b o h1 h2 h3 _ ih => exact .iptr cs vs b o h1 (hS _ h2) (fun j v hv => hw _ _ _ h2 (h3 j v hv)) ih
 | nilp => exact .nilp
 | sl id off len cap c h1 h2 h3 h4 => rw [<- hφ id h1]; exact .sl id off len cap c (hA _ h1) h2 h3 (by rw [hφ id h1]; exact h4)
 | lst es vs b o z c h1 h2 h3 _ h5 h6 h7 ih => exact .lst es vs b o z c h1 (hS _ h2) (fun j v hv => hw _ _ _ h2 (h3 j v hv)) ih h5 h6 h7
 | lst0 p c => exact .lst0 p c
 | nilz t p h => exact .nilz t p h
 | fn f fs cs us vs h1 h2 _ _ ih1 ih2 => exact .fn f fs cs us vs h1 h2 ih1 ih2
 | nilf => exact .nilf
 | ifc t a v _ ih => exact .ifc t a v ih
 | nili => exact .nili
 | agg cs vs h1 _ ih => exact .agg cs vs h1 ih
 | tup cs vs h1 _ ih => exact .tup cs vs h1 ih
 | mp id h => rw [<- hφ id h]; exact .mp id (hA _ h)
 | nilm => exact .nilm
theorem VRs.nil {φ : Nat -> Nat × Nat} {A S : Nat -> Prop} {w : World} : VRs φ A S w [] [] := ⟨rfl, fun j c v h => by simp at h⟩
theorem VRs.cons {φ : Nat -> Nat × Nat} {A S : Nat -> Prop} {w : World} {c : AV} {cs : List AV} {v : Value} {vs : List Value} (h : VR φ A S w c v) (hs : VRs φ A S w cs vs) : VRs φ A S w (c :: cs) (v :: vs) := by
 refine ⟨by simp [hs.1], fun j c' v' h1 h2 => ?_⟩
 cases j with
 | zero => simp at h1 h2; subst h1; subst h2; exact h
 | succ j => simp at h1 h2; exact hs.2 j c' v' h1 h2
theorem VRs.mono {φ φ' : Nat -> Nat × Nat} {A A' S S' : Nat -> Prop} {w w' : World} (hφ : ∀ id, A id -> φ' id = φ id) (hA : ∀ id, A id -> A' id) (hS : ∀ b, S b -> S' b)
  (hw : ∀ b o v, S b -> w.cell? ⟨b, o, none⟩ = some v -> w'.cell? ⟨b, o, none⟩ = some v) {cs : List AV} {vs : List Value} (h : VRs φ A S w cs vs) : VRs φ' A' S' w' cs vs :=
 ⟨h.1, fun j c v h1 h2 => (h.2 j c v h1 h2).mono hφ hA hS hw⟩
theorem VRs.at {φ : Nat -> Nat × Nat} {A S : Nat -> Prop} {w : World} {cs : List AV} {vs : List Value} (h : VRs φ A S w cs vs) {j : Nat} {c : AV} (hc : cs[j]? = some c) : ∃ v, vs[j]? = some v /\ VR φ A S w c v := by
 have hj : j < vs.length := by rw [h.1]; exact (List.getElem?_eq_some_iff.1 hc).1
 exact ⟨vs[j], List.getElem?_eq_getElem hj, h.2 j c _ hc (List.getElem?_eq_getElem hj)⟩
theorem VRs.drop {φ : Nat -> Nat × Nat} {A S : Nat -> Prop} {w : World} {cs : List AV} {vs : List Value} (h : VRs φ A S w cs vs) (n : Nat) : VRs φ A S w (cs.drop n) (vs.drop n) :=
 ⟨by simp [h.1], fun j c v h1 h2 => h.2 (n + j) c v (by simpa using h1) (by simpa using h2)⟩
theorem VRs.take {φ : Nat -> Nat × Nat} {A S : Nat -> Prop} {w : World} {cs : List AV} {vs : List Value} (h : VRs φ A S w cs vs) (n : Nat) : VRs φ A S w (cs.take n) (vs.take n) := by
 refine ⟨by simp [h.1], fun j c v h1 h2 => ?_⟩
 rw [List.getElem?_take] at h1 h2
 by_cases hj : j < n
 ·rw [if_pos hj] at h1 h2; exact h.2 j c v h1 h2
 ·rw [if_neg hj] at h1; simp at h1
theorem VRs.append {φ : Nat -> Nat × Nat} {A S : Nat -> Prop} {w : World} {cs ds : List AV} {vs us : List Value} (h : VRs φ A S w cs vs) (k : VRs φ A S w ds us) : VRs φ A S w (cs ++ ds) (vs ++ us) := by
 refine ⟨by simp [h.1, k.1], fun j c v h1 h2 => ?_⟩
 rw [List.getElem?_append] at h1 h2
 by_cases hj : j < cs.length
 ·rw [if_pos hj] at h1; rw [if_pos (by rw [h.1]; exact hj)] at h2; exact h.2 j c v h1 h2
 ·rw [if_neg hj] at h1; rw [if_neg (by rw [h.1]; exact hj), h.1] at h2; exact k.2 _ c v h1 h2
theorem VR.leaf {φ : Nat -> Nat × Nat} {A S : Nat -> Prop} {w : World} {a : AV} {v : Value} (h : VR φ A S w a v) (hl : a.leaf = true) : (∀ c, v ≠ .agg c) /\ (∀ c, v ≠ .tuple c) := by
 cases h <;> simp_all [AV.leaf]
theorem VR.cells {φ : Nat -> Nat × Nat} {A S : Nat -> Prop} {w : World} {a : AV} {v : Value} (h : VR φ A S w a v) : VRs φ A S w a.cells v.cells.toList := by
 cases h with
 | agg cs vs h1 h2 => exact ⟨h1, h2⟩
 | b x => exact VRs.nil.cons (.b x)
 | i k n => exact VRs.nil.cons (.i k n)
 | s x t e => exact VRs.nil.cons (.s x t e)
 | ptr id off h => exact VRs.nil.cons (.ptr id off h)
 | iptr cs vs b o h1 h2 h3 h4 => exact VRs.nil.cons (.iptr cs vs b o h1 h2 h3 h4)
 | nilp => exact VRs.nil.cons .nilp
 | sl id off len cap c h1 h2 h3 h4 => exact VRs.nil.cons (.sl id off len cap c h1 h2 h3 h4)
 | lst es vs b o z c h1 h2 h3 h4 h5 h6 h7 => exact VRs.nil.cons (.lst es vs b o z c h1 h2 h3 h4 h5 h6 h7)
 | lst0 p c => exact VRs.nil.cons (.lst0 p c)
 | nilz t p h => exact VRs.nil.cons (.nilz t p h)
 | fn f fs cs us vs h1 h2 h3 h4 => exact VRs.nil.cons (.fn f fs cs us vs h1 h2 h3 h4)
 | nilf => exact VRs.nil.cons .nilf
 | ifc t a v h => exact VRs.nil.cons (.ifc t a v h)
 | nili => exact VRs.nil.cons .nili
 | tup cs vs h1 h2 => exact VRs.nil.cons (.tup cs vs h1 h2)
 | mp id h => exact VRs.nil.cons (.mp id h)
 | nilm => exact VRs.nil.cons .nilm
theorem lj {z : Nat} : ∀ {es : List AV} (n : Nat), (∀ e ∈ es, e.cells.length = z) -> (aJ es).drop (n * z) = aJ (es.drop n)
 | es, 0, _ => by simp
 | [], n + 1, _ => by simp [aJ]
 | e :: es, n + 1, h => by
  have he := h e (by simp)
  rw [List.drop_succ_cons, <- lj n (fun e he => h e (by simp [he]))]
  conv => lhs; unfold aJ
  rw [List.drop_append, he, Nat.succ_mul, List.drop_of_length_le (by rw [he]; exact Nat.le_add_left _ _), List.nil_append, Nat.add_sub_cancel]
theorem qA {z : Nat} : ∀ {es : List AV} (n : Nat), (∀ e ∈ es, e.cells.length = z) -> (aJ es).take (n * z) = aJ (es.take n)
 | es, 0, _ => by simp [aJ]
 | [], n + 1, _ => by simp [aJ]
 | e :: es, n + 1, h => by
  have he := h e (by simp)
  rw [List.take_succ_cons]
  conv => lhs; unfold aJ
  conv => rhs; unfold aJ
  rw [<- qA n (fun e he => h e (by simp [he])), List.take_append, he, Nat.succ_mul, List.take_of_length_le (by rw [he]; exact Nat.le_add_left _ _), Nat.add_sub_cancel]
theorem flatA_at {z : Nat} {es : List AV} (h : ∀ e ∈ es, e.cells.length = z) {n : Nat} {e : AV} (he : es[n]? = some e) : ((aJ es).drop (n * z)).take z = e.cells := by
 obtain ⟨hn, rfl⟩ := List.getElem?_eq_some_iff.1 he
 rw [lj n h, List.drop_eq_getElem_cons hn]
 unfold aJ
 rw [List.take_append, h _ (List.getElem_mem hn), Nat.sub_self, List.take_zero, List.append_nil, List.take_of_length_le (by rw [h _ (List.getElem_mem hn)]; exact Nat.le_refl _)]
theorem cF : ∀ {cs : List AV} {j : Nat} {c : AV}, AV.idfree.idfrees cs = true -> cs[j]? = some c -> c.idfree = true
 | [], j, c, _, h => by simp at h
 | d :: cs, 0, c, hi, h => by
  simp at h; subst h
  simp only [AV.idfree.idfrees, Bool.and_eq_true] at hi; exact hi.1
 | d :: cs, j + 1, c, hi, h => by
  simp only [AV.idfree.idfrees, Bool.and_eq_true] at hi
  exact cF hi.2 (by simpa using h)
theorem gr : ∀ {cs : List AV}, (∀ (j : Nat) (c : AV), cs[j]? = some c -> c.idfree = true) -> AV.idfree.idfrees cs = true
 | [], _ => rfl
 | c :: cs, h => by
  simp only [AV.idfree.idfrees, Bool.and_eq_true]
  exact ⟨h 0 c rfl, gr fun j d hd => h (j + 1) d (by simpa using hd)⟩
theorem lS {as : List AV} (n : Nat) (ha : AV.idfree.idfrees as = true) : AV.idfree.idfrees (as.take n) = true :=
 gr fun j c h => by
  rw [List.getElem?_take] at h
  split at h
  ·exact cF ha h
  ·cases h
theorem iY {as : List AV} (n : Nat) (ha : AV.idfree.idfrees as = true) : AV.idfree.idfrees (as.drop n) = true :=
 gr fun j c h => by rw [List.getElem?_drop] at h; exact cF ha h
theorem VR.lst_inv {φ : Nat -> Nat × Nat} {A S : Nat -> Prop} {w : World} {es : List AV} {x : Value} (h : VR φ A S w (.lst es) x) : ∃ (p : Option Addr) (c z : Nat), x = .slice p es.length c /\ es.length <= c /\ (∀ e ∈ es, e.cells.length = z) /\
  AV.idfree.idfrees (aJ es) = true /\ (es = [] ∨ ∃ b o vs, p = some ⟨b, o, none⟩ /\ S b /\ VRs φ A S w (aJ es) vs /\ ∀ (j : Nat) (v : Value), vs[j]? = some v -> w.cell? ⟨b, o + j, none⟩ = some v) := by
 cases h with
 | lst _ vs b o z c h1 h2 h3 h4 h5 h6 h7 => exact ⟨_, c, z, rfl, h7, h5, h6, .inr ⟨b, o, vs, rfl, h2, ⟨h1, h4⟩, h3⟩⟩
 | lst0 p c => exact ⟨p, c, 0, rfl, Nat.zero_le _, fun e he => absurd he (List.not_mem_nil), rfl, .inl rfl⟩
theorem VR.lst_mk {φ : Nat -> Nat × Nat} {A S : Nat -> Prop} {w : World} {es : List AV} {b o z n c : Nat} {vs : List Value} (hn : n = es.length) (hl : n <= c) (h1 : ∀ e ∈ es, e.cells.length = z) (h2 : AV.idfree.idfrees (aJ es) = true) (h3 : S b) (h4 : VRs φ A S w (aJ es) vs)
  (h5 : ∀ (j : Nat) (v : Value), vs[j]? = some v -> w.cell? ⟨b, o + j, none⟩ = some v) : VR φ A S w (.lst es) (.slice (some ⟨b, o, none⟩) n c) := by
 subst hn; exact .lst es vs b o z c h4.1 h3 h5 h4.2 h1 h2 hl
structure Tab where
 ty : Nat -> Option TypeDesc
 sz : Nat -> Option Nat
 by_ : Nat -> Option Nat
 zr : Nat -> Option AV
 eq : Nat -> Bool
 fn : Nat -> Option Func
 gl : Nat -> Option (List AV)
 opened : Nat -> Bool
 mode : Nat -> Nat
 ext : Nat -> Option (List AV -> Option AV)
 prim : Nat -> Option (List AV -> Option AV)
 ice : Nat -> Bool
def sG : Value -> Option AV
 | .bool x => some (.b x)
 | .int k n => some (.i k n)
 | .string s => some (.s s.data.toList)
 | .pointer none => some .nilp
 | .slice none 0 0 => some (.nilz true)
 | .map none => some .nilm
 | .nilFunc => some .nilf
 | .nilIface => some .nili
 | .func (.func f) ⟨[]⟩ ⟨[]⟩ => some (.fn f [] [])
 | _ => none
def nn : List Value -> Option (List AV)
 | [] => some []
 | v :: vs => match sG v, nn vs with
  | some a, some as => some (a :: as)
  | _, _ => none
def nq : Value -> Option AV
 | .agg ⟨cs⟩ => (nn cs).map .agg
 | .iface t v => (sG v).map (.ifc t)
 | v => sG v
def bW (T : Tab) (tm : Tr AV) : Operand -> Option AV
 | .tmp t => tm.get t
 | .const v => nq v
 | .global g => (T.gl g).map .iptr
 | .func f => some (.fn f [] [])
def bE (ρ : Operand -> Option AV) : List Operand -> Option (List AV)
 | [] => some []
 | x :: xs => match ρ x, bE ρ xs with
  | some a, some as => some (a :: as)
  | _, _ => none
def cC {α : Type} : Nat -> List α -> Option (List α)
 | 0, _ => some []
 | n + 1, c :: cs => (cC n cs).map (c :: ·)
 | _ + 1, [] => none
def bQ {α : Type} : List α -> Nat -> List α -> Option (List α)
 | cs, 0, [] => some cs
 | c :: cs, n + 1, ds => (bQ cs n ds).map (c :: ·)
 | _ :: cs, 0, d :: ds => (bQ cs 0 ds).map (d :: ·)
 | [], _ + 1, _ => none
 | [], 0, _ :: _ => none
def eu : TypeDesc -> Bool
 | .struct _ => true
 | .array _ _ => true
 | _ => false
def gY (h : Tr AB) : AV -> Option (List AV)
 | .ptr id off => match h.get id with
  | some (.cells cs _ _) => match Nat.ble off cs.length with | true => some (cs.drop off) | false => none
  | _ => none
 | .iptr cs => some cs
 | _ => none
def aD (T : Tab) (t : Nat) (cs : List AV) : Option AV :=
 match T.ty t with
 | some d => match eu d with
  | true => match T.sz t with
   | some n => (cC n cs).map .agg
   | none => none
  | false => cs.head?
 | none => none
def iop (op : BinOp) (k : IntKind) (a b : Int) : Option AV :=
 match op with
 | .add => some (.i k (k.wrap (a + b)))
 | .sub => some (.i k (k.wrap (a - b)))
 | .mul => some (.i k (k.wrap (a * b)))
 | .quo => if b = 0 then none else some (.i k (k.wrap (a.tdiv b)))
 | .rem => if b = 0 then none else some (.i k (a.tmod b))
 | .and => some (.i k (k.wrap (BitVec.ofInt k.bits a &&& BitVec.ofInt k.bits b).toNat))
 | .or => some (.i k (k.wrap (BitVec.ofInt k.bits a ||| BitVec.ofInt k.bits b).toNat))
 | .xor => some (.i k (k.wrap (BitVec.ofInt k.bits a ^^^ BitVec.ofInt k.bits b).toNat))
 | .andNot => some (.i k (k.wrap (BitVec.ofInt k.bits a &&& ~~~BitVec.ofInt k.bits b).toNat))
 | .eql => some (.b (a == b))
 | .neq => some (.b (a != b))
 | .lss => some (.b (decide (a < b)))
 | .leq => some (.b (decide (a <= b)))
 | .gtr => some (.b (decide (a > b)))
 | .geq => some (.b (decide (a ≥ b)))
 | _ => none
def shop (op : BinOp) (k : IntKind) (a b : Int) : Option AV :=
 if b < 0 then none else
 match op with
 | .shl => some (.i k (k.wrap (a * 2 ^ (min b.toNat k.bits))))
 | .shr => some (.i k (a.fdiv (2 ^ (min b.toNat k.bits))))
 | _ => none
def sop (op : BinOp) (x y : List UInt8) : Option AV :=
 match op with
 | .add => match Nat.ble (x.length + y.length) 9223372036854775807 with | true => some (.s (x ++ y)) | false => none
 | .eql => some (.b (x == y))
 | .neq => some (.b (!(x == y)))
 | .lss => some (.b (Op.bytesLess x y))
 | .leq => some (.b (Op.bytesLess x y || x == y))
 | .gtr => some (.b (!(Op.bytesLess x y || x == y)))
 | .geq => some (.b (!Op.bytesLess x y))
 | _ => none
def nc : AV -> AV -> Option Bool
 | .b x, .b y => some (x == y)
 | .i k x, .i l y => if k = l then some (x == y) else none
 | .s x, .s y => some (x == y)
 | _, _ => none
def rP : AV -> Option Bool
 | .nilp => some false
 | .ptr .. => some true
 | .iptr .. => some true
 | _ => none
def isMp : AV -> Option Bool
 | .nilm => some false
 | .mp _ => some true
 | _ => none
def isFn : AV -> Option Bool
 | .nilf => some false
 | .fn .. => some true
 | _ => none
def isIf : AV -> Option Bool
 | .nili => some false
 | .ifc .. => some true
 | _ => none
def mQ : AV -> Option Bool
 | .nilz true => some false
 | .sl .. => some true
 | .lst (_ :: _) => some true
 | _ => none
def qd : Option Bool -> Option Bool -> Option Bool
 | some false, some y => some (!y)
 | some true, some false => some false
 | _, _ => none
def kf (d : TypeDesc) (a b : AV) : Option Bool :=
 match d with
 | .pointer _ => qd (rP a) (rP b)
 | .map _ _ => qd (isMp a) (isMp b)
 | .func _ _ _ => qd (isFn a) (isFn b)
 | .interface _ => qd (isIf a) (isIf b)
 | .slice _ => match mQ b with
  | some false => (mQ a).map not
  | _ => none
 | _ => none
def eqFs (T : Tab) (rec : Nat -> AV -> AV -> Option Bool) (xs ys : List AV) : List Field -> Option Bool
 | [] => some true
 | f :: fs => match aD T f.type (xs.drop f.offset), aD T f.type (ys.drop f.offset) with
  | some a, some b => match rec f.type a b, eqFs T rec xs ys fs with
   | some r, some s => some (r && s)
   | _, _ => none
  | _, _ => none
def eqIs (T : Tab) (rec : Nat -> AV -> AV -> Option Bool) (e z : Nat) (xs ys : List AV) : List Nat -> Option Bool
 | [] => some true
 | i :: is => match aD T e (xs.drop (i * z)), aD T e (ys.drop (i * z)) with
  | some a, some b => match rec e a b, eqIs T rec e z xs ys is with
   | some r, some s => some (r && s)
   | _, _ => none
  | _, _ => none
def jx (T : Tab) : Nat -> Nat -> AV -> AV -> Option Bool
 | 0, _, _, _ => none
 | d + 1, t, x, y => match T.ty t with
  | some .bool => match x, y with
   | .b a, .b b => some (a == b)
   | _, _ => none
  | some (.int _) => match x, y with
   | .i k a, .i l b => if k = l then some (a == b) else none
   | _, _ => none
  | some .string => match x, y with
   | .s a, .s b => some (a == b)
   | _, _ => none
  | some (.struct fs) => match T.eq t, x, y with
   | true, .agg xs, .agg ys => eqFs T (jx T d) xs ys fs.toList
   | _, _, _ => none
  | some (.array n e) => match T.sz e, x, y with
   | some z, .agg xs, .agg ys => eqIs T (jx T d) e z xs ys (List.range n)
   | _, _, _ => none
  | _ => none
def rR (T : Tab) (t : Nat) (a : AV) (t' : Nat) (b : AV) : Option Bool := match Nat.beq t t' with
 | false => some false
 | true => match T.eq t with
  | true => jx T 20 t a b
  | false => none
def fg : Operand -> Bool
 | .const _ => true
 | _ => false
def af (T : Tab) (op : BinOp) (t : Nat) (c : Bool) (x y : AV) : Option AV :=
 match x, y with
 | .i k a, .i l b => match op with
  | .shl => shop .shl k a b
  | .shr => shop .shr k a b
  | op => if k = l then iop op k a b else none
 | .s a, .s b => sop op a b
 | .agg xs, .agg ys => match op, T.eq t with
  | .eql, true => (jx T 20 t (.agg xs) (.agg ys)).map .b
  | .neq, true => (jx T 20 t (.agg xs) (.agg ys)).map fun r => .b (!r)
  | _, _ => none
 | .b a, .b b => match T.ty t with
  | some .bool => match op with
   | .eql => some (.b (a == b))
   | .neq => some (.b (!(a == b)))
   | _ => none
  | _ => none
 | .ptr i o, .ptr j p => match Nat.beq i j && Nat.beq o p, T.ty t with
  | true, some (.pointer te) => match T.sz te, op with
   | some _, .eql => some (.b true)
   | some _, .neq => some (.b false)
   | _, _ => none
  | _, _ => none
 | .ifc t1 a, .ifc t2 b => match T.ty t with
  | some (.interface _) => match op with
   | .eql => (rR T t1 a t2 b).map .b
   | .neq => (rR T t1 a t2 b).map fun r => .b (!r)
   | _ => none
  | _ => none
 | x, y => match c, T.ty t with
  | true, some d => match op with
   | .eql => (kf d x y).map .b
   | .neq => (kf d x y).map fun r => .b (!r)
   | _ => none
  | _, _ => none
def ct (op : UnOp) : AV -> Option AV
 | .i k n => match op with
  | .neg => some (.i k (k.wrap (0 - n)))
  | .xor => some (.i k (k.wrap (BitVec.ofInt k.bits (if k.signed then -1 else k.max) ^^^ BitVec.ofInt k.bits n).toNat))
  | _ => none
 | .b x => match op with
  | .not => some (.b (!x))
  | _ => none
 | _ => none
def bytesOf : List AV -> Option (List UInt8)
 | [] => some []
 | .i .u8 n :: cs => (bytesOf cs).map (UInt8.ofNat n.toNat :: ·)
 | _ => none
def ba (h : Tr AB) (n : Nat) : AV -> Option (List AV)
 | .nilz _ => match n with | 0 => some [] | _ => none
 | .sl id off _ _ => match h.get id with
  | some (.cells cs _ _) => cC n (cs.drop off)
  | _ => none
 | .lst es => cC n (aJ es)
 | _ => none
def cH (T : Tab) (h : Tr AB) (src dst : Nat) (x : AV) : Option AV :=
 match T.ty src, T.ty dst, x with
 | some (.pointer t), some .unsafePointer, .ptr id 0 => match h.get id, T.sz t with
  | some (.cells (_ :: _) _ _), some (_ + 1) => some (.ptr id 0)
  | _, _ => none
 | some .unsafePointer, some (.pointer u), .ptr id 0 => match h.get id, T.sz u with
  | some (.cells cs e _), some (z + 1) => match Nat.beq e u && Nat.ble (z + 1) cs.length with
   | true => some (.ptr id 0)
   | false => none
  | _, _ => none
 | some _, some (.int k), .i _ n => some (.i k (k.wrap n))
 | some _, some .string, .s x => some (.s x)
 | some (.slice e), some .string, x => match T.ty e with
  | some (.int .u8) => match x with
   | .nilz _ => some (.s [])
   | .sl id off len cap => match ba h len (.sl id off len cap) with
    | some cs => (bytesOf cs).map .s
    | none => none
   | .lst es => match ba h es.length (.lst es) with
    | some cs => (bytesOf cs).map .s
    | none => none
   | _ => none
  | _ => none
 | _, _, _ => none
def bnd (y : Nat) : Option AV -> Option Nat
 | some (.i _ n) => if 0 <= n /\ n <= (y : Int) then some n.toNat else none
 | _ => none
def eP (ρ : Operand -> Option AV) : Option Operand -> Option (Option AV)
 | none => some none
 | some x => match ρ x with | some a => some (some a) | none => none
def fR (y d : Nat) : Option AV -> Option Nat
 | none => some d
 | some a => bnd y (some a)
def bU (len : Nat) (cap : Option Nat) (lo hi mx : Option AV) : Option (Nat × Nat × Option Nat) :=
 match mx with
 | some m => match bnd (cap.getD len) (some m), hi with
  | some m, some h => match bnd m (some h) with
   | some h => match fR h 0 lo with
    | some l => some (l, h, some m)
    | none => none
   | none => none
  | _, _ => none
 | none => match fR (cap.getD len) len hi with
  | some h => match fR h 0 lo with
   | some l => some (l, h, cap)
   | none => none
  | none => none
def km (z : Nat) : List AV -> Bool
 | [] => true
 | e :: es => Nat.beq e.cells.length z && km z es
def dD (T : Tab) (t : Nat) (x : AV) (lo hi mx : Option AV) : Option AV :=
 match T.ty t, x with
 | some .string, .s s => match mx with
  | some _ => none
  | none => match bU s.length (some s.length) lo hi none with
   | some (l, h, _) => some (.s ((s.drop l).take (h - l)))
   | none => none
 | some (.slice e), .nilz t => match T.sz e with
  | some _ => match bU 0 (some 0) lo hi mx with
   | some (_, _, _) => some (.nilz t)
   | none => none
  | none => none
 | some (.slice e), .sl id off len cap => match T.sz e with
  | some (z + 1) => match bU len cap lo hi mx with
   | some (l, h, some m) => some (.sl id (if m = l then off else off + l * (z + 1)) (h - l) (some (m - l)))
   | some (l, h, none) => match l with
    | 0 => some (.sl id off h none)
    | _ + 1 => match Nat.ble (l + 1) len with
     | true => some (.sl id (off + l * (z + 1)) (h - l) none)
     | false => some (.lst [])
   | none => none
  | _ => none
 | some (.slice e), .lst es => match T.sz e with
  | some (z + 1) => match bU es.length none lo hi mx with
   | some (l, h, some m) => match Nat.beq m l with
    | true => some (.nilz false)
    | false => match km (z + 1) es with
     | true => some (.lst ((es.drop l).take (h - l)))
     | false => none
   | some (l, h, none) => match km (z + 1) es with
    | true => some (.lst ((es.drop l).take (h - l)))
    | false => none
   | none => none
  | _ => none
 | some (.array n e), .ptr id off => match T.sz e with
  | some (z + 1) => match bU n (some n) lo hi mx with
   | some (l, h, some m) => some (.sl id (if m = l then off else off + l * (z + 1)) (h - l) (some (m - l)))
   | _ => none
  | _ => none
 | _, _ => none
def qD (T : Tab) (h : Tr AB) (t : Nat) (x : AV) (lo hi mx : Option AV) : Option AV := match x, lo, hi, mx with
 | .sl id 0 _ none, some (.i _ l), some (.i _ r), none => match T.ty t, h.get id with
  | some (.slice e), some (.cells cs e' true) => match T.sz e, Nat.beq e e' with
   | some (z + 1), true => if 0 <= l /\ l < r /\ r.toNat * (z + 1) <= cs.length then some (.sl id (l.toNat * (z + 1)) (r.toNat - l.toNat) none) else none
   | _, _ => none
  | _, _ => none
 | _, _, _, _ => none
def aQ (T : Tab) (h : Tr AB) (t : Nat) (x : AV) (lo hi mx : Option AV) : Option AV := match dD T t x lo hi mx with
 | some v => some v
 | none => qD T h t x lo hi mx
def kH (fs : Array Field) (f : Nat) : Option Field := fs.toList[f]?
def ai (T : Tab) (t : Nat) (x ix : AV) : Option AV :=
 match ix with
 | .i _ n => match T.ty t, x with
  | some (.slice e), .sl id off len _ => match T.sz e with
   | some z => if 0 <= n /\ n < (len : Int) then some (.ptr id (off + n.toNat * z)) else none
   | none => none
  | some (.slice e), .lst es => match T.sz e with
   | some z => if 0 <= n /\ n < (es.length : Int) then match es[n.toNat]? with
     | some x => match Nat.beq x.cells.length z with
      | true => some (.iptr x.cells)
      | false => none
     | none => none
    else none
   | none => none
  | some (.array len e), .ptr id off => match T.sz e with
   | some z => if 0 <= n /\ n < (len : Int) then some (.ptr id (off + n.toNat * z)) else none
   | none => none
  | some (.array len e), .iptr cs => match T.sz e with
   | some z => if 0 <= n /\ n < (len : Int) then some (.iptr (cs.drop (n.toNat * z))) else none
   | none => none
  | _, _ => none
 | _ => none
def bT (T : Tab) (t : Nat) (x ix : AV) : Option AV :=
 match ix with
 | .i _ n => match T.ty t, x with
  | some .string, .s s => if 0 <= n then (s[n.toNat]?).map fun c => .i .u8 c.toNat else none
  | some (.array len e), .agg cs => match T.sz e with
   | some z => if 0 <= n /\ n < (len : Int) then aD T e (cs.drop (n.toNat * z)) else none
   | none => none
  | _, _ => none
 | _ => none
def jW : TypeDesc -> AV -> Bool
 | .int _, .i _ _ => true
 | .string, .s _ => true
 | .bool, .b _ => true
 | _, _ => false
def vC (k : AV) : List (AV × AV) -> Option (Option AV)
 | [] => some none
 | (k', v) :: es => match nc k k' with
  | some true => some (some v)
  | some false => vC k es
  | none => none
def ke (T : Tab) (h : Tr AB) (t : Nat) (m k : AV) (ok : Bool) : Option AV :=
 match T.ty t with
 | some (.map kt et) => match T.ty kt, T.zr et with
  | some kd, some z => match jW kd k with
   | true => match (match m with
     | .nilm => some none
     | .mp id => match h.get id with
      | some (.map es) => vC k es
      | _ => none
     | _ => none) with
    | some (some v) => some (if ok then .tup [v, .b true] else v)
    | some none => some (if ok then .tup [z, .b false] else z)
    | none => none
   | false => none
  | _, _ => none
 | _ => none
def vz (f : Int -> Int -> Int) (k : IntKind) : Int -> List AV -> Option AV
 | x, [] => some (.i k x)
 | x, .i l y :: r => if k = l then vz f k (f x y) r else none
 | _, _ => none
def ak (T : Tab) (h : Tr AB) (b : Builtin) (ts : List Nat) (args : List AV) : Option AV :=
 match b, args with
 | .len, [x] => match ts with
  | [t] => match T.ty t, x with
   | some .string, .s s => some (.i .i64 s.length)
   | some (.slice _), .nilz _ => some (.i .i64 0)
   | some (.slice _), .sl _ _ n _ => some (.i .i64 n)
   | some (.slice _), .lst es => some (.i .i64 es.length)
   | some (.array n _), _ => some (.i .i64 n)
   | some (.map _ _), .nilm => some (.i .i64 0)
   | some (.map _ _), .mp id => match h.get id with
    | some (.map es) => some (.i .i64 es.length)
    | _ => none
   | _, _ => none
  | _ => none
 | .cap, [x] => match ts with
  | [t] => match T.ty t, x with
   | some (.slice _), .nilz _ => some (.i .i64 0)
   | some (.slice _), .sl _ _ _ (some n) => some (.i .i64 n)
   | _, _ => none
  | _ => none
 | .unsafeSliceData, [x] => match x with
  | .nilz true => some .nilp
  | .sl id off (_ + 1) _ => some (.ptr id off)
  | _ => none
 | .max, .i k x :: r => vz (fun x y => if y > x then y else x) k x r
 | .min, .i k x :: r => vz (fun x y => if y < x then y else x) k x r
 | _, _ => none
def gy (place : Nat -> Option (Nat × Nat)) (cells : List AV) : List (Nat × AV) -> Option (List AV)
 | [] => some cells
 | (i, v) :: rest => match place i with
  | none => none
  | some (off, size) => match Nat.beq v.cells.length size with
   | true => match bQ cells off v.cells with
    | some cells => gy place cells rest
    | none => none
   | false => none
def fF (ρ : Operand -> Option AV) : List (Nat × Operand) -> Option (List (Nat × AV))
 | [] => some []
 | (i, x) :: xs => match ρ x, fF ρ xs with
  | some a, some as => some ((i, a) :: as)
  | _, _ => none
def dF {α : Type} (l : List α) : Nat -> List α
 | 0 => []
 | n + 1 => l ++ dF l n
def oB (T : Tab) : List Field -> Option (List (Nat × Nat))
 | [] => some []
 | f :: fs => match T.sz f.type, oB T fs with
  | some n, some ps => some ((f.offset, n) :: ps)
  | _, _ => none
def bF (T : Tab) (t : Nat) (ps : List (Nat × AV)) : Option AV :=
 match T.ty t, T.zr t with
 | some (.struct fs), some z => match oB T fs.toList with
  | some pl => (gy (pl[·]?) z.cells ps).map .agg
  | none => none
 | some (.array _ e), some z => match T.sz e with
  | some n => (gy (fun i => some (i * n, n)) z.cells ps).map .agg
  | none => none
 | _, _ => none
def bg (T : Tab) (h : Tr AB) (ρ : Operand -> Option AV) : Op -> Option AV
 | .move x => ρ x
 | .assign x => ρ x
 | .pick c a b => match ρ c with
  | some (.b true) => ρ a
  | some (.b false) => ρ b
  | _ => none
 | .nilCheck x => match ρ x with
  | some (.ptr id off) => some (.ptr id off)
  | some (.iptr cs) => some (.iptr cs)
  | some (.fn f fs cs) => some (.fn f fs cs)
  | _ => none
 | .binOp op t x y _ => match ρ x, ρ y with
  | some a, some b => af T op t (fg x || fg y) a b
  | _, _ => none
 | .unOp op _ x => match ρ x with
  | some a => ct op a
  | none => none
 | .convert s d x => match ρ x with
  | some a => cH T h s d a
  | none => none
 | .makeInterface t x => match T.ty t with
  | some (.interface _) => none
  | some _ => (ρ x).map (.ifc t)
  | none => none
 | .makeFunc (.func f) fs cs => match bE ρ fs.toList, bE ρ cs.toList with
  | some fs, some cs => some (.fn f fs cs)
  | _, _ => none
 | .slice t x lo hi mx => match ρ x, eP ρ lo, eP ρ hi, eP ρ mx with
  | some x, some lo, some hi, some mx => aQ T h t x lo hi mx
  | _, _, _, _ => none
 | .fieldAddr s x f => match T.ty s with
  | some (.struct fs) => match kH fs f with
   | some fd => match T.sz fd.type with
    | some (_ + 1) => match ρ x with
     | some (.ptr id off) => some (.ptr id (off + fd.offset))
     | some (.iptr cs) => some (.iptr (cs.drop fd.offset))
     | _ => none
    | _ => none
   | none => none
  | _ => none
 | .field s x f => match T.ty s with
  | some (.struct fs) => match kH fs f with
   | some fd => match ρ x with
    | some (.agg cs) => aD T fd.type (cs.drop fd.offset)
    | _ => none
   | none => none
  | _ => none
 | .indexAddr t x ix => match ρ x, ρ ix with
  | some x, some ix => ai T t x ix
  | _, _ => none
 | .index t x ix => match ρ x, ρ ix with
  | some x, some ix => bT T t x ix
  | _, _ => none
 | .build t ps => match fF ρ ps.toList with
  | some ps => bF T t ps
  | none => none
 | .extract t n => match ρ t with
  | some (.tup vs) => vs[n]?
  | _ => none
 | .load t a => match ρ a with
  | some a => match gY h a with
   | some cs => aD T t cs
   | none => none
  | none => none
 | .lookup t m k ok => match ρ m, ρ k with
  | some m, some k => ke T h t m k ok
  | _, _ => none
 | .call c => match c.callee with
  | .builtin b => match bE ρ c.args.toList with
   | some args => ak T h b c.argTypes.toList args
   | none => none
  | _ => none
 | _ => none
def eE (T : Tab) (ρ : Operand -> Option AV) : Op -> Option (AB × (Nat -> AV))
 | .alloc e => match T.zr e with
  | some z => some (.cells z.cells e false, fun id => .ptr id 0)
  | none => none
 | .box e x => match ρ x with
  | some a => some (.cells a.cells e false, fun id => .ptr id 0)
  | none => none
 | .buildSlice t len ps => match T.ice t with
  | true => none
  | false => match T.ty t with
   | some (.slice e) => match T.sz e, T.zr e, fF ρ ps.toList with
    | some n, some z, some ps => match Nat.ble (len * n) 1048576 with
     | true => match gy (fun i => some (i * n, n)) (dF z.cells len) ps with
      | some cs => some (.cells cs e false, fun id => .sl id 0 len (some len))
      | none => none
     | false => none
    | _, _, _ => none
   | _ => none
 | .makeSlice t l c => match T.ty t with
  | some (.slice e) => match T.sz e, T.zr e, T.by_ e with
   | some _, some z, some by_ => match ρ l, ρ c with
    | some (.i _ l), some (.i _ c) => if 0 <= l /\ l <= c /\ c <= 1048576 /\ by_ <= 1048576 then some (.cells (dF z.cells c.toNat) e false, fun id => .sl id 0 l.toNat (some c.toNat)) else none
    | _, _ => none
   | _, _, _ => none
  | _ => none
 | .convert s d x => match T.ty s, T.ty d with
  | some _, some (.slice e) => match T.ty e, T.sz e, T.zr e, ρ x with
   | some (.int .u8), some 1, some (.i .u8 0), some (.s bs) => some (.cells (bs.map fun c => .i .u8 c.toNat) e true, fun id => .sl id 0 bs.length none)
   | _, _, _, _ => none
  | _, _ => none
 | .makeMap _ none => some (.map [], fun id => .mp id)
 | .range t x => match T.ty t, ρ x with
  | some .string, some (.s s) => some (.siter s 0, fun id => .ptr id 0)
  | _, _ => none
 | _ => none
structure AS where
 h : Tr AB
 n : Nat
def aM : List AV -> Bool
 | [] => true
 | c :: cs => match c.leaf with | true => aM cs | false => false
def aA (T : Tab) (h : Tr AB) (t : Nat) (a v : AV) : Option (Tr AB) :=
 match T.sz t, a with
 | some n, .ptr id off => match Nat.beq v.cells.length n, aM v.cells with
  | true, true => match h.get id with
   | some (.cells cs e g) => match bQ cs off v.cells with
    | some cs' => some (h.put id (some (.cells cs' e g)))
    | none => none
   | _ => none
  | _, _ => none
 | _, _ => none
def iA : AV -> Option Nat
 | .nilz _ => some 0
 | .sl _ _ n _ => some n
 | .lst es => some es.length
 | .s x => some x.length
 | _ => none
def bG (h : Tr AB) (z n : Nat) : AV -> Option (List AV)
 | .s x => match z with | 1 => some ((x.take n).map fun c => .i .u8 c.toNat) | _ => none
 | x => ba h (n * z) x
def cd (need by_ : Nat) : Bool := Nat.ble need 140737488351232 && Nat.ble by_ 1048576 && Nat.ble (need * by_) 140737488351232
def hP (σ : AS) (olds news : List AV) (e need : Nat) : AV × AS := (.sl σ.n 0 need none, ⟨σ.h.put σ.n (some (.cells (olds ++ news) e true)), σ.n + 1⟩)
def aI (T : Tab) (σ : AS) (st xt : Nat) (s x : AV) : Option (AV × AS) :=
 match T.ty st with
 | some (.slice e) => match T.sz e, T.by_ e, T.ty xt, iA x, T.zr e with
  | some (z + 1), some by_, some xd, some n, some _ => match (match xd with | .slice _ => true | .string => true | _ => false) with
   | false => none
   | true => match bG σ.h (z + 1) n x with
    | none => none
    | some news => match s with
     | .nilz t => match n with
      | 0 => some (.nilz t, σ)
      | _ + 1 => match cd n by_ with
       | true => some (hP σ [] news e n)
       | false => none
     | .sl id off len (some c) => match Nat.ble (len + n) c with
      | true => match n with
       | 0 => some (.sl id off len (some c), σ)
       | _ + 1 => match σ.h.get id, aM news with
        | some (.cells cs e' g), true => match bQ cs (off + len * (z + 1)) news with
         | some cs' => some (.sl id off (len + n) (some c), { σ with h := σ.h.put id (some (.cells cs' e' g)) })
         | none => none
        | _, _ => none
      | false => match cd (len + n) by_, ba σ.h (len * (z + 1)) (.sl id off len (some c)) with
       | true, some olds => some (hP σ olds news e (len + n))
       | _, _ => none
     | .sl id off len none => match n with
      | 0 => some (.sl id off len none, σ)
      | _ + 1 => match off, σ.h.get id, aM news, cd (len + n) by_ with
       | 0, some (.cells cs e' true), true, true => match Nat.beq e' e with
        | true => match Nat.beq (len * (z + 1)) cs.length with
         | true => some (.sl σ.n 0 (len + n) none, ⟨(σ.h.put id none).put σ.n (some (.cells (cs ++ news) e true)), σ.n + 1⟩)
         | false => match bQ cs (len * (z + 1)) news with
          | some cs' => some (.sl id 0 (len + n) none, { σ with h := σ.h.put id (some (.cells cs' e true)) })
          | none => none
        | false => none
       | _, _, _, _ => none
     | .lst es => match n with
      | 0 => some (.lst es, σ)
      | _ + 1 => none
     | _ => none
  | _, _, _, _, _ => none
 | _ => none
def lm (T : Tab) (σ : AS) (dt : Nat) (d x : AV) : Option (AV × AS) :=
 match T.ty dt with
 | some (.slice e) => match T.sz e, iA x with
  | some z, some n => match d with
   | .nilz _ => some (.i .i64 0, σ)
   | .sl id off len _ => match bG σ.h z (Nat.min n len) x with
    | some news => match σ.h.get id, aM news with
     | some (.cells cs e' g), true => match bQ cs off news with
      | some cs' => some (.i .i64 (Nat.min n len : Nat), { σ with h := σ.h.put id (some (.cells cs' e' g)) })
      | none => none
     | _, _ => none
    | none => none
   | _ => none
  | _, _ => none
 | _ => none
def jc (T : Tab) (σ : AS) (t : Nat) (x : AV) : Option (AV × AS) :=
 match T.ty t with
 | some (.slice e) => match x with
  | .nilz _ => some (.tup [], σ)
  | .sl id off len _ => match len with
   | 0 => some (.tup [], σ)
   | l + 1 => match T.zr e with
    | some z => match σ.h.get id, aM (dF z.cells (l + 1)) with
     | some (.cells cs e' g), true => match bQ cs off (dF z.cells (l + 1)) with
      | some cs' => some (.tup [], { σ with h := σ.h.put id (some (.cells cs' e' g)) })
      | none => none
     | _, _ => none
    | none => none
  | _ => none
 | _ => none
def u8s : List AV -> Bool
 | [] => true
 | .i .u8 n :: cs => decide (0 <= n) && decide (n < 256) && u8s cs
 | _ => false
def fQ (T : Tab) (σ : AS) (pt : Nat) (p n : AV) : Option (AV × AS) :=
 match T.ty pt, n with
 | some (.pointer e), .i .i64 m => match p with
  | .nilp => if m = 0 then some (.s [], σ) else none
  | .ptr id 0 => if 0 < m /\ m <= 9223372036854775807 then match σ.h.get id, T.sz e with
    | some (.cells cs e' _), some 1 => match Nat.beq e' e, cC m.toNat cs with
     | true, some ds => match bytesOf ds, u8s ds with
      | some bs, true => some (.s bs, { σ with h := σ.h.put id none })
      | _, _ => none
     | _, _ => none
    | _, _ => none
   else none
  | _ => none
 | _, _ => none
def updE (k v : AV) : List (AV × AV) -> Option (List (AV × AV))
 | [] => some [(k, v)]
 | (k', v') :: es => match nc k k' with
  | some true => some ((k, v) :: es)
  | some false => (updE k v es).map ((k', v') :: ·)
  | none => none
def eT (T : Tab) (h : Tr AB) (t : Nat) (m k v : AV) : Option (Tr AB) :=
 match T.ty t with
 | some (.map kt _) => match T.ty kt with
  | some kd => match jW kd k, m with
   | true, .mp id => match h.get id with
    | some (.map es) => match updE k v es with
     | some es' => some (h.put id (some (.map es')))
     | none => none
    | _ => none
   | _, _ => none
  | none => none
 | _ => none
def gz (σ : AS) (it : AV) : Option (AV × AS) :=
 match it with
 | .ptr id 0 => match σ.h.get id with
  | some (.siter s pos) => match Nat.ble (pos + 1) s.length with
   | true => match Utf8.decode ⟨⟨s⟩⟩ pos with
    | (c, width) => some (.tup [.b true, .i .i64 pos, .i .i32 c], { σ with h := σ.h.put id (some (.siter s (pos + width))) })
   | false => some (.tup [.b false], σ)
  | _ => none
 | _ => none
def AV.norm : AV -> AV
 | .nilz _ => .lst []
 | .iptr cs => .iptr (norms cs)
 | .fn f fs cs => .fn f (norms fs) (norms cs)
 | .ifc t v => .ifc t v.norm
 | .agg cs => .agg (norms cs)
 | .tup vs => .tup (norms vs)
 | a => a
 where norms : List AV -> List AV
 | [] => []
 | c :: cs => c.norm :: norms cs
def jd (ag : Bool) (z : Nat) : Nat -> List AV -> Option (List AV)
 | 0, _ => some []
 | n + 1, cs => match (match ag with
     | true => (cC z cs).map .agg
     | false => match z, cs with
      | 1, c :: _ => match c.leaf with | true => some c | false => none
      | _, _ => none), jd ag z n (cs.drop z) with
  | some x, some xs => some (x :: xs)
  | _, _ => none
def dY (T : Tab) (t len : Nat) (ps : List (Nat × AV)) : Option AV := match T.ty t with
 | some (.slice e) => match T.sz e, T.zr e, T.ty e with
  | some (z + 1), some zv, some d => match Nat.ble (len * (z + 1)) 1048576 with
   | true => match gy (fun i => some (i * (z + 1), z + 1)) (dF zv.cells len) ps with
    | some cs => match AV.idfree.idfrees cs with
     | true => match len with
      | 0 => some (.nilz false)
      | n + 1 => (jd (eu d) (z + 1) (n + 1) (AV.norm.norms cs)).map .lst
     | false => none
    | none => none
   | false => none
  | _, _, _ => none
 | _ => none
def ql (T : Tab) (ρ : Operand -> Option AV) : Op -> Option AV
 | .buildSlice t len ps => match T.ice t with
  | true => match fF ρ ps.toList with
   | some ps => dY T t len ps
   | none => none
  | false => none
 | _ => none
def fm (T : Tab) (call : Nat -> List AV -> AS -> Option (AV × AS)) (σ : AS) (ρ : Operand -> Option AV) : Op -> Option (AV × AS)
 | .store t a v => match ρ a, ρ v with
  | some a, some v => match aA T σ.h t a v with
   | some h => some (.tup [], { σ with h := h })
   | none => none
  | _, _ => none
 | .mapUpdate t m k v => match ρ m, ρ k, ρ v with
  | some m, some k, some v => match eT T σ.h t m k v with
   | some h => some (.tup [], { σ with h := h })
   | none => none
  | _, _, _ => none
 | .insert t m k v => match ρ m, ρ k, ρ v with
  | some m, some k, some v => match eT T σ.h t m k v with
   | some h => some (.tup [], { σ with h := h })
   | none => none
  | _, _, _ => none
 | .next it true => match ρ it with
  | some it => match gz σ it with
   | some (v, σ) => some (v, σ)
   | none => none
  | none => none
 | .call c => match c.callee with
  | .builtin .append => match c.argTypes.toList, bE ρ c.args.toList with
   | [st, xt], some [s, x] => match aI T σ st xt s x with
    | some (v, σ) => some (v, σ)
    | none => none
   | _, _ => none
  | .builtin .copy => match c.argTypes.toList, bE ρ c.args.toList with
   | dt :: _, some [d, x] => match lm T σ dt d x with
    | some (v, σ) => some (v, σ)
    | none => none
   | _, _ => none
  | .builtin .clear => match c.argTypes.toList, bE ρ c.args.toList with
   | [t], some [x] => match jc T σ t x with
    | some (v, σ) => some (v, σ)
    | none => none
   | _, _ => none
  | .builtin .unsafeString => match c.argTypes.toList, bE ρ c.args.toList with
   | [pt, _], some [p, n] => match fQ T σ pt p n with
    | some (v, σ) => some (v, σ)
    | none => none
   | _, _ => none
  | .value f => match ρ f, bE ρ c.args.toList with
   | some (.fn f fs cs), some args => match call f (fs ++ args ++ cs) σ with
    | some (v, σ) => some (v, σ)
    | none => none
   | _, _ => none
  | _ => none
 | .buildSlice t len ps => match ql T ρ (.buildSlice t len ps) with
  | some v => some (v, σ)
  | none => none
 | _ => none
def qG (T : Tab) (call : Nat -> List AV -> AS -> Option (AV × AS)) (tm : Tr AV) (σ : AS) (o : Oper) : Option (AV × AS) :=
 match bg T σ.h (bW T tm) o.op with
 | some v => some (v, σ)
 | none => match eE T (bW T tm) o.op with
  | some (b, f) => some (f σ.n, ⟨σ.h.put σ.n (some b), σ.n + 1⟩)
  | none => fm T call σ (bW T tm) o.op
def cK (ops : Array Oper) (tm : Tr AV) (o : Oper) : Option Bool :=
 match o.guard with
 | none => some true
 | some (j, want) => match ops[j]? with
  | some oj => match oj.dst with
   | some d => match tm.get d with
    | some (.b x) => some (x == want)
    | some (.tup []) => some false
    | _ => none
   | none => none
  | none => none
def dG (nt : Nat) (tm : Tr AV) (dst : Option Nat) (v : AV) : Option (Tr AV) :=
 match dst with
 | none => some tm
 | some d => match Nat.ble (d + 1) nt with
  | true => some (tm.put d (some v))
  | false => none
def dE (T : Tab) (call : Nat -> List AV -> AS -> Option (AV × AS)) (nt : Nat) (ops : Array Oper) : List Oper -> Tr AV -> AS -> Option (Tr AV × AS)
 | [], tm, σ => some (tm, σ)
 | o :: os, tm, σ => match cK ops tm o with
  | some true => match qG T call tm σ o with
   | some (v, σ) => match dG nt tm o.dst v with
    | some tm => dE T call nt ops os tm σ
    | none => none
   | none => none
  | some false => match dG nt tm o.dst (.tup []) with
   | some tm => dE T call nt ops os tm σ
   | none => none
  | none => none
inductive AX where
 | norm | exit (id : Nat) | ret
def lL (f : Tr AV -> AS -> Option (AX × Tr AV × AS)) : Nat -> Tr AV -> AS -> Option (AX × Tr AV × AS)
 | 0, _, _ => none
 | k + 1, tm, σ => match f tm σ with
  | some (.norm, tm, σ) => lL f k tm σ
  | r => r
def AV.flat : AV -> Bool
 | .b _ => true
 | .i _ _ => true
 | .s _ => true
 | .nilp => true
 | .nilz _ => true
 | .lst [] => true
 | .nilf => true
 | .nili => true
 | .nilm => true
 | .ifc _ v => v.flat
 | .agg cs => flats cs
 | .tup vs => flats vs
 | _ => false
 where flats : List AV -> Bool
 | [] => true
 | c :: cs => c.flat && flats cs
def cU {α β : Type} (f : α -> Option β) : List α -> Option (List β)
 | [] => some []
 | c :: cs => match f c, cU f cs with
  | some d, some ds => some (d :: ds)
  | _, _ => none
def fz (T : Tab) (h : Tr AB) : Nat -> AV -> Option AV
 | 0, _ => none
 | k + 1, a => match a.idfree with
  | true => some a.norm
  | false => match a with
   | .ptr id off => match h.get id with
    | some (.cells cs _ _) => match Nat.ble off cs.length with
     | true => (cU (fz T h k) (cs.drop off)).map .iptr
     | false => none
    | _ => none
   | .sl id off len _ => match h.get id with
    | some (.cells cs e _) => match T.sz e, T.ty e with
     | some (z + 1), some d => match cC (len * (z + 1)) (cs.drop off) with
      | some cs' => match cU (fz T h k) cs' with
       | some ds => (jd (eu d) (z + 1) len ds).map .lst
       | none => none
      | none => none
     | _, _ => none
    | _ => none
   | .ifc t v => (fz T h k v).map (.ifc t)
   | .agg cs => (cU (fz T h k) cs).map .agg
   | .tup cs => (cU (fz T h k) cs).map .tup
   | .fn f fs cs => match cU (fz T h k) fs, cU (fz T h k) cs with
    | some fs, some cs => some (.fn f fs cs)
    | _, _ => none
   | _ => none
def binds (e : Edge) : Bool :=
 match e.ground with
 | .textOnly _ => false
 | .gcOnly _ => false
 | _ => true
def zW (x : Nat) : List Nat -> List Nat
 | [] => [x]
 | y :: ys => match Nat.beq x y with | true => y :: ys | false => y :: zW x ys
def addN : List Nat -> List Nat -> List Nat
 | [], ys => ys
 | x :: xs, ys => addN xs (zW x ys)
def aW (x : Nat) : List Nat -> Bool
 | [] => false
 | y :: ys => Nat.beq x y || aW x ys
def mo (bs : List (List Nat)) : List Edge -> List Nat
 | [] => []
 | e :: es => match binds e with
  | true => zW e.on (addN (bs.getD e.on []) (mo bs es))
  | false => mo bs es
def vX (bs : List (List Nat)) : List Oper -> List (List Nat)
 | [] => bs
 | o :: os => vX (bs ++ [mo bs o.after.toList]) os
def gk : List Operand -> List Nat
 | [] => []
 | .tmp t :: xs => t :: gk xs
 | _ :: xs => gk xs
def kw (ops : Array Oper) (o : Oper) : List Nat :=
 match o.guard with
 | none => gk o.op.operands.toList
 | some (j, _) => match ops[j]? with
  | some oj => match oj.dst with
   | some d => d :: gk o.op.operands.toList
   | none => gk o.op.operands.toList
  | none => gk o.op.operands.toList
def wr (o : Oper) (t : Nat) : Bool := match o.dst with | some d => Nat.beq d t | none => false
def sF (o : Oper) : List Nat -> Bool
 | [] => false
 | t :: ts => wr o t || sF o ts
def ml (ops : Array Oper) (x y : Oper) : Bool := sF x (kw ops y) || sF y (kw ops x) || (match y.dst with | some d => wr x d | none => false)
def jO (ops : Array Oper) (y : Oper) (by_ : List Nat) : Nat -> List Oper -> Bool
 | _, [] => true
 | i, x :: xs => (!ml ops x y || aW i by_) && jO ops y by_ (i + 1) xs
def lC (ops : Array Oper) (bs : List (List Nat)) : Nat -> List Oper -> Bool
 | _, [] => true
 | j, y :: ys => jO ops y (bs.getD j []) 0 (ops.toList.take j) && lC ops bs (j + 1) ys
def mh (ops : Array Oper) : Nat -> List Oper -> Bool
 | _, [] => true
 | j, y :: ys => y.after.toList.all (fun e => !binds e || Nat.ble (e.on + 1) j) && mh ops (j + 1) ys
def cf (ops : Array Oper) : Bool := mh ops 0 ops.toList && lC ops (vX [] ops.toList) 0 ops.toList
def ew : Code -> Bool
 | .region _ ops true => cf ops
 | .seq a b => ew a && ew b
 | .cond _ a b => ew a && ew b
 | .block _ c => ew c
 | .loop c => ew c
 | .scope c => ew c
 | _ => true
def dZ (h : Tr AB) (bs : List Nat) : List (Nat × Nat × Option AB) -> Tr AB
 | [] => h
 | (j, id, b) :: r => match aW j bs with
  | true => (dZ h bs r).put id b
  | false => dZ h bs r
def lay (h : Tr AB) : List (Nat × Nat × Option AB) -> Tr AB
 | [] => h
 | (_, id, b) :: r => (lay h r).put id b
def gi (T : Tab) (f : Nat) (args : List AV) : Bool := !T.opened f || (Nat.beq (T.mode f) 3 && AV.idfree.idfrees args)
def cg (T : Tab) (call : Nat -> List AV -> AS -> Option (AV × AS)) (h : Tr AB) (n : Nat) (ρ : Operand -> Option AV) : Op -> Option AV
 | .call c => match c.callee with
  | .value f => match ρ f, bE ρ c.args.toList with
   | some (.fn f fs cs), some args => match gi T f (fs ++ args ++ cs) with
    | false => none
    | true => match call f (fs ++ args ++ cs) ⟨h, n⟩ with
     | some (v, _) => some v
     | none => none
   | _, _ => none
  | _ => none
 | .buildSlice t len ps => ql T ρ (.buildSlice t len ps)
 | _ => none
def bw (T : Tab) (call : Nat -> List AV -> AS -> Option (AV × AS)) (n : Nat) (ρ : Operand -> Option AV) : Op -> Option (AV × Option AB)
 | .call c => match c.callee with
  | .value f => match ρ f, bE ρ c.args.toList with
   | some (.fn f fs cs), some args => match T.opened f && Nat.beq (T.mode f) 1 with
    | true => match call f (fs ++ args ++ cs) ⟨.nil, n⟩ with
     | some (v, σ) => some (v, σ.h.get n)
     | none => none
    | false => none
   | _, _ => none
  | _ => none
 | _ => none
def rv (bs : List Nat) (id : Nat) : List (Nat × Nat × Option AB) -> Bool
 | [] => false
 | (j, id', _) :: r => (Nat.beq id' id && aW j bs) || rv bs id r
def qY (n0 : Nat) (bs : List Nat) (news : List (Nat × Nat × Option AB)) (id : Nat) : Bool := Nat.ble (id + 1) n0 || rv bs id news
def bJ (n0 : Nat) (bs : List Nat) (news : List (Nat × Nat × Option AB)) : List (Nat × Nat × Option AB) -> Bool
 | [] => true
 | (k, id, _) :: r => (!qY n0 bs news id || aW k bs) && bJ n0 bs news r
def cj (n0 : Nat) (bef : Nat -> List Nat) (bs : List Nat) (news : List (Nat × Nat × Option AB)) (id : Nat) : List Nat -> Bool
 | [] => true
 | i :: r => (!qY n0 (bef i) news id || aW i bs) && cj n0 bef bs news id r
def cQ (bs : List Nat) (id : Nat) : List (Nat × Nat × Option AB) -> Bool
 | [] => true
 | (k, id', _) :: r => (!Nat.beq id' id || aW k bs) && cQ bs id r
def eX (T : Tab) (h : Tr AB) (ρ : Operand -> Option AV) : Op -> Option (Nat × AB)
 | .store t a v => match ρ a, ρ v with
  | some (.ptr id off), some v => match T.sz t with
   | some n => match Nat.beq v.cells.length n, aM v.cells with
    | true, true => match h.get id with
     | some (.cells cs e g) => match bQ cs off v.cells with
      | some cs' => some (id, .cells cs' e g)
      | none => none
     | _ => none
    | _, _ => none
   | none => none
  | _, _ => none
 | _ => none
def aV (T : Tab) (call : Nat -> List AV -> AS -> Option (AV × AS)) (nt : Nat) (ops : Array Oper) (h : Tr AB) (n0 : Nat) (bef : Nat -> List Nat) : List Oper -> Nat -> Tr AV -> List (Nat × Nat × Option AB) -> List Nat -> Nat -> Option (Tr AV × List (Nat × Nat × Option AB) × Nat)
 | [], _, tm, news, _, n => some (tm, news, n)
 | o :: os, i, tm, news, rd, n => match cK ops tm o with
  | some true => match bg T .nil (bW T tm) o.op with
   | some v => match dG nt tm o.dst v with
    | some tm => aV T call nt ops h n0 bef os (i + 1) tm news rd n
    | none => none
   | none => match eE T (bW T tm) o.op with
    | some (b, f) => match dG nt tm o.dst (f n) with
     | some tm => aV T call nt ops h n0 bef os (i + 1) tm ((i, n, some b) :: news) rd (n + 1)
     | none => none
    | none => match bw T call n (bW T tm) o.op with
     | some (v, b) => match dG nt tm o.dst v with
      | some tm => aV T call nt ops h n0 bef os (i + 1) tm ((i, n, b) :: news) rd (n + 1)
      | none => none
     | none => match bJ n0 (bef i) news news with
      | false => none
      | true => match bg T (dZ h (bef i) news) (bW T tm) o.op with
       | some v => match dG nt tm o.dst v with
        | some tm => aV T call nt ops h n0 bef os (i + 1) tm news (i :: rd) n
        | none => none
       | none => match cg T call (dZ h (bef i) news) n (bW T tm) o.op with
        | some v => match dG nt tm o.dst v with
         | some tm => aV T call nt ops h n0 bef os (i + 1) tm news (i :: rd) n
         | none => none
        | none => match eX T (dZ h (bef i) news) (bW T tm) o.op with
         | some (id, b) => match cj n0 bef (bef i) news id rd && cQ (bef i) id news with
          | true => match dG nt tm o.dst (.tup []) with
           | some tm => aV T call nt ops h n0 bef os (i + 1) tm ((i, id, some b) :: news) rd n
           | none => none
          | false => none
         | none => none
  | some false => match dG nt tm o.dst (.tup []) with
   | some tm => aV T call nt ops h n0 bef os (i + 1) tm news rd n
   | none => none
  | none => none
def nh (ops : Array Oper) : Nat -> List Nat := fun i => (vX [] ops.toList).getD i []
def isBar (T : Tab) (o : Oper) : Bool := match o.op with
 | .call c => match c.callee with
  | .builtin .append => true
  | .builtin .copy => true
  | .builtin .clear => true
  | .builtin .unsafeString => true
  | .value (.func f) => T.opened f && !(Nat.beq (T.mode f) 1) && !(Nat.beq (T.mode f) 3)
  | _ => false
 | .mapUpdate _ _ _ _ => true
 | .insert _ _ _ _ => true
 | .next _ _ => true
 | _ => false
def ki (T : Tab) : List Oper -> Nat -> List Nat
 | [], _ => []
 | o :: os, i => match isBar T o with
  | true => i :: ki T os (i + 1)
  | false => ki T os (i + 1)
def iR (k0 : Nat) (o : Oper) : Oper := { o with after := ⟨(o.after.toList.filter fun e => Nat.ble k0 e.on).map fun e => { e with on := e.on - k0 }⟩, guard := match o.guard with | some (j, b) => some (j - k0, b) | none => none }
def fp (ops : List Oper) (k0 k1 : Nat) : List Oper := ((ops.take k1).drop k0).map (iR k0)
def iE (k0 k1 : Nat) : List Oper -> Bool
 | [] => true
 | o :: os => (match o.guard with | some (j, _) => Nat.ble k0 j && Nat.ble (j + 1) k1 | none => true) && iE k0 k1 os
def uj (ops : List Oper) (k0 k1 : Nat) : Bool := Nat.ble k0 k1 && iE k0 k1 ((ops.take k1).drop k0) && cf ⟨fp ops k0 k1⟩
def vY (p : Nat -> Bool) : Nat -> Nat -> Bool
 | 0, _ => true
 | n + 1, k => p k && vY p n (k + 1)
def barOK (n b : Nat) (bef : Nat -> List Nat) : Bool := Nat.ble (b + 1) n && vY (fun j => aW j (bef b)) b 0 && vY (fun j => aW b (bef j)) (n - (b + 1)) (b + 1)
def kQ (T : Tab) (call : Nat -> List AV -> AS -> Option (AV × AS)) (nt : Nat) (ops : Array Oper) (k0 k1 : Nat) (tm : Tr AV) (σ : AS) : Option (Tr AV × AS) := match Nat.beq k0 k1 with
 | true => some (tm, σ)
 | false => match uj ops.toList k0 k1 with
  | true => match aV T call nt ⟨fp ops.toList k0 k1⟩ σ.h σ.n (nh ⟨fp ops.toList k0 k1⟩) (fp ops.toList k0 k1) 0 tm [] [] σ.n with
   | some (tm, news, n) => some (tm, ⟨lay σ.h news, n⟩)
   | none => none
  | false => none
def hJ (T : Tab) (call : Nat -> List AV -> AS -> Option (AV × AS)) (nt : Nat) (ops : Array Oper) : List Nat -> Nat -> Tr AV -> AS -> Option (Tr AV × AS)
 | [], k0, tm, σ => kQ T call nt ops k0 ops.size tm σ
 | b :: bs, k0, tm, σ => match kQ T call nt ops k0 b tm σ with
  | some (tm, σ) => match ops[b]? with
   | some o => match barOK ops.size b (nh ops) with
    | true => match dE T call nt ops [o] tm σ with
     | some (tm, σ) => hJ T call nt ops bs (b + 1) tm σ
     | none => none
    | false => none
   | none => none
  | none => none
def em : AV -> Bool
 | .b _ => true
 | .i _ _ => true
 | .s _ => true
 | _ => false
def oz : Option AV -> Bool
 | some a => em a
 | none => true
def iT (ρ : Operand -> Option AV) (x : Operand) : Option AV := match ρ x with
 | some a => match em a with
  | true => some a
  | false => none
 | none => none
def isFl : Op -> Bool
 | .move _ => true
 | .binOp _ _ _ _ _ => true
 | .slice _ _ _ _ _ => true
 | _ => false
def li (b : Nat) (bef : Nat -> List Nat) : List Oper -> Nat -> List Nat -> List Nat
 | [], _, acc => acc
 | o :: os, i, acc => match isFl o.op && o.guard.isNone && Nat.ble (b + 1) i && (bef i).all (fun j => aW j acc) with
  | true => li b bef os (i + 1) (acc ++ [i])
  | false => li b bef os (i + 1) acc
def lastN : List Nat -> Nat -> Nat
 | [], x => x
 | y :: ys, _ => lastN ys y
def vB (T : Tab) (ops : Array Oper) : List Nat := match ki T ops.toList 0 with
 | [] => []
 | b :: bs => li (lastN bs b) (nh ops) ops.toList 0 []
def kF (ops : Array Oper) : Array Bool -> List Nat -> Bool
 | _, [] => true
 | L, j :: js => (match ops[j]? with | some o => isFl o.op && o.guard.isNone | none => false) && Region.free .any ops L j && (Region.ready .any ops L).contains j && kF ops (L.setIfInBounds j true) js
def fu (F : List Nat) : List Oper -> Bool
 | [] => true
 | o :: os => (match o.guard with | some (j, _) => !aW j F | none => true) && fu F os
def jE (F : List Nat) : List Oper -> Nat -> List Oper
 | [], _ => []
 | o :: os, i => (match aW i F with
  | true => { o with op := .move (.const (.bool true)), dst := none, guard := none, after := ⟨(List.range i).map fun j => ⟨j, .phase⟩⟩ }
  | false => { o with after := ⟨o.after.toList.filter fun e => !aW e.on F⟩ }) :: jE F os (i + 1)
def dH (F : List Nat) (ops : Array Oper) : Array Oper := ⟨jE F ops.toList 0⟩
def mZ (F : List Nat) (ops : Array Oper) : Bool := kF ops (Array.replicate ops.size false) F && fu F ops.toList && Region.noSelect ops && cf (dH F ops)
def eF (T : Tab) (nt : Nat) (ops : Array Oper) : List Nat -> Tr AV -> Option (Tr AV)
 | [], tm => some tm
 | j :: js, tm => match ops[j]? with
  | some o => match bg T .nil (iT (bW T tm)) o.op with
   | some v => match em v with
    | true => match dG nt tm o.dst v with
     | some tm => eF T nt ops js tm
     | none => none
    | false => none
   | none => none
  | none => none
def aS (T : Tab) (call : Nat -> List AV -> AS -> Option (AV × AS)) (nt fuel : Nat) : Code -> Tr AV -> AS -> Option (AX × Tr AV × AS)
 | .skip, tm, σ => some (.norm, tm, σ)
 | .region _ ops false, tm, σ => match dE T call nt ops ops.toList tm σ with
  | some (tm, σ) => some (.norm, tm, σ)
  | none => none
 | .region _ ops true, tm, σ => match ki T ops.toList 0 with
  | [] => match aV T call nt ops σ.h σ.n (nh ops) ops.toList 0 tm [] [] σ.n with
   | some (tm, news, n) => some (.norm, tm, ⟨lay σ.h news, n⟩)
   | none => none
  | b :: bs => match vB T ops with
   | [] => match hJ T call nt ops (b :: bs) 0 tm σ with
    | some (tm, σ) => some (.norm, tm, σ)
    | none => none
   | j :: js => match mZ (j :: js) ops with
    | true => match eF T nt ops (j :: js) tm with
     | some tm => match hJ T call nt (dH (j :: js) ops) (b :: bs) 0 tm σ with
      | some (tm, σ) => some (.norm, tm, σ)
      | none => none
     | none => none
    | false => none
 | .seq a b, tm, σ => match aS T call nt fuel a tm σ with
  | some (.norm, tm, σ) => aS T call nt fuel b tm σ
  | r => r
 | .cond c a b, tm, σ => match bW T tm c with
  | some (.b true) => aS T call nt fuel a tm σ
  | some (.b false) => aS T call nt fuel b tm σ
  | _ => none
 | .block id c, tm, σ => match aS T call nt fuel c tm σ with
  | some (.exit j, tm, σ) => match Nat.beq j id with
   | true => some (.norm, tm, σ)
   | false => some (.exit j, tm, σ)
  | r => r
 | .loop c, tm, σ => lL (aS T call nt fuel c) fuel tm σ
 | .exit id, tm, σ => some (.exit id, tm, σ)
 | .scope c, tm, σ => aS T call nt fuel c tm σ
 | .label _, tm, σ => some (.norm, tm, σ)
 | .ret, tm, σ => some (.ret, tm, σ)
 | _, _, _ => none
def kS : List AV -> Nat -> Tr AV -> Tr AV
 | [], _, tm => tm
 | a :: as, i, tm => kS as (i + 1) (tm.put i (some a))
def fS (T : Tab) (tm : Tr AV) (h : Tr AB) : List ResultVar -> Option (List AV)
 | [] => some []
 | .tmp t :: rs => match tm.get t, fS T tm h rs with
  | some a, some as => some (a :: as)
  | _, _ => none
 | .cell a t :: rs => match tm.get a with
  | some p => match gY h p with
   | some cs => match aD T t cs, fS T tm h rs with
    | some v, some as => some (v :: as)
    | _, _ => none
   | none => none
  | none => none
def fa : List AV -> AV
 | [v] => v
 | vs => .tup vs
def eK (T : Tab) (call : Nat -> List AV -> AS -> Option (AV × AS)) (fuel : Nat) (fn : Func) (c : Code) (args : List AV) (σ : AS) : Option (AV × AS) :=
 match aS T call (Nat.max args.length fn.ntmps) fuel c (kS args 0 .nil) σ with
 | some (x, tm, σ) => match x with
  | .exit _ => none
  | _ => match fS T tm σ.h fn.results.toList with
   | some vs => some (fa vs, σ)
   | none => none
 | none => none
def rch (T : Tab) (h : Tr AB) : Nat -> AV -> List Nat
 | 0, _ => []
 | k + 1, a => match a.idfree with
  | true => []
  | false => match a with
   | .ptr id off => match h.get id with
    | some (.cells cs _ _) => id :: (cs.drop off).flatMap (rch T h k)
    | _ => [id]
   | .sl id off len _ => match h.get id with
    | some (.cells cs e _) => match T.sz e with
     | some (z + 1) => id :: ((cs.drop off).take (len * (z + 1))).flatMap (rch T h k)
     | _ => [id]
    | _ => [id]
   | .ifc _ v => rch T h k v
   | .agg cs => cs.flatMap (rch T h k)
   | .tup cs => cs.flatMap (rch T h k)
   | .fn _ fs cs => fs.flatMap (rch T h k) ++ cs.flatMap (rch T h k)
   | _ => []
def lN (h : Tr AB) : List Nat -> Tr AB
 | [] => h
 | id :: ids => (lN h ids).put id none
def ko (h : Tr AB) (r : AV) (σ : AS) : Option (AV × AS) :=
 match r with
 | .nilz t => some (.nilz t, σ)
 | .sl id off len cap => match h.get id with
  | some (.cells cs e g) => match AV.idfree.idfrees cs with
   | true => some (.sl σ.n off len cap, ⟨σ.h.put σ.n (some (.cells cs e g)), σ.n + 1⟩)
   | false => none
  | _ => none
 | _ => none
def fv (T : Tab) (f : Nat) (args : List AV) : Option AV := match T.ext f with
 | some g => g args
 | none => none
def aF (T : Tab) : Nat -> Nat -> List AV -> AS -> Option (AV × AS)
 | 0, _, _, _ => none
 | k + 1, f, args, σ => match T.prim f with
  | some g => match g args with
   | some r => some (r, σ)
   | none => none
  | none => match fv T f args with
   | some r => some (r, σ)
   | none => match T.fn f with
    | some fn => match fn.body with
     | some c => match T.opened f with
      | true => match T.mode f with
       | 0 => eK T (aF T k) k fn c args σ
       | 1 => match AV.idfree.idfrees args with
        | true => match eK T (aF T k) k fn c (AV.norm.norms args) ⟨.nil, 0⟩ with
         | some (r, σ') => ko σ'.h r σ
         | none => none
        | false => none
       | m => match Nat.beq m 3 && AV.idfree.idfrees args with
        | true => match eK T (aF T k) k fn c (AV.norm.norms args) ⟨.nil, 0⟩ with
         | some (r, σ') => match fz T σ'.h (k + 1) r with
          | some r => some (r, σ)
          | none => none
         | none => none
        | false => match cU (fz T σ.h (k + 1)) args with
         | some args' => match eK T (aF T k) k fn c args' ⟨.nil, 0⟩ with
          | some (r, σ') => match fz T σ'.h (k + 1) r with
           | some r => some (r, ⟨lN σ.h (args.flatMap (rch T σ.h (k + 1))), σ.n⟩)
           | none => none
          | none => none
         | none => none
      | false => match AV.idfree.idfrees args with
       | true => match eK T (aF T k) k fn c (AV.norm.norms args) ⟨.nil, 0⟩ with
        | some (r, σ') => match fz T σ'.h (k + 1) r with
         | some r => some (r, σ)
         | none => none
        | none => none
       | false => match cU (fz T σ.h (k + 1)) args with
        | some args => match eK T (aF T k) k fn c args ⟨.nil, 0⟩ with
         | some (r, σ') => match fz T σ'.h (k + 1) r with
          | some r => match r.flat with
           | true => some (r, σ)
           | false => none
          | none => none
         | none => none
        | none => none
     | none => none
    | none => none
def wX (P : Program) (t : Nat) : Bool := !P.eqGuardType P.depth t && !P.stoodInHeld t && (match P.underlying t with | some (.struct fs) => fs.toList.all (fun f => f.name != "_") | _ => true) && (match P.info? t with | some i => i.comparable | none => false)
def GL (T : Tab) (φ : Nat -> Nat × Nat) (A S : Nat -> Prop) (w : World) : Prop := ∀ g cs, T.gl g = some cs -> VR φ A S w (.iptr cs) (.pointer (some ⟨g, 0, none⟩)) /\ w.cell? ⟨g, cs.length, none⟩ = none
structure TabOK (P : Program) (T : Tab) : Prop where
 ty : ∀ t d, T.ty t = some d -> P.underlying t = some d
 sz : ∀ t n, T.sz t = some n -> ∃ i, P.info? t = some i /\ i.size = n
 by_ : ∀ t n, T.by_ t = some n -> ∃ i, P.info? t = some i /\ i.bytes = n
 zr : ∀ t z, T.zr t = some z -> ∃ i v, P.info? t = some i /\ i.zero = some v /\ nq v = some z /\ v.cells.size = i.size
 eq : ∀ t, T.eq t = true -> wX P t = true
 fn : ∀ f fn, T.fn f = some fn -> P.funcs[f]? = some fn /\ (fn.name == "runtime.NumGoroutine") = false /\ ∀ c, fn.body = some c -> ew c = true
 gl : ∀ g cs, T.gl g = some cs -> AV.idfree.idfrees cs = true
 ext : ∀ f g args r, T.ext f = some g -> g args = some r -> ∀ (φ : Nat -> Nat × Nat) (A S : Nat -> Prop) (w : World) (vals : List Value), GL T φ A S w -> VRs φ A S w args vals -> (callFunc f ⟨vals⟩).run P w = .ok (.enter f ⟨vals⟩) w /\
  Calls P f ⟨vals⟩ w fun e w' => ∃ u, e = .returned u /\ Below w.heap.size w w' /\ ∀ (φ : Nat -> Nat × Nat) (A S : Nat -> Prop) (w : World), VR φ A S w r u
 prim : ∀ f g args r, T.prim f = some g -> g args = some r -> T.opened f = false /\ ∀ (φ : Nat -> Nat × Nat) (A S : Nat -> Prop) (w : World) (vals : List Value), VRs φ A S w args vals -> ∃ u, (callFunc f ⟨vals⟩).run P w = .ok (.value u) w /\ VR φ A S w r u
 mixed : P.follows .mixedOrders = true
def BR (P : Program) (φ : Nat -> Nat × Nat) (A S : Nat -> Prop) (w : World) (id : Nat) : AB -> Prop
 | .cells cs e g => ∃ (C : List Value) (fz : Nat × Nat), w.heap[(φ id).1]? = some (.cells ⟨C⟩ e fz) /\ (∀ o, o < C.length -> ¬ (fz.1 <= o /\ o < fz.2)) /\ cs.length <= C.length /\ VRs φ A S w cs (C.take cs.length) /\
   (g = true -> C.length = (φ id).2 * P.cellsOf e)
 | .map es => ∃ (E : List MapEntry) (clk : Nat), w.heap[(φ id).1]? = some (.map ⟨E⟩ clk) /\ VRs φ A S w (es.map (·.1)) (E.map (·.key)) /\ VRs φ A S w (es.map (·.2)) (E.map (·.val))
 | .siter s pos => ∃ t : ByteArray, t.data.toList = s /\ w.heap[(φ id).1]? = some (.stringIter t pos)
structure Inv (P : Program) (B : Nat) (φ : Nat -> Nat × Nat) (A S : Nat -> Prop) (H : Nat -> Option AB) (w : World) : Prop where
 dom : ∀ id b, H id = some b -> A id
 lo : ∀ id, A id -> B <= (φ id).1 /\ (φ id).1 < w.heap.size
 inj : ∀ id id', H id ≠ none -> H id' ≠ none -> (φ id).1 = (φ id').1 -> id = id'
 st : ∀ b, S b -> b < w.heap.size /\ ∀ id, H id ≠ none -> (φ id).1 ≠ b
 blk : ∀ id b, H id = some b -> BR P φ A S w id b
 hB : B <= w.heap.size
def Has (P : Program) (φ : Nat -> Nat × Nat) (A S : Nat -> Prop) (h : Tr AB) (w : World) : Prop := ∀ id b, h.get id = some b -> BR P φ A S w id b
theorem qU {φ : Nat -> Nat × Nat} {A S : Nat -> Prop} {w : World} {v : Value} {a : AV} (h : sG v = some a) : VR φ A S w a v := by
 unfold sG at h
 split at h <;> first | (cases h; done) | skip
 all_goals (injection h with h; subst h)
 ·exact .b _
 ·exact .i _ _
 ·exact .s _ _ rfl
 ·exact .nilp
 ·exact .nilz _ _ (fun _ => rfl)
 ·exact .nilm
 ·exact .nilf
 ·exact .nili
 ·exact .fn _ [] [] [] [] rfl rfl (fun j c v h => by simp at h) (fun j c v h => by simp at h)
theorem nl {φ : Nat -> Nat × Nat} {A S : Nat -> Prop} {w : World} : ∀ {vs : List Value} {as : List AV}, nn vs = some as -> VRs φ A S w as vs
 | [], as, h => by simp [nn] at h; subst h; exact VRs.nil
 | v :: vs, as, h => by
  unfold nn at h
  split at h
  ·rename_i a as' h1 h2
   injection h with h; subst h
   exact VRs.cons (qU h1) (nl h2)
  ·cases h
theorem dW {φ : Nat -> Nat × Nat} {A S : Nat -> Prop} {w : World} {v : Value} {a : AV} (h : nq v = some a) : VR φ A S w a v := by
 unfold nq at h
 split at h
 ·rename_i cs
  cases h1 : nn cs with
  | none => rw [h1] at h; cases h
  | some as => rw [h1] at h; injection h with h; subst h; exact .agg _ _ (nl h1 (φ := φ) (A := A) (S := S) (w := w)).1 (nl h1).2
 ·rename_i t v
  cases h1 : sG v with
  | none => rw [h1] at h; cases h
  | some as => rw [h1] at h; injection h with h; subst h; exact .ifc _ _ _ (qU h1)
 ·exact qU h
theorem gj {ρ : Operand -> Option AV} {ev : Operand -> Value} {φ : Nat -> Nat × Nat} {A S : Nat -> Prop} {w : World} (hρ : ∀ x a, ρ x = some a -> VR φ A S w a (ev x)) :
  ∀ {xs : List Operand} {as : List AV}, bE ρ xs = some as -> VRs φ A S w as (xs.map ev)
 | [], as, h => by simp [bE] at h; subst h; exact VRs.nil
 | x :: xs, as, h => by
  unfold bE at h
  split at h
  ·rename_i a as' h1 h2
   injection h with h; subst h
   exact VRs.cons (hρ _ _ h1) (gj hρ h2)
  ·cases h
section
variable {P : Program} {w : World}
theorem aq {t : TypeId} {d : TypeDesc} (h : P.underlying t = some d) : (underlying t).run P w = .ok d w := by
 unfold underlying; simp [h]
theorem dr {t : TypeId} {i : TypeInfo} (h : P.info? t = some i) : (typeInfo t).run P w = .ok i w := by
 unfold typeInfo; simp [h]
theorem aK {t : TypeId} {i : TypeInfo} (h : P.info? t = some i) : (sizeOf t).run P w = .ok i.size w := by
 unfold sizeOf; simp [dr h]
theorem bI {t : TypeId} {i : TypeInfo} {v : Value} (h : P.info? t = some i) (hz : i.zero = some v) : (zeroValue t).run P w = .ok v w := by
 unfold zeroValue; simp [dr h, hz]
theorem pM {t : TypeId} {d : TypeDesc} (h : P.underlying t = some d) : (isAgg t).run P w = .ok (eu d) w := by
 unfold isAgg; simp [aq h]; cases d <;> simp [eu]
end
theorem eB {α : Type} : ∀ {n : Nat} {cs ds : List α}, cC n cs = some ds -> n <= cs.length /\ ds = cs.take n
 | 0, cs, ds, h => by simp [cC] at h; simp [h]
 | n + 1, [], ds, h => by simp [cC] at h
 | n + 1, c :: cs, ds, h => by
  simp only [cC] at h
  cases h1 : cC n cs with
  | none => rw [h1] at h; cases h
  | some es => rw [h1] at h; injection h with h; have := eB h1; subst h; simp [this.1, this.2]
theorem kv {α : Type} : ∀ {cs : List α} {n : Nat} {ds es : List α}, bQ cs n ds = some es -> n + ds.length <= cs.length /\ es = cs.take n ++ ds ++ cs.drop (n + ds.length)
 | cs, 0, [], es, h => by
  have : es = cs := by cases cs <;> simp [bQ] at h <;> first | exact h | exact h.symm
  simp [this]
 | c :: cs, n + 1, ds, es, h => by
  simp only [bQ] at h
  cases h1 : bQ cs n ds with
  | none => rw [h1] at h; cases h
  | some fs =>
   rw [h1] at h; injection h with h; have := kv h1; subst h
   refine ⟨by simp; omega, ?_⟩
   rw [this.2]; simp only [List.take_succ_cons, List.cons_append, List.append_assoc, List.cons.injEq, true_and]; rw [Nat.add_right_comm, List.drop_succ_cons]
 | c :: cs, 0, d :: ds, es, h => by
  simp only [bQ] at h
  cases h1 : bQ cs 0 ds with
  | none => rw [h1] at h; cases h
  | some fs =>
   rw [h1] at h; injection h with h; have := kv h1; subst h
   refine ⟨by simp at this |-; omega, ?_⟩
   rw [this.2]; simp
 | [], n + 1, ds, es, h => by simp [bQ] at h
 | [], 0, d :: ds, es, h => by simp [bQ] at h
section
variable {P : Program} {T : Tab} (hT : TabOK P T) {B : Nat} {φ : Nat -> Nat × Nat} {A S : Nat -> Prop} {h : Tr AB} {w : World} (inv : Has P φ A S h w)
theorem cB (b o n : Nat) : (⟨b, o, none⟩ : Addr).add n = ⟨b, o + n, none⟩ := by
 unfold Addr.add; split
 ·rename_i e; subst e; rfl
 ·rfl
theorem iop_ok {op : BinOp} {k : IntKind} {x y : Int} {v : AV} (h : iop op k x y = some v) (t : TypeId) (w : World) : ∃ u, (Go.binOp op t (.int k x) (.int k y)).run P w = .ok u w /\ VR φ A S w v u := by
 unfold iop at h
 split at h <;> first | (cases h; done) | skip
 all_goals first
  | (split at h
     ·cases h
     ·rename_i hne; injection h with h; subst h; refine ⟨_, ?_, .i _ _⟩; simp [Go.binOp, Op.intDiv, hne])
  | (injection h with h; subst h; first
    | (refine ⟨_, ?_, .i _ _⟩; simp [Go.binOp, Op.intArith, Op.intBits]; done)
    | (refine ⟨_, ?_, .b _⟩; simp [Go.binOp, Op.intCmp]; done))
theorem xA {op : BinOp} {k l : IntKind} {x y : Int} {v : AV} (ho : op = .shl ∨ op = .shr) (h : shop op k x y = some v) (t : TypeId) (w : World) : ∃ u, (Go.binOp op t (.int k x) (.int l y)).run P w = .ok u w /\ VR φ A S w v u := by
 unfold shop at h
 split at h
 ·cases h
 ·rename_i hy
  rcases ho with rfl | rfl <;> (injection h with h; subst h; refine ⟨_, ?_, .i _ _⟩; simp [Go.binOp, Op.shift, hy])
theorem sop_ok {op : BinOp} {x y : List UInt8} {s r : ByteArray} (hs : s.data.toList = x) (hr : r.data.toList = y) {v : AV} (h : sop op x y = some v) (t : TypeId) (w : World) :
  ∃ u, (Go.binOp op t (.string s) (.string r)).run P w = .ok u w /\ VR φ A S w v u := by
 subst hs; subst hr
 unfold sop at h
 split at h
 ·split at h
  ·rename_i hl
   injection h with h; subst h
   have hl' : s.data.toList.length + r.data.toList.length <= 9223372036854775807 := Nat.le_of_ble_eq_true hl
   have e1 : s.data.toList.length = s.size := Array.length_toList
   have e2 : r.data.toList.length = r.size := Array.length_toList
   refine ⟨.string (s ++ r), ?_, .s _ _ (by simp [ByteArray.data_append])⟩
   simp only [Go.binOp, Op.stringOp]
   have hm : IntKind.i64.max = 9223372036854775807 := by rfl
   rw [hm, if_neg (by omega)]; rfl
  ·cases h
 all_goals first
  | (cases h; done)
  | (injection h with h; subst h; refine ⟨_, ?_, .b _⟩; simp only [Go.binOp, Op.stringOp, ByteArray.toList_eq, Sem.run_pure]; done)
theorem jY {a : AV} {x : Value} (hx : VR φ A S w a x) {r : Bool} (h : rP a = some r) : ∃ p : Option Addr, x = .pointer p /\ p.isSome = r := by
 cases hx <;> simp [rP] at h <;> subst h <;> exact ⟨_, rfl, rfl⟩
theorem lP {a : AV} {x : Value} (hx : VR φ A S w a x) {r : Bool} (h : isMp a = some r) : ∃ p : Option Nat, x = .map p /\ p.isSome = r := by
 cases hx <;> simp [isMp] at h <;> subst h <;> exact ⟨_, rfl, rfl⟩
theorem lR {a : AV} {x : Value} (hx : VR φ A S w a x) {r : Bool} (h : isFn a = some r) : (r = false /\ x = .nilFunc) ∨ (r = true /\ ∃ f u v, x = .func f u v) := by
 cases hx <;> simp [isFn] at h <;> subst h <;> simp
theorem lQ {a : AV} {x : Value} (hx : VR φ A S w a x) {r : Bool} (h : isIf a = some r) : (r = false /\ x = .nilIface) ∨ (r = true /\ ∃ t v, x = .iface t v) := by
 cases hx <;> simp [isIf] at h <;> subst h <;> simp
theorem xY {a : AV} {x : Value} (hx : VR φ A S w a x) {r : Bool} (h : mQ a = some r) : ∃ p n c, x = .slice p n c /\ p.isSome = r := by
 unfold mQ at h
 split at h
 ·injection h with h; subst h
  cases hx with
  | nilz t p hp => rw [hp rfl]; exact ⟨none, 0, 0, rfl, rfl⟩
 ·injection h with h; subst h
  cases hx with
  | sl id off len cap c h1 h2 h3 h4 => exact ⟨_, _, _, rfl, rfl⟩
 ·injection h with h; subst h
  cases hx with
  | lst es vs b o z c h1 h2 h3 h4 h5 h6 h7 => exact ⟨_, _, _, rfl, rfl⟩
 ·cases h
theorem uX {a : AV} {x : Value} (hx : VR φ A S w a x) (h : mQ a = some false) : x = .slice none 0 0 := by
 unfold mQ at h
 split at h
 ·cases hx with
  | nilz t p hp => rw [hp rfl]
 ·cases h
 ·cases h
 ·cases h
theorem pF {a b : AV} {r : Bool} (h : (match mQ b with | some false => (mQ a).map not | _ => none) = some r) : mQ b = some false /\ ∃ y, mQ a = some y /\ r = !y := by
 split at h
 ·rename_i hb
  cases ha : mQ a with
  | none => rw [ha] at h; cases h
  | some y => rw [ha] at h; injection h with h; exact ⟨hb, y, rfl, h.symm⟩
 ·cases h
theorem fI {p q : Option Bool} {r : Bool} (h : qd p q = some r) : (p = some false /\ ∃ y, q = some y /\ r = !y) ∨ (p = some true /\ q = some false /\ r = false) := by
 unfold qd at h; split at h
 ·injection h with h; exact .inl ⟨rfl, _, rfl, h.symm⟩
 ·injection h with h; exact .inr ⟨rfl, rfl, h.symm⟩
 ·cases h
theorem vL {d : TypeDesc} {a b : AV} {x y : Value} (hx : VR φ A S w a x) (hy : VR φ A S w b y) {r : Bool} (h : kf d a b = some r) {t : TypeId} (ht : P.underlying t = some d) (w' : World) :
  (Op.equal t x y).run P w' = .ok r w' := by
 unfold Op.equal Op.maxDepth
 unfold Op.equalIn
 simp only [Sem.run_bind, aq ht, Result.andThen_ok]
 unfold kf at h
 split at h
 ·rcases fI h with ⟨h1, z, h2, rfl⟩ | ⟨h1, h2, rfl⟩
  ·obtain ⟨p, rfl, hp⟩ := jY hx h1; obtain ⟨q, rfl, hq⟩ := jY hy h2
   cases p <;> cases q <;> simp at hp hq <;> subst hq <;> rfl
  ·obtain ⟨p, rfl, hp⟩ := jY hx h1; obtain ⟨q, rfl, hq⟩ := jY hy h2
   cases p <;> cases q <;> simp at hp hq <;> rfl
 ·rcases fI h with ⟨h1, z, h2, rfl⟩ | ⟨h1, h2, rfl⟩
  ·obtain ⟨p, rfl, hp⟩ := lP hx h1; obtain ⟨q, rfl, hq⟩ := lP hy h2
   cases p <;> cases q <;> simp at hp hq <;> subst hq <;> rfl
  ·obtain ⟨p, rfl, hp⟩ := lP hx h1; obtain ⟨q, rfl, hq⟩ := lP hy h2
   cases p <;> cases q <;> simp at hp hq <;> rfl
 ·rcases fI h with ⟨h1, z, h2, rfl⟩ | ⟨h1, h2, rfl⟩
  ·rcases lR hx h1 with ⟨_, rfl⟩ | ⟨e, _⟩
   ·rcases lR hy h2 with ⟨rfl, rfl⟩ | ⟨rfl, f, u, v, rfl⟩ <;> rfl
   ·cases e
  ·rcases lR hx h1 with ⟨e, _⟩ | ⟨_, f, u, v, rfl⟩
   ·cases e
   ·rcases lR hy h2 with ⟨_, rfl⟩ | ⟨e, _⟩
    ·rfl
    ·cases e
 ·rcases fI h with ⟨h1, z, h2, rfl⟩ | ⟨h1, h2, rfl⟩
  ·rcases lQ hx h1 with ⟨_, rfl⟩ | ⟨e, _⟩
   ·rcases lQ hy h2 with ⟨rfl, rfl⟩ | ⟨rfl, u, v, rfl⟩ <;> rfl
   ·cases e
  ·rcases lQ hx h1 with ⟨e, _⟩ | ⟨_, u, v, rfl⟩
   ·cases e
   ·rcases lQ hy h2 with ⟨_, rfl⟩ | ⟨e, _⟩
    ·rfl
    ·cases e
 ·obtain ⟨h1, z, h2, rfl⟩ := pF h
  rw [uX hy h1]
  obtain ⟨p, n, c, rfl, hp⟩ := xY hx h2
  subst hp
  cases p <;> rfl
 ·cases h
def nk : Value -> Bool
 | .pointer _ => true
 | .slice _ _ _ => true
 | .map _ => true
 | .func _ _ _ => true
 | .nilFunc => true
 | .iface _ _ => true
 | .nilIface => true
 | _ => false
theorem nk_of {p : AV -> Option Bool} (hp : p = rP ∨ p = isMp ∨ p = isFn ∨ p = isIf) {a : AV} {x : Value} (hx : VR φ A S w a x) {r : Bool} (h : p a = some r) : nk x = true := by
 rcases hp with rfl | rfl | rfl | rfl
 ·obtain ⟨q, rfl, _⟩ := jY hx h; rfl
 ·obtain ⟨q, rfl, _⟩ := lP hx h; rfl
 ·rcases lR hx h with ⟨_, rfl⟩ | ⟨_, f, u, v, rfl⟩ <;> rfl
 ·rcases lQ hx h with ⟨_, rfl⟩ | ⟨_, u, v, rfl⟩ <;> rfl
theorem vM {d : TypeDesc} {a b : AV} {x y : Value} (hx : VR φ A S w a x) (hy : VR φ A S w b y) {r : Bool} (h : kf d a b = some r) : nk x = true /\ nk y = true := by
 unfold kf at h
 split at h
 case h_6 => cases h
 case h_5 =>
  obtain ⟨h1, z, h2, _⟩ := pF h
  rw [uX hy h1]
  obtain ⟨p, n, c, rfl, hp⟩ := xY hx h2
  exact ⟨rfl, rfl⟩
 all_goals
  rcases fI h with ⟨h1, z, h2, _⟩ | ⟨h1, h2, _⟩ <;> exact ⟨nk_of (by simp) hx h1, nk_of (by simp) hy h2⟩
theorem tL {t : TypeId} {x y : Value} {r : Bool} (h1 : nk x = true) (h2 : nk y = true) (h : (Op.equal t x y).run P w = .ok r w) : (Go.binOp .eql t x y).run P w = .ok (.bool r) w := by
 have : Go.binOp .eql t x y = (do pure (.bool (<- Op.equal t x y))) := by cases x <;> simp [nk] at h1 <;> cases y <;> simp [nk] at h2 <;> rfl
 rw [this, Sem.run_bind, h]; rfl
theorem zn {t : TypeId} {x y : Value} {r : Bool} (h1 : nk x = true) (h2 : nk y = true) (h : (Op.equal t x y).run P w = .ok r w) : (Go.binOp .neq t x y).run P w = .ok (.bool (!r)) w := by
 have : Go.binOp .neq t x y = (do pure (.bool (!(<- Op.equal t x y)))) := by cases x <;> simp [nk] at h1 <;> cases y <;> simp [nk] at h2 <;> rfl
 rw [this, Sem.run_bind, h]; rfl
theorem qo {op : BinOp} {t : TypeId} {x y : Operand} {ex ey : Value} (hc : (fg x || fg y) = true) (h1 : nk ex = true) : (eqGuard op t x y ex ey).run P w = .ok () w := by
 unfold eqGuard
 cases op <;> first
  | rfl
  | (simp only [Bool.not_true, Bool.false_eq_true, if_false]
     cases ex <;> simp [nk] at h1 <;> cases ey <;> first
      | rfl
      | (cases x <;> cases y <;> simp [fg] at hc <;> rfl))
theorem jZ {op : BinOp} {t : TypeId} {x y : Operand} {ex ey : Value} (h1 : ∀ c, ex ≠ .agg c) (h2 : ex ≠ .nilIface) : (eqGuard op t x y ex ey).run P w = .ok () w := by
 unfold eqGuard
 cases op <;> first
  | rfl
  | (simp only [Bool.not_true, Bool.false_eq_true, if_false]
     cases ex <;> first | (exfalso; exact h2 rfl) | (exfalso; exact h1 _ rfl) | (cases ey <;> rfl))
theorem zk {t : TypeId} (hu : P.underlying t = some .bool) (p q : Bool) : (Op.equal t (.bool p) (.bool q)).run P w = .ok (p == q) w := by
 unfold Op.equal Op.maxDepth Op.equalIn
 rw [Sem.run_bind, aq hu]; rfl
theorem dR (hT : TabOK P T) {t : TypeId} {cs : List AV} {vs : List Value} {off : Nat} (hc : VRs φ A S w cs vs) {v : AV} (hv : aD T t (cs.drop off) = some v) : ∃ u, (part t ⟨vs⟩ off).run P w = .ok u w /\ VR φ A S w v u := by
 unfold aD at hv
 split at hv
 ·rename_i d ht
  have hu := hT.ty _ _ ht
  unfold part
  simp only [Sem.run_bind, pM hu, Result.andThen_ok]
  split at hv
  ·rename_i hd
   split at hv
   ·rename_i n hn
    obtain ⟨i, hi1, hi2⟩ := hT.sz _ _ hn
    cases hk : cC n (cs.drop off) with
    | none => rw [hk] at hv; cases hv
    | some ds =>
     rw [hk] at hv; injection hv with hv; subst hv
     obtain ⟨k1, rfl⟩ := eB hk
     have g1 := (hc.drop off).take n
     refine ⟨.agg ⟨(vs.drop off).take n⟩, ?_, .agg _ _ g1.1 g1.2⟩
     rw [hd, if_pos rfl]
     simp only [Sem.run_bind, aK hi1, Result.andThen_ok, hi2, Sem.run_pure]
     have e1 : (⟨vs⟩ : Array Value).extract off (off + n) = ⟨(vs.drop off).take n⟩ := Array.toList_inj.1 (by rw [Array.toList_extract, List.extract_eq_take_drop, Nat.add_sub_cancel_left])
     rw [e1]
   ·cases hv
  ·rename_i hd
   rw [hd]
   have hv' : cs[off]? = some v := by rw [List.head?_eq_getElem?, List.getElem?_drop] at hv; exact hv
   obtain ⟨u, k1, k2⟩ := hc.at hv'
   refine ⟨u, ?_, k2⟩
   simp [k1]
 ·cases hv
theorem qJ (hT : TabOK P T) (w : World) (φ : Nat -> Nat × Nat) (A S : Nat -> Prop) : ∀ (k d : Nat) (t : Nat) (a b : AV) (x y : Value) (r : Bool), k <= d -> VR φ A S w a x -> VR φ A S w b y -> jx T k t a b = some r -> (Op.equalIn d t x y).run P w = .ok r w := by
 intro k
 induction k with
 | zero => intro d t a b x y r _ _ _ h; cases h
 | succ k ih =>
  intro d t a b x y r hd ha hb h
  obtain ⟨d, rfl⟩ : ∃ e, d = e + 1 := ⟨d - 1, by omega⟩
  have hd' : k <= d := by omega
  unfold jx at h
  split at h
  ·rename_i ht
   split at h
   ·injection h with h; subst h; cases ha; cases hb
    exact run_equalIn_bool' w d t _ _ (hT.ty _ _ ht)
   ·cases h
  ·rename_i q ht
   split at h
   ·split at h
    ·rename_i hk; subst hk; injection h with h; subst h; cases ha; cases hb
     exact run_equalIn_int w d t _ q _ _ (hT.ty _ _ ht)
    ·cases h
   ·cases h
  ·rename_i ht
   split at h
   ·injection h with h; subst h
    cases ha with | s _ p hp => cases hb with | s _ q hq =>
    rw [run_equalIn_string w d t _ _ (hT.ty _ _ ht)]
    rw [ByteArray.toList_eq, ByteArray.toList_eq, hp, hq]
   ·cases h
  ·rename_i fs ht
   have hu := hT.ty _ _ ht
   split at h
   ·rename_i xs ys heq
    have hk := hT.eq t heq
    unfold wX at hk
    rw [hu] at hk
    simp only [Bool.and_eq_true, Bool.not_eq_true'] at hk
    cases ha with | agg _ us h1 h2 => cases hb with | agg _ vs h3 h4 =>
    have hfs : P.fieldsOf t = fs := by simp [Program.fieldsOf, hu]
    rw [run_equalIn_struct w d t _ _ (by rw [hfs]; exact hu) hk.1.1.2, hfs]
    have hall := hk.1.2
    clear ht hu hk hfs
    generalize fs.toList = fl at h hall
    induction fl generalizing r with
    | nil => injection h with h; subst h; rfl
    | cons f fl ihf =>
     simp only [List.all_cons, Bool.and_eq_true, bne_iff_ne, ne_eq] at hall
     unfold eqFs at h
     split at h
     ·rename_i c d' hc hd2
      split at h
      ·rename_i r1 r2 hr1 hr2
       injection h with h; subst h
       obtain ⟨u, p1, p2⟩ := dR hT ⟨h1, h2⟩ hc
       obtain ⟨v, q1, q2⟩ := dR hT ⟨h3, h4⟩ hd2
       have hr := ih d f.type c d' u v r1 hd' p2 q2 hr1
       simp only [Op.eqFields, hall.1, ne_eq, not_false_eq_true, if_true, Sem.run_bind, p1, q1, hr, Result.andThen_ok]
       cases r1
       ·simp
       ·simpa using ihf _ hr2 hall.2
      ·cases h
     ·cases h
   ·cases h
  ·rename_i n e ht
   have hu := hT.ty _ _ ht
   split at h
   ·rename_i z xs ys hz
    obtain ⟨i, hi1, hi2⟩ := hT.sz _ _ hz
    have hc : P.cellsOf e = z := by unfold Program.cellsOf; rw [hi1]; exact hi2
    cases ha with | agg _ us h1 h2 => cases hb with | agg _ vs h3 h4 =>
    rw [run_equalIn_array w d _ _ hu hi1, hc]
    generalize List.range n = il at h
    induction il generalizing r with
    | nil => injection h with h; subst h; rfl
    | cons j il ihf =>
     unfold eqIs at h
     split at h
     ·rename_i c d' hc' hd2
      split at h
      ·rename_i r1 r2 hr1 hr2
       injection h with h; subst h
       obtain ⟨u, p1, p2⟩ := dR hT ⟨h1, h2⟩ hc'
       obtain ⟨v, q1, q2⟩ := dR hT ⟨h3, h4⟩ hd2
       have hr := ih d e c d' u v r1 hd' p2 q2 hr1
       simp only [Op.eqItems, Sem.run_bind, p1, q1, hr, Result.andThen_ok]
       cases r1
       ·simp
       ·simpa using ihf _ hr2
      ·cases h
     ·cases h
   ·cases h
  ·cases h
theorem mz {tp te : TypeId} {j : TypeInfo} (a : Addr) (hp : P.underlying tp = some (.pointer te)) (hte : P.info? te = some j) (w : World) :
  (Go.binOp .eql tp (.pointer (some a)) (.pointer (some a))).run P w = .ok (.bool true) w := by
 have h : ∀ d : Nat, (Op.equalIn (d + 1) tp (.pointer (some a)) (.pointer (some a))).run P w = .ok true w := fun d => by
  simp [Op.equalIn, run_underlying hp, sizeOf, typeInfo, hte, run_sameAddr_same]
 simp only [Go.binOp]
 simp [Op.equal, Op.maxDepth, h 9999]
theorem vb (hT : TabOK P T) {t t1 t2 : TypeId} {a b : AV} {x y : Value} (hx : VR φ A S w a x) (hy : VR φ A S w b y) {r : Bool} (h : rR T t1 a t2 b = some r) {ms : Array (String × TypeId)} (ht : P.underlying t = some (.interface ms)) :
  (Op.equal t (.iface t1 x) (.iface t2 y)).run P w = .ok r w := by
 unfold Op.equal Op.maxDepth
 unfold Op.equalIn
 simp only [Sem.run_bind, aq ht, Result.andThen_ok]
 unfold rR at h
 split at h
 ·rename_i hb
  injection h with h; subst h
  have hne : t1 ≠ t2 := fun e => by subst e; rw [Nat.beq_refl] at hb; cases hb
  rw [if_pos hne]; rfl
 ·rename_i hb
  obtain rfl := Nat.eq_of_beq_eq_true hb
  split at h
  ·rename_i hq
   have hk := hT.eq _ hq
   unfold wX at hk
   simp only [Bool.and_eq_true] at hk
   cases hi : P.info? t1 with
   | none => rw [hi] at hk; simp at hk
   | some i =>
    rw [hi] at hk
    have hc : i.comparable = true := hk.2
    rw [if_neg (by simp)]
    simp only [Sem.run_bind, dr hi, Result.andThen_ok, hc, Bool.not_true, Bool.false_eq_true, if_false]
    exact qJ hT w φ A S 20 9999 t1 a b x y r (by decide) hx hy h
  ·cases h
theorem evBin_ok (hT : TabOK P T) {op : BinOp} {t : TypeId} {x y : Operand} {ex ey : Value} {a b : AV} (hx : VR φ A S w a ex) (hy : VR φ A S w b ey) {v : AV} (hv : af T op t (fg x || fg y) a b = some v) :
  ∃ u, (do eqGuard op t x y ex ey; Go.binOp op t ex ey : Sem Value).run P w = .ok u w /\ VR φ A S w v u := by
 unfold af at hv
 split at hv
 ·rename_i k n l m
  cases hx; cases hy
  rw [Sem.run_bind, jZ (by simp) (by simp), Result.andThen_ok]
  split at hv
  ·exact xA (.inl rfl) hv t w
  ·exact xA (.inr rfl) hv t w
  ·split at hv
   ·rename_i hk; subst hk; exact iop_ok hv t w
   ·cases hv
 ·cases hx with | s p q hp => cases hy with | s p' q' hp' =>
  rw [Sem.run_bind, jZ (by simp) (by simp), Result.andThen_ok]
  exact sop_ok hp hp' hv t w
 ·rename_i xs ys
  cases hx with | agg p us h1 h2 => cases hy with | agg p' us' h1' h2' =>
  have hg : T.eq t = true -> ∀ op', (eqGuard op' t x y (.agg ⟨us⟩) (.agg ⟨us'⟩)).run P w = .ok () w := by
   intro ht op'
   apply run_eqGuard_agg
   have := hT.eq t ht
   unfold wX at this
   simp only [Bool.and_eq_true, Bool.not_eq_true'] at this
   exact this.1.1.1
  split at hv
  ·rename_i ht
   cases hr : jx T 20 t (.agg xs) (.agg ys) with
   | none => rw [hr] at hv; cases hv
   | some r =>
    rw [hr] at hv; injection hv with hv; subst hv
    refine ⟨.bool r, ?_, .b _⟩
    rw [Sem.run_bind, hg ht, Result.andThen_ok, run_eql_struct, qJ hT w φ A S 20 10000 t _ _ _ _ r (by decide) (.agg _ _ h1 h2) (.agg _ _ h1' h2') hr]; rfl
  ·rename_i ht
   cases hr : jx T 20 t (.agg xs) (.agg ys) with
   | none => rw [hr] at hv; cases hv
   | some r =>
    rw [hr] at hv; injection hv with hv; subst hv
    refine ⟨.bool (!r), ?_, .b _⟩
    rw [Sem.run_bind, hg ht, Result.andThen_ok, run_neq_struct, qJ hT w φ A S 20 10000 t _ _ _ _ r (by decide) (.agg _ _ h1 h2) (.agg _ _ h1' h2') hr]; rfl
  ·cases hv
 ·rename_i p q
  cases hx; cases hy
  rw [Sem.run_bind, jZ (by simp) (by simp), Result.andThen_ok]
  split at hv
  ·rename_i ht
   have hu := hT.ty _ _ ht
   split at hv
   ·injection hv with hv; subst hv; refine ⟨.bool (p == q), ?_, .b _⟩
    show (do pure (.bool (<- Op.equal t (.bool p) (.bool q))) : Sem Value).run P w = _
    rw [Sem.run_bind, zk hu]; rfl
   ·injection hv with hv; subst hv; refine ⟨.bool (!(p == q)), ?_, .b _⟩
    show (do pure (.bool (!(<- Op.equal t (.bool p) (.bool q)))) : Sem Value).run P w = _
    rw [Sem.run_bind, zk hu]; rfl
   ·cases hv
  ·cases hv
 ·rename_i i o j p
  cases hx with | ptr _ _ hA => cases hy with | ptr _ _ hA' =>
  rw [Sem.run_bind, jZ (by simp) (by simp), Result.andThen_ok]
  split at hv
  ·rename_i te hij ht
   simp only [Bool.and_eq_true] at hij
   obtain rfl := Nat.eq_of_beq_eq_true hij.1
   obtain rfl := Nat.eq_of_beq_eq_true hij.2
   have hu := hT.ty _ _ ht
   split at hv
   ·rename_i n hn
    obtain ⟨ti, hi1, hi2⟩ := hT.sz _ _ hn
    injection hv with hv; subst hv
    exact ⟨_, mz _ hu hi1 w, .b _⟩
   ·rename_i n hn
    obtain ⟨ti, hi1, hi2⟩ := hT.sz _ _ hn
    injection hv with hv; subst hv
    exact ⟨_, Lib.run_neq_ptr_same w _ hu hi1, .b _⟩
   ·cases hv
  ·cases hv
 ·rename_i t1 a t2 b
  cases hx with | ifc _ _ x1 hx1 => cases hy with | ifc _ _ y1 hy1 =>
  rw [Sem.run_bind, jZ (by simp) (by simp), Result.andThen_ok]
  split at hv
  ·rename_i ms ht
   have hu := hT.ty _ _ ht
   split at hv
   ·cases hr : rR T t1 a t2 b with
    | none => rw [hr] at hv; cases hv
    | some r =>
     rw [hr] at hv; injection hv with hv; subst hv
     exact ⟨_, tL rfl rfl (vb hT hx1 hy1 hr hu), .b _⟩
   ·cases hr : rR T t1 a t2 b with
    | none => rw [hr] at hv; cases hv
    | some r =>
     rw [hr] at hv; injection hv with hv; subst hv
     exact ⟨_, zn rfl rfl (vb hT hx1 hy1 hr hu), .b _⟩
   ·cases hv
  ·cases hv
 ·split at hv
  ·rename_i d hc ht
   have hu := hT.ty _ _ ht
   split at hv
   ·cases hr : kf d a b with
    | none => rw [hr] at hv; cases hv
    | some r =>
     rw [hr] at hv; injection hv with hv; subst hv
     obtain ⟨n1, n2⟩ := vM hx hy hr
     rw [Sem.run_bind, qo hc n1, Result.andThen_ok]
     exact ⟨_, tL n1 n2 (vL hx hy hr hu w), .b _⟩
   ·cases hr : kf d a b with
    | none => rw [hr] at hv; cases hv
    | some r =>
     rw [hr] at hv; injection hv with hv; subst hv
     obtain ⟨n1, n2⟩ := vM hx hy hr
     rw [Sem.run_bind, qo hc n1, Result.andThen_ok]
     exact ⟨_, zn n1 n2 (vL hx hy hr hu w), .b _⟩
   ·cases hv
  ·cases hv
theorem evUn_ok {op : UnOp} {a : AV} {x : Value} (hx : VR φ A S w a x) {v : AV} (hv : ct op a = some v) : ∃ u, (Op.unary op x).run P w = .ok u w /\ VR φ A S w v u := by
 unfold ct at hv
 split at hv
 ·cases hx
  split at hv
  ·injection hv with hv; subst hv; exact ⟨_, rfl, .i _ _⟩
  ·injection hv with hv; subst hv; exact ⟨_, rfl, .i _ _⟩
  ·cases hv
 ·cases hx
  split at hv
  ·injection hv with hv; subst hv; exact ⟨_, rfl, .b _⟩
  ·cases hv
 ·cases hv
end
section
variable {P : Program} {T : Tab} (hT : TabOK P T) {B : Nat} {φ : Nat -> Nat × Nat} {A S : Nat -> Prop} {h : Tr AB} {w : World}
def OVR (φ : Nat -> Nat × Nat) (A S : Nat -> Prop) (w : World) : Option AV -> Option Value -> Prop
 | none, none => True
 | some a, some e => VR φ A S w a e
 | _, _ => False
theorem ng {y k : Nat} {a : AV} {e : Value} (he : VR φ A S w a e) (hb : bnd y (some a) = some k) (y' : Nat) (hy : y <= y') (code : BoundsCode) : (Instr.sliceBound e y' code).run P w = .ok k w /\ k <= y := by
 unfold bnd at hb
 split at hb
 ·rename_i k' n heq
  injection heq with heq; subst heq
  split at hb
  ·rename_i hn
   injection hb with hb; subst hb
   cases he
   exact ⟨run_sliceBound w _ _ _ _ hn.1 (by omega), by omega⟩
  ·cases hb
 ·cases hb
theorem eL {isS : Bool} {len c : Nat} {cap : Option Nat} (hc : ∀ x, cap = some x -> c = x) (hl : len <= c) {lo hi mx : Option AV} {elo ehi emx : Option Value}
  (h1 : OVR φ A S w lo elo) (h2 : OVR φ A S w hi ehi) (h3 : OVR φ A S w mx emx) {l r : Nat} {m : Option Nat} (hb : bU len cap lo hi mx = some (l, r, m)) :
  ∃ m', (Instr.sliceBounds isS len c elo ehi emx).run P w = .ok (l, r, m') w /\ (∀ x, m = some x -> m' = x) /\ (m = none -> m' = c /\ r <= len /\ cap = none) /\ l <= r /\ r <= m' /\ m' <= c := by
 have hg : cap.getD len <= c := by
  cases cap with
  | none => exact hl
  | some x => have := hc x rfl; simp; omega
 unfold bU at hb
 cases mx with
 | some ma =>
  cases emx with
  | none => exact h3.elim
  | some me =>
  simp only at hb
  split at hb
  ·rename_i m1 ha hm1
   split at hb
   ·rename_i r1 hr1
    split at hb
    ·rename_i l1 hl1
     injection hb with hb; simp only [Prod.mk.injEq] at hb; obtain ⟨rfl, rfl, rfl⟩ := hb
     cases ehi with
     | none => exact h2.elim
     | some he =>
     have q1 := fun code => ng (P := P) h3 hm1 c hg code
     have q2 := fun code => ng (P := P) h2 hr1 m1 (Nat.le_refl _) code
     cases lo with
     | none =>
      cases elo with
      | some e => exact h1.elim
      | none =>
      injection hl1 with hl1; subst hl1
      refine ⟨m1, ?_, fun x hx => (by injection hx), fun hx => (by cases hx), Nat.zero_le _, (q2 .sliceB).2, Nat.le_trans (q1 .sliceB).2 hg⟩
      simp [Instr.sliceBounds, (q1 _).1, (q2 _).1]
     | some la =>
      cases elo with
      | none => exact h1.elim
      | some e =>
      have q3 := fun code => ng (P := P) h1 hl1 r1 (Nat.le_refl _) code
      refine ⟨m1, ?_, fun x hx => (by injection hx), fun hx => (by cases hx), (q3 .sliceB).2, (q2 .sliceB).2, Nat.le_trans (q1 .sliceB).2 hg⟩
      simp [Instr.sliceBounds, (q1 _).1, (q2 _).1, (q3 _).1]
    ·cases hb
   ·cases hb
  ·cases hb
 | none =>
  cases emx with
  | some me => exact h3.elim
  | none =>
  simp only at hb
  split at hb
  ·rename_i r1 hr1
   split at hb
   ·rename_i l1 hl1
    injection hb with hb; simp only [Prod.mk.injEq] at hb; obtain ⟨rfl, rfl, rfl⟩ := hb
    cases hi with
    | none =>
     cases ehi with
     | some e => exact h2.elim
     | none =>
     injection hr1 with hr1; subst hr1
     cases lo with
     | none =>
      cases elo with
      | some e => exact h1.elim
      | none =>
      injection hl1 with hl1; subst hl1
      exact ⟨c, by simp [Instr.sliceBounds], hc, fun hx => ⟨rfl, Nat.le_refl _, hx⟩, Nat.zero_le _, hl, Nat.le_refl _⟩
     | some la =>
      cases elo with
      | none => exact h1.elim
      | some e =>
      have q3 := fun code => ng (P := P) h1 hl1 len (Nat.le_refl _) code
      exact ⟨c, by simp [Instr.sliceBounds, (q3 _).1], hc, fun hx => ⟨rfl, Nat.le_refl _, hx⟩, (q3 .sliceB).2, hl, Nat.le_refl _⟩
    | some ha =>
     cases ehi with
     | none => exact h2.elim
     | some he =>
     have q2 := fun code => ng (P := P) h2 hr1 c hg code
     have hrl : cap = none -> r1 <= len := fun hx => by subst hx; exact (q2 .sliceB).2
     cases lo with
     | none =>
      cases elo with
      | some e => exact h1.elim
      | none =>
      injection hl1 with hl1; subst hl1
      exact ⟨c, by simp [Instr.sliceBounds, (q2 _).1], hc, fun hx => ⟨rfl, hrl hx, hx⟩, Nat.zero_le _, Nat.le_trans (q2 .sliceB).2 hg, Nat.le_refl _⟩
     | some la =>
      cases elo with
      | none => exact h1.elim
      | some e =>
      have q3 := fun code => ng (P := P) h1 hl1 r1 (Nat.le_refl _) code
      exact ⟨c, by simp [Instr.sliceBounds, (q2 _).1, (q3 _).1], hc, fun hx => ⟨rfl, hrl hx, hx⟩, (q3 .sliceB).2, Nat.le_trans (q2 .sliceB).2 hg, Nat.le_refl _⟩
   ·cases hb
  ·cases hb
theorem bnd_le {y : Nat} {a : Option AV} {n : Nat} (h : bnd y a = some n) : n <= y := by
 unfold bnd at h
 split at h
 ·split at h
  ·rename_i k m hm; injection h with h; omega
  ·cases h
 ·cases h
theorem qT {z : Nat} : ∀ {es : List AV}, km z es = true -> ∀ e ∈ es, e.cells.length = z
 | [], _, e, he => by cases he
 | x :: es, h, e, he => by
  simp only [km, Bool.and_eq_true] at h
  rcases List.mem_cons.1 he with rfl | he
  ·exact Nat.eq_of_beq_eq_true h.1
  ·exact qT h.2 e he
theorem xe {len : Nat} {lo hi mx : Option AV} {l r m : Nat} (hb : bU len none lo hi mx = some (l, r, some m)) : r <= len := by
 unfold bU at hb
 split at hb
 ·split at hb
  ·rename_i hm
   split at hb
   ·rename_i hr
    split at hb
    ·injection hb with hb; simp only [Prod.mk.injEq, Option.some.injEq] at hb; obtain ⟨rfl, rfl, rfl⟩ := hb
     have q1 := bnd_le hm
     have q2 := bnd_le hr
     simp only [Option.getD_none] at q1
     omega
    ·cases hb
   ·cases hb
  ·cases hb
 ·split at hb
  ·split at hb
   ·injection hb with hb; simp only [Prod.mk.injEq] at hb
    obtain ⟨_, _, h⟩ := hb; cases h
   ·cases hb
  ·cases hb
theorem qC (hT : TabOK P T) {t : TypeId} {x : AV} {ex : Value} {lo hi mx : Option AV} {elo ehi emx : Option Value} (hx : VR φ A S w x ex) (h1 : OVR φ A S w lo elo) (h2 : OVR φ A S w hi ehi) (h3 : OVR φ A S w mx emx)
  {v : AV} (hv : dD T t x lo hi mx = some v) : ∃ u, (Instr.sliceAt t ex elo ehi emx).run P w = .ok u w /\ VR φ A S w v u := by
 unfold dD at hv
 split at hv
 ·rename_i s ht
  have hu := hT.ty _ _ ht
  cases hx with | s p bs hp =>
  split at hv
  ·cases hv
  ·split at hv
   ·rename_i l r m hb
    injection hv with hv; subst hv
    cases emx with
    | some e => exact h3.elim
    | none =>
    have hsz : bs.size = s.length := by rw [<- hp]; exact (Array.length_toList).symm
    have hb' : bU bs.size (some bs.size) lo hi none = some (l, r, m) := by rw [hsz]; exact hb
    obtain ⟨m', g1, _⟩ := eL (P := P) (isS := false) (c := bs.size) (fun x hx => by injection hx) (Nat.le_refl _) h1 h2 h3 hb'
    refine ⟨.string (bs.extract l r), ?_, .s _ _ (by rw [Lib.extract_data, hp])⟩
    unfold Instr.sliceAt
    simp only [Sem.run_bind, aq hu, Result.andThen_ok]
    unfold Instr.slice
    simp only [Sem.run_bind, aq hu, Result.andThen_ok, Option.isSome_none, Bool.false_eq_true, if_false, g1, Sem.run_pure]
   ·cases hv
 ·rename_i e ht
  have hu := hT.ty _ _ ht
  cases hx with | nilz _ p hp =>
  split at hv
  ·rename_i z hz
   obtain ⟨i, hi1, hi2⟩ := hT.sz _ _ hz
   split at hv
   ·rename_i l r m hb
    injection hv with hv; subst hv
    obtain ⟨m', g1, g2, g3, g4, g5, g6⟩ := eL (P := P) (isS := true) (c := 0) (fun x hx => by injection hx) (Nat.le_refl _) h1 h2 h3 hb
    obtain rfl : m' = 0 := by omega
    obtain rfl : r = 0 := by omega
    obtain rfl : l = 0 := by omega
    refine ⟨.slice p 0 0, ?_, .nilz _ p hp⟩
    unfold Instr.sliceAt
    simp only [Sem.run_bind, aq hu, Result.andThen_ok]
    unfold Instr.slice
    simp [aq hu, g1, aK hi1]
   ·cases hv
  ·cases hv
 ·rename_i e id off len cap ht
  have hu := hT.ty _ _ ht
  cases hx with | sl _ _ _ _ c q1 q2 q3 q4 =>
  split at hv
  ·rename_i z hz
   obtain ⟨i, hi1, hi2⟩ := hT.sz _ _ hz
   have run : ∀ l r m', (Instr.sliceBounds true len c elo ehi emx).run P w = .ok (l, r, m') w ->
     (Instr.sliceAt t (.slice (some ⟨(φ id).1, off, none⟩) len c) elo ehi emx).run P w = .ok (.slice (some ⟨(φ id).1, if m' = l then off else off + l * (z + 1), none⟩) (r - l) (m' - l)) w := by
    intro l r m' g1
    unfold Instr.sliceAt
    simp only [Sem.run_bind, aq hu, Result.andThen_ok]
    unfold Instr.slice
    simp only [Sem.run_bind, aq hu, Result.andThen_ok, g1, aK hi1, Sem.run_pure, hi2]
    by_cases hm : m' = l
    ·rw [if_pos hm, if_pos hm]
    ·rw [if_neg hm, if_neg hm, Option.map_some, cB]
   split at hv
   ·rename_i l r m hb
    injection hv with hv; subst hv
    obtain ⟨m', g1, g2, g3, g4, g5, g6⟩ := eL (P := P) (isS := true) q3 q2 h1 h2 h3 hb
    obtain rfl := g2 _ rfl
    refine ⟨_, run _ _ _ g1, ?_⟩
    exact .sl _ _ _ _ _ q1 (by omega) (fun x hx => by injection hx) (fun hx => by cases hx)
   ·rename_i l r hb
    obtain ⟨m', g1, g2, g3, g4, g5, g6⟩ := eL (P := P) (isS := true) q3 q2 h1 h2 h3 hb
    obtain ⟨rfl, g7, rfl⟩ := g3 rfl
    split at hv
    ·injection hv with hv; subst hv
     refine ⟨_, run _ _ _ g1, ?_⟩
     have : (if m' = 0 then off else off + 0 * (z + 1)) = off := by split <;> omega
     rw [this]
     exact .sl _ _ _ _ _ q1 (by omega) (fun x hx => by cases hx) (fun _ hx => by rw [Nat.sub_zero]; exact q4 rfl hx)
    ·rename_i l'
     split at hv
     ·rename_i hlt
      have hlt' := Nat.le_of_ble_eq_true hlt
      injection hv with hv; subst hv
      refine ⟨_, run _ _ _ g1, ?_⟩
      rw [if_neg (by omega)]
      have hne : off + (l' + 1) * (z + 1) = 0 -> m' - (l' + 1) = (φ id).2 := fun hx => by
       have h0 := Nat.mul_pos (Nat.succ_pos l') (Nat.succ_pos z)
       have h1 : l'.succ * z.succ = 0 := Nat.le_zero.1 (Nat.le_trans (Nat.le_add_left _ off) (Nat.le_of_eq hx))
       rw [h1] at h0; exact absurd h0 (Nat.lt_irrefl 0)
      exact .sl _ _ _ _ _ q1 (by omega) (fun x hx => by cases hx) (fun _ hx => hne hx)
     ·rename_i hge
      have hge' : ¬ l'.succ + 1 <= len := fun q => by rw [Nat.ble_eq_true_of_le q] at hge; cases hge
      injection hv with hv; subst hv
      refine ⟨_, run _ _ _ g1, ?_⟩
      rw [show r - l'.succ = 0 by omega]
      exact .lst0 _ _
   ·cases hv
  ·cases hv
 ·rename_i e es ht
  have hu := hT.ty _ _ ht
  obtain ⟨p, c, z', rfl, hlc, hz', hid, hes⟩ := hx.lst_inv
  split at hv
  ·rename_i z hz
   obtain ⟨i, hi1, hi2⟩ := hT.sz _ _ hz
   have run : ∀ l r m', (Instr.sliceBounds true es.length c elo ehi emx).run P w = .ok (l, r, m') w ->
     (Instr.sliceAt t (.slice p es.length c) elo ehi emx).run P w = .ok (.slice (if m' = l then p else p.map (·.add (l * (z + 1)))) (r - l) (m' - l)) w := by
    intro l r m' g1
    unfold Instr.sliceAt
    simp only [Sem.run_bind, aq hu, Result.andThen_ok]
    unfold Instr.slice
    simp only [Sem.run_bind, aq hu, Result.andThen_ok, g1, aK hi1, Sem.run_pure, hi2]
   have part : ∀ l r m', l <= r -> r <= es.length -> r <= m' -> m' <= c -> km (z + 1) es = true -> VR φ A S w (.lst ((es.drop l).take (r - l))) (.slice (if m' = l then p else p.map (·.add (l * (z + 1)))) (r - l) (m' - l)) := by
    intro l r m' k1 k2 k3 k4 hall
    have hz2 := qT hall
    have hlen : r - l = ((es.drop l).take (r - l)).length := by rw [List.length_take, List.length_drop]; omega
    rcases hes with rfl | ⟨b, o, vs, rfl, hS, hvs, hcell⟩
    ·obtain rfl : r = 0 := by simpa using k2
     obtain rfl : l = 0 := by omega
     exact .lst0 _ _
    ·have hsub : ∀ e ∈ (es.drop l).take (r - l), e.cells.length = z + 1 := fun e he => hz2 e (List.mem_of_mem_drop (List.mem_of_mem_take he))
     have hfl : aJ ((es.drop l).take (r - l)) = ((aJ es).drop (l * (z + 1))).take ((r - l) * (z + 1)) := by rw [lj _ hz2, qA _ (fun e he => hz2 e (List.mem_of_mem_drop he))]
     by_cases hm : m' = l
     ·rw [if_pos hm]
      obtain rfl : r = l := by omega
      have he : (es.drop r).take (r - r) = [] := by rw [Nat.sub_self]; rfl
      rw [he]
      exact VR.lst_mk (z := 0) (vs := []) (by simp) (by omega) (fun e he => by cases he) rfl hS VRs.nil (fun j v hv => by simp at hv)
     ·rw [if_neg hm, Option.map_some, cB]
      refine VR.lst_mk hlen (by omega) hsub (by rw [hfl]; exact lS _ (iY _ hid)) hS (vs := ((vs.drop (l * (z + 1))).take ((r - l) * (z + 1)))) (by rw [hfl]; exact (hvs.drop _).take _) (fun j v hv => ?_)
      rw [List.getElem?_take] at hv
      split at hv
      ·rw [List.getElem?_drop] at hv
       rw [Nat.add_assoc]; exact hcell _ _ hv
      ·cases hv
   split at hv
   ·rename_i l r m hb
    obtain ⟨m', g1, g2, g3, g4, g5, g6⟩ := eL (P := P) (isS := true) (fun x hx => by cases hx) hlc h1 h2 h3 hb
    obtain rfl := g2 _ rfl
    split at hv
    ·rename_i hml
     have hml' := Nat.eq_of_beq_eq_true hml
     injection hv with hv; subst hv
     refine ⟨_, run _ _ _ g1, ?_⟩
     obtain rfl : m' = l := hml'
     obtain rfl : r = m' := by omega
     rw [Nat.sub_self]
     exact .nilz _ _ (fun h => by cases h)
    ·split at hv
     ·rename_i hall
      injection hv with hv; subst hv
      exact ⟨_, run _ _ _ g1, part l r m' (by omega) (xe hb) (by omega) (by omega) hall⟩
     ·cases hv
   ·rename_i l r hb
    obtain ⟨m', g1, g2, g3, g4, g5, g6⟩ := eL (P := P) (isS := true) (fun x hx => by cases hx) hlc h1 h2 h3 hb
    obtain ⟨rfl, g7, _⟩ := g3 rfl
    split at hv
    ·rename_i hall
     injection hv with hv; subst hv
     exact ⟨_, run _ _ _ g1, part l r m' (by omega) g7 (by omega) (by omega) hall⟩
    ·cases hv
   ·cases hv
  ·cases hv
 ·rename_i n e id off ht
  have hu := hT.ty _ _ ht
  cases hx with | ptr _ _ q1 =>
  split at hv
  ·rename_i z hz
   obtain ⟨i, hi1, hi2⟩ := hT.sz _ _ hz
   split at hv
   ·rename_i l r m hb
    injection hv with hv; subst hv
    obtain ⟨m', g1, g2, g3, g4, g5, g6⟩ := eL (P := P) (isS := false) (c := n) (fun x hx => by injection hx) (Nat.le_refl _) h1 h2 h3 hb
    obtain rfl := g2 _ rfl
    refine ⟨.slice (some ⟨(φ id).1, if m' = l then off else off + l * (z + 1), none⟩) (r - l) (m' - l), ?_, .sl _ _ _ _ _ q1 (by omega) (fun x hx => by injection hx) (fun hx => by cases hx)⟩
    unfold Instr.sliceAt
    simp only [Sem.run_bind, aq hu, Result.andThen_ok, Instr.sureAddr, Sem.run_pure, g1, aK hi1, hi2]
    by_cases hm : m' = l
    ·rw [if_pos hm, if_pos hm]
    ·rw [if_neg hm, if_neg hm, cB]
   ·cases hv
  ·cases hv
 ·cases hv
def CellsAt (φ : Nat -> Nat × Nat) (A S : Nat -> Prop) (w : World) (b o : Nat) (cs : List AV) : Prop := ∃ vs, VRs φ A S w cs vs /\ ∀ (j : Nat) (v : Value), vs[j]? = some v -> w.cell? ⟨b, o + j, none⟩ = some v
theorem CellsAt.take {b o : Nat} {cs : List AV} (hc : CellsAt φ A S w b o cs) (n : Nat) : CellsAt φ A S w b o (cs.take n) := by
 obtain ⟨vs, h1, h2⟩ := hc
 refine ⟨vs.take n, h1.take n, fun j v hv => h2 j v ?_⟩
 rw [List.getElem?_take] at hv
 split at hv
 ·exact hv
 ·cases hv
theorem CellsAt.drop {b o : Nat} {cs : List AV} (hc : CellsAt φ A S w b o cs) (n : Nat) : CellsAt φ A S w b (o + n) (cs.drop n) := by
 obtain ⟨vs, h1, h2⟩ := hc
 refine ⟨vs.drop n, h1.drop n, fun j v hv => ?_⟩
 rw [List.getElem?_drop] at hv
 rw [Nat.add_assoc]; exact h2 _ v hv
theorem CellsAt.load {b o : Nat} {cs : List AV} (hc : CellsAt φ A S w b o cs) : ∃ vs, VRs φ A S w cs vs /\ (loadCells ⟨b, o, none⟩ cs.length).run P w = .ok vs.toArray w := by
 obtain ⟨vs, h1, h2⟩ := hc
 refine ⟨vs, h1, ?_⟩
 rw [<- h1.1]
 exact run_loadCells_list w _ vs (fun j v hv => by rw [cB]; exact h2 j v hv)
theorem kR {b o : Nat} {C : List Value} {e : Nat} {fz : Nat × Nat} (hb : w.heap[b]? = some (.cells ⟨C⟩ e fz)) : w.cell? ⟨b, o, none⟩ = C[o]? := by
 simp [World.cell?, hb]
theorem iI {id : Nat} {cs : List AV} {e : Nat} {g : Bool} (hb : BR P φ A S w id (.cells cs e g)) : CellsAt φ A S w (φ id).1 0 cs := by
 obtain ⟨C, fz, h1, h2, h3, h4, h5⟩ := hb
 refine ⟨C.take cs.length, h4, fun j v hv => ?_⟩
 rw [Nat.zero_add, kR h1]
 rw [List.getElem?_take] at hv
 split at hv
 ·exact hv
 ·cases hv
theorem rL (inv : Has P φ A S h w) {a : AV} {x : Value} (hx : VR φ A S w a x) {cs : List AV} (hl : gY h a = some cs) : ∃ b o, x = .pointer (some ⟨b, o, none⟩) /\ CellsAt φ A S w b o cs := by
 unfold gY at hl
 split at hl
 ·rename_i id off
  split at hl
  ·rename_i cs0 e g hb
   split at hl
   ·injection hl with hl; subst hl
    cases hx
    exact ⟨_, _, rfl, by have := (iI (inv _ _ hb)).drop off; rwa [Nat.zero_add] at this⟩
   ·cases hl
  ·cases hl
 ·injection hl with hl; subst hl
  cases hx with | iptr _ vs b o h1 h2 h3 h4 =>
  exact ⟨b, o, rfl, vs, ⟨h1, h4⟩, h3⟩
 ·cases hl
theorem lH (hT : TabOK P T) {t : TypeId} {b o : Nat} {cs : List AV} (hc : CellsAt φ A S w b o cs) {v : AV} (hv : aD T t cs = some v) : ∃ u, (loadVar t ⟨b, o, none⟩).run P w = .ok u w /\ VR φ A S w v u := by
 unfold aD at hv
 split at hv
 ·rename_i d ht
  have hu := hT.ty _ _ ht
  unfold loadVar
  simp only [Sem.run_bind, pM hu, Result.andThen_ok]
  split at hv
  ·rename_i hd
   split at hv
   ·rename_i n hn
    obtain ⟨i, hi1, hi2⟩ := hT.sz _ _ hn
    cases hk : cC n cs with
    | none => rw [hk] at hv; cases hv
    | some ds =>
     rw [hk] at hv; injection hv with hv; subst hv
     obtain ⟨k1, rfl⟩ := eB hk
     obtain ⟨vs, g1, g2⟩ := (hc.take n).load (P := P)
     have hl : (cs.take n).length = n := by simp [k1]
     rw [hl] at g2
     refine ⟨.agg ⟨vs⟩, ?_, .agg _ _ g1.1 g1.2⟩
     rw [hd, if_pos rfl]
     simp only [Sem.run_bind, aK hi1, Result.andThen_ok, hi2, g2, Sem.run_pure]
   ·cases hv
  ·rename_i hd
   rw [hd]
   obtain ⟨vs, g1, g2⟩ := hc
   have hv' : cs[0]? = some v := by rw [<- hv, List.head?_eq_getElem?]
   obtain ⟨u, k1, k2⟩ := g1.at hv'
   refine ⟨u, ?_, k2⟩
   have := g2 0 u k1
   simp only [Bool.false_eq_true, if_false, run_load, Nat.add_zero] at this |-
   rw [this]
 ·cases hv
theorem fy (inv : Has P φ A S h w) {a : AV} {x : Value} (hx : VR φ A S w a x) {n : Nat} {cs : List AV} (hl : ba h n a = some cs) :
  (∃ p c, x = .slice p 0 c /\ cs = [] /\ n = 0) ∨ ∃ b o l c, x = .slice (some ⟨b, o, none⟩) l c /\ cs.length = n /\ CellsAt φ A S w b o cs := by
 unfold ba at hl
 split at hl
 ·split at hl
  ·injection hl with hl; subst hl; cases hx; exact .inl ⟨_, _, rfl, rfl, rfl⟩
  ·cases hl
 ·rename_i id off l c
  split at hl
  ·rename_i cs0 e g hb
   obtain ⟨k1, rfl⟩ := eB hl
   cases hx with | sl _ _ _ _ c' q1 q2 q3 q4 =>
   refine .inr ⟨_, _, _, _, rfl, by rw [List.length_take]; omega, ?_⟩
   have := ((iI (inv _ _ hb)).drop off).take n
   rwa [Nat.zero_add] at this
  ·cases hl
 ·obtain ⟨k1, rfl⟩ := eB hl
  obtain ⟨p, c, z', rfl, hlc, hz', hid, rfl | ⟨b, o, vs, rfl, hS, hvs, hcell⟩⟩ := hx.lst_inv
  ·have : n = 0 := by simpa [aJ] using k1
   subst this
   exact .inl ⟨p, c, rfl, rfl, rfl⟩
  ·exact .inr ⟨_, _, _, _, rfl, by rw [List.length_take]; omega, CellsAt.take ⟨vs, hvs, hcell⟩ n⟩
 ·cases hl
theorem eC (inv : Has P φ A S h w) {a : AV} {x : Value} (hx : VR φ A S w a x) {z n : Nat} {cs : List AV} (hl : bG h z n a = some cs) :
  ∃ vs, VRs φ A S w cs vs /\ (Builtin.firstCells z n x).run P w = .ok vs.toArray w := by
 unfold bG at hl
 split at hl
 ·rename_i s
  split at hl
  case h_2 => cases hl
  injection hl with hl; subst hl
  cases hx with | s _ t ht =>
  refine ⟨(s.take n).map fun b => .int .u8 b.toNat, ⟨by simp, fun j c v h1 h2 => ?_⟩, ?_⟩
  ·rw [List.getElem?_map] at h1 h2
   cases hq : (s.take n)[j]? with
   | none => rw [hq] at h1; cases h1
   | some q => rw [hq] at h1 h2; injection h1 with h1; injection h2 with h2; subst h1; subst h2; exact .i _ _
  ·unfold Builtin.firstCells
   have e1 : (t.extract 0 n).data = (s.take n).toArray := Array.toList_inj.1 (by rw [Lib.extract_data, ht]; simp)
   show Result.ok ((t.extract 0 n).data.map fun b => Value.int .u8 b.toNat) w = _
   rw [e1]; simp
 ·rename_i a' _
  rcases fy inv hx hl with ⟨p, c, rfl, rfl, h0⟩ | ⟨b, o, l, c, rfl, hlen, hc⟩
  ·refine ⟨[], VRs.nil, ?_⟩
   unfold Builtin.firstCells
   cases p with
   | none => rfl
   | some a =>
    show (loadCells a (n * z)).run P w = _
    rw [h0]; rfl
  ·obtain ⟨vs, g1, g2⟩ := hc.load (P := P)
   refine ⟨vs, g1, ?_⟩
   unfold Builtin.firstCells
   rw [<- hlen]; exact g2
theorem lp : ∀ {cs : List AV} {vs : List Value} {bs : List UInt8}, VRs φ A S w cs vs -> bytesOf cs = some bs -> ∃ ns : List Int, vs = ns.map (fun n => Value.int .u8 n) /\ bs = ns.map (fun n => UInt8.ofNat n.toNat)
 | [], vs, bs, hv, hb => by
  injection hb with hb; subst hb
  have := hv.1; cases vs with
  | nil => exact ⟨[], rfl, rfl⟩
  | cons v vs => simp at this
 | c :: cs, vs, bs, hv, hb => by
  unfold bytesOf at hb
  split at hb
  ·rename_i heq; cases heq
  ·rename_i n cs' heq
   injection heq with h1 h2; subst h1; subst h2
   cases hk : bytesOf cs with
   | none => rw [hk] at hb; cases hb
   | some bs' =>
    rw [hk] at hb; injection hb with hb; subst hb
    cases vs with
    | nil => have := hv.1; simp at this
    | cons v vs =>
     have hv0 := hv.2 0 _ v rfl rfl
     cases hv0
     have htl : VRs φ A S w cs vs := ⟨by have := hv.1; simpa using this, fun j c' v' h1 h2 => hv.2 (j + 1) c' v' (by simpa using h1) (by simpa using h2)⟩
     obtain ⟨ns, rfl, rfl⟩ := lp htl hk
     exact ⟨n :: ns, rfl, rfl⟩
  ·cases hb
theorem dc (w : World) (s e : TypeId) (hs : P.underlying s = some (.slice e)) (he : P.underlying e = some (.int .u8)) (p : Option Addr) (c : Nat) (d : TypeId) (hd : P.underlying d = some .string) :
  (convert s d (.slice p 0 c)).run P w = .ok (.string ByteArray.empty) w := by
 cases p with
 | none => exact run_convert_bytes_nil w s e hs he 0 c d hd
 | some a =>
  rw [run_convert_bytes_string w s d e _ 0 c hs he hd, run_bytesToString w a 0 c [] rfl]
  rfl
theorem zQ {u count : Nat} (hz : P.cellsOf u ≠ 0) (hc : 1 <= count) : liesAt P P.depth u count 0 u 1 = true := by
 have hd : P.depth = (2 * (P.types.size + Made.depth) + 1) + 1 := rfl
 rw [hd]
 simp only [liesAt, Bool.or_eq_true]
 left
 rw [hd]
 simp [rowAt, hz, hc, sameLayout]
theorem sD {id : Nat} {cs : List AV} {e : Nat} {g : Bool} (hb : BR P φ A S w id (.cells cs e g)) : ∃ n, w.shape? (φ id).1 = some (e, n) /\ cs.length <= n := by
 obtain ⟨C, fz, h1, h2, h3, h4, h5⟩ := hb
 exact ⟨C.length, by simp [World.shape?, h1], h3⟩
theorem Ah (hT : TabOK P T) (inv : Has P φ A S h w) {s d : TypeId} {a : AV} {x : Value} (hx : VR φ A S w a x) {v : AV} (hv : cH T h s d a = some v) : ∃ u, (convert s d x).run P w = .ok u w /\ VR φ A S w v u := by
 unfold cH at hv
 split at hv
 ·rename_i t id h1 h2
  cases hx with | ptr _ _ hA =>
  split at hv
  ·rename_i c cs e g n hg hz
   injection hv with hv; subst hv
   obtain ⟨i, hi1, hi2⟩ := hT.sz _ _ hz
   obtain ⟨m, hm1, hm2⟩ := sD (inv _ _ hg)
   refine ⟨_, Lib.run_to_unsafe w _ (hT.ty _ _ h1) (hT.ty _ _ h2) hi1 (by rw [hi2]; exact Nat.succ_ne_zero _) hm1 ?_, .ptr _ _ hA⟩
   simp at hm2
   show 0 < m
   omega
  ·cases hv
 ·rename_i u id h1 h2
  cases hx with | ptr _ _ hA =>
  split at hv
  ·rename_i cs e g z hg hz
   split at hv
   ·rename_i hc
    simp only [Bool.and_eq_true] at hc
    obtain rfl := Nat.eq_of_beq_eq_true hc.1
    have hle := Nat.le_of_ble_eq_true hc.2
    injection hv with hv; subst hv
    obtain ⟨i, hi1, hi2⟩ := hT.sz _ _ hz
    obtain ⟨m, hm1, hm2⟩ := sD (inv _ _ hg)
    have hcl : P.cellsOf e = z + 1 := by simp [Program.cellsOf, hi1, hi2]
    refine ⟨_, Lib.run_from_unsafe w _ (hT.ty _ _ h1) (hT.ty _ _ h2) hi1 hm1 (zQ (by rw [hcl]; exact Nat.succ_ne_zero _) ?_), .ptr _ _ hA⟩
    rw [hcl]
    exact (Nat.one_le_div_iff (Nat.succ_pos _)).2 (by omega)
   ·cases hv
  ·cases hv
 ·rename_i ds k k' n h1 h2
  injection hv with hv; subst hv
  cases hx
  refine ⟨_, ?_, .i _ _⟩
  unfold convert
  simp only [Sem.run_bind, aq (hT.ty _ _ h1), aq (hT.ty _ _ h2), Result.andThen_ok]
  cases ds <;> rfl
 ·rename_i ds t h1 h2
  injection hv with hv; subst hv
  cases hx with | s _ t ht =>
  refine ⟨.string t, ?_, .s _ _ ht⟩
  unfold convert
  simp only [Sem.run_bind, aq (hT.ty _ _ h1), aq (hT.ty _ _ h2), Result.andThen_ok]
  cases ds <;> rfl
 ·rename_i e h1 h2 _
  split at hv
  ·rename_i he
   have body : ∀ (cs : List AV) (bs : List UInt8) (b o l c : Nat), CellsAt φ A S w b o cs -> cs.length = l -> bytesOf cs = some bs ->
     ∃ u, (convert s d (.slice (some ⟨b, o, none⟩) l c)).run P w = .ok u w /\ VR φ A S w (.s bs) u := by
    intro cs bs b o l c hc hl hb
    obtain ⟨vs, g1, g2⟩ := hc.load (P := P)
    obtain ⟨ns, rfl, rfl⟩ := lp g1 hb
    rw [hl] at g2
    refine ⟨.string (ns.foldl (fun r n => r.push (UInt8.ofNat n.toNat)) ByteArray.empty), ?_, .s _ _ ?_⟩
    ·rw [run_convert_bytes_string w s d e _ l c (hT.ty _ _ h1) (hT.ty _ _ he) (hT.ty _ _ h2), run_bytesToString w _ l c ns g2]
    ·rw [foldl_push_bytes]
     show (ByteArray.empty.data ++ (ns.map fun n => UInt8.ofNat n.toNat).toArray).toList = _
     rw [Array.toList_append]
     show [] ++ _ = _
     rw [List.nil_append]
   split at hv
   ·injection hv with hv; subst hv
    cases hx
    exact ⟨_, dc w s e (hT.ty _ _ h1) (hT.ty _ _ he) _ _ d (hT.ty _ _ h2), .s _ _ rfl⟩
   ·split at hv
    ·rename_i cs hcs
     cases hk : bytesOf cs with
     | none => rw [hk] at hv; cases hv
     | some bs =>
      rw [hk] at hv; injection hv with hv; subst hv
      rcases fy inv hx hcs with ⟨p, c, rfl, rfl, h0⟩ | ⟨b, o, l, c, rfl, hlen, hc⟩
      ·injection hk with hk; subst hk
       exact ⟨_, dc w s e (hT.ty _ _ h1) (hT.ty _ _ he) p c d (hT.ty _ _ h2), .s _ _ rfl⟩
      ·have : l = cs.length := by cases hx <;> first | exact hlen.symm | (simp at hlen; exact hlen.symm)
       exact body cs bs b o l c hc this.symm hk
    ·cases hv
   ·split at hv
    ·rename_i cs hcs
     cases hk : bytesOf cs with
     | none => rw [hk] at hv; cases hv
     | some bs =>
      rw [hk] at hv; injection hv with hv; subst hv
      rcases fy inv hx hcs with ⟨p, c, rfl, rfl, h0⟩ | ⟨b, o, l, c, rfl, hlen, hc⟩
      ·injection hk with hk; subst hk
       exact ⟨_, dc w s e (hT.ty _ _ h1) (hT.ty _ _ he) p c d (hT.ty _ _ h2), .s _ _ rfl⟩
      ·have : l = cs.length := by cases hx <;> first | exact hlen.symm | (simp at hlen; exact hlen.symm)
       exact body cs bs b o l c hc this.symm hk
    ·cases hv
   ·cases hv
  ·cases hv
 ·cases hv
theorem qI (hT : TabOK P T) {t : TypeId} {a i : AV} {x ix : Value} (hx : VR φ A S w a x) (hi : VR φ A S w i ix) {v : AV} (hv : ai T t a i = some v) : ∃ u, (Instr.indexAt t x ix).run P w = .ok u w /\ VR φ A S w v u := by
 unfold ai at hv
 split at hv
 ·rename_i k n
  cases hi
  split at hv
  ·rename_i e id off len cap ht
   have hu := hT.ty _ _ ht
   cases hx with | sl _ _ _ _ c q1 q2 q3 q4 =>
   split at hv
   ·rename_i z hz
    obtain ⟨i, hi1, hi2⟩ := hT.sz _ _ hz
    split at hv
    ·rename_i hn
     injection hv with hv; subst hv
     refine ⟨_, ?_, .ptr _ _ q1⟩
     unfold Instr.indexAt
     simp [asIntOf, aq hu, hn, aK hi1, hi2, cB]
    ·cases hv
   ·cases hv
  ·rename_i e es ht
   have hu := hT.ty _ _ ht
   obtain ⟨p, c, z', rfl, hlc, hz', hid, hes⟩ := hx.lst_inv
   split at hv
   ·rename_i z hz
    obtain ⟨i, hi1, hi2⟩ := hT.sz _ _ hz
    split at hv
    ·rename_i hn
     split at hv
     ·rename_i y hy
      split at hv
      ·rename_i hyz
       have hyz' := Nat.eq_of_beq_eq_true hyz
       injection hv with hv; subst hv
       have hzz : z' = z := by rw [<- hz' y (List.mem_of_getElem? hy), hyz']
       subst hzz
       rcases hes with rfl | ⟨b, o, vs, rfl, hS, hvs, hcell⟩
       ·simp at hy
       ·obtain ⟨ws, r1, r2⟩ := (CellsAt.drop (⟨vs, hvs, hcell⟩ : CellsAt φ A S w b o (aJ es)) (n.toNat * z')).take z'
        rw [flatA_at hz' hy] at r1
        refine ⟨_, ?_, .iptr _ ws b (o + n.toNat * z') r1.1 hS r2 r1.2⟩
        unfold Instr.indexAt
        simp [asIntOf, aq hu, hn, aK hi1, hi2, cB]
      ·cases hv
     ·cases hv
    ·cases hv
   ·cases hv
  ·rename_i len e id off ht
   have hu := hT.ty _ _ ht
   cases hx with | ptr _ _ q1 =>
   split at hv
   ·rename_i z hz
    obtain ⟨i, hi1, hi2⟩ := hT.sz _ _ hz
    split at hv
    ·rename_i hn
     injection hv with hv; subst hv
     refine ⟨_, ?_, .ptr _ _ q1⟩
     unfold Instr.indexAt
     simp [asIntOf, aq hu, hn, aK hi1, hi2, cB, Instr.sureAddr]
    ·cases hv
   ·cases hv
  ·rename_i len e cs ht
   have hu := hT.ty _ _ ht
   cases hx with | iptr _ vs b o q1 q2 q3 q4 =>
   split at hv
   ·rename_i z hz
    obtain ⟨i, hi1, hi2⟩ := hT.sz _ _ hz
    split at hv
    ·rename_i hn
     injection hv with hv; subst hv
     obtain ⟨ws, r1, r2⟩ := CellsAt.drop ⟨vs, ⟨q1, q4⟩, q3⟩ (n.toNat * z)
     refine ⟨_, ?_, .iptr _ ws b (o + n.toNat * z) r1.1 q2 r2 r1.2⟩
     unfold Instr.indexAt
     simp [asIntOf, aq hu, hn, aK hi1, hi2, cB, Instr.sureAddr]
    ·cases hv
   ·cases hv
  ·cases hv
 ·cases hv
theorem wU (hT : TabOK P T) {t : TypeId} {a i : AV} {x ix : Value} (hx : VR φ A S w a x) (hi : VR φ A S w i ix) {v : AV} (hv : bT T t a i = some v) : ∃ u, (Instr.index t x ix).run P w = .ok u w /\ VR φ A S w v u := by
 unfold bT at hv
 split at hv
 ·rename_i k n
  cases hi
  split at hv
  ·rename_i s ht
   have hu := hT.ty _ _ ht
   cases hx with | s _ b hb =>
   split at hv
   ·rename_i hn
    cases hq : s[n.toNat]? with
    | none => rw [hq] at hv; cases hv
    | some c =>
     rw [hq] at hv; injection hv with hv; subst hv
     refine ⟨_, ?_, .i _ _⟩
     have hb' : b[n.toNat]? = some c := by
      obtain ⟨⟨l⟩⟩ := b
      simp only at hb; subst hb
      have hlt := (List.getElem?_eq_some_iff.1 hq)
      obtain ⟨h1, h2⟩ := hlt
      exact (dif_pos (show n.toNat < (⟨⟨l⟩⟩ : ByteArray).size from h1)).trans (congrArg some h2)
     unfold Instr.index
     simp [asIntOf, aq hu, hn, hb']
   ·cases hv
  ·rename_i len e cs ht
   have hu := hT.ty _ _ ht
   cases hx with | agg _ vs q1 q2 =>
   split at hv
   ·rename_i z hz
    obtain ⟨i, hi1, hi2⟩ := hT.sz _ _ hz
    split at hv
    ·rename_i hn
     obtain ⟨u, k1, k2⟩ := dR hT ⟨q1, q2⟩ hv
     refine ⟨u, ?_, k2⟩
     unfold Instr.index
     simp [asIntOf, aq hu, hn, aK hi1, hi2, k1]
    ·cases hv
   ·cases hv
  ·cases hv
 ·cases hv
end
end Go.Proofs.YtmfhmlhaofpeiaaGreatDoor.Ev
