/- The evaluator, a part of it. This session's own text. -/
import Derived.Test.YtmfhmlhaofpeiaaGreatDoorEv2
import Derived.Lib.Bytealg
namespace Go.Proofs.YtmfhmlhaofpeiaaGreatDoor.Ev
set_option linter.unusedVariables false
set_option linter.unusedSimpArgs false
open Go Go.RowKit
theorem qZ : ∀ {cs : List AV} {j : Nat} {c : AV}, AV.flat.flats cs = true -> cs[j]? = some c -> c.flat = true
 | [], j, c, _, h => by simp at h
 | d :: cs, 0, c, hi, h => by
  simp at h; subst h
  simp only [AV.flat.flats, Bool.and_eq_true] at hi; exact hi.1
 | d :: cs, j + 1, c, hi, h => by
  simp only [AV.flat.flats, Bool.and_eq_true] at hi
  exact qZ hi.2 (by simpa using h)
section
variable {P : Program} {T : Tab} {B : Nat} {φ φ' : Nat -> Nat × Nat} {A A' S S' : Nat -> Prop} {w w' : World}
theorem VR.idfree {a : AV} {v : Value} (h : VR φ A S w a v) : a.idfree = true -> ∀ (φ' : Nat -> Nat × Nat) (A' : Nat -> Prop), VR φ' A' S w a v := by
 induction h with
 | b x => exact fun _ _ _ => .b x
 | i k n => exact fun _ _ _ => .i k n
 | s x t e => exact fun _ _ _ => .s x t e
 | ptr id off h => exact fun q => by simp [AV.idfree] at q
 | iptr cs vs b o h1 h2 h3 _ ih => exact fun q φ' A' => .iptr cs vs b o h1 h2 h3 (fun j c v hc hv => ih j c v hc hv (cT (by simpa [AV.idfree] using q) hc) φ' A')
 | nilp => exact fun _ _ _ => .nilp
 | sl id off len cap c h1 h2 h3 h4 => exact fun q => by simp [AV.idfree] at q
 | lst es vs b o z c h1 h2 h3 _ h5 h6 h7 ih => exact fun _ φ' A' => .lst es vs b o z c h1 h2 h3 (fun j c v hc hv => ih j c v hc hv (cT h6 hc) φ' A') h5 h6 h7
 | lst0 p c => exact fun _ _ _ => .lst0 p c
 | nilz t p h => exact fun _ _ _ => .nilz t p h
 | fn f fs cs us vs h1 h2 _ _ ih1 ih2 =>
  intro q φ' A'
  simp only [AV.idfree, Bool.and_eq_true] at q
  exact .fn f fs cs us vs h1 h2 (fun j c v hc hv => ih1 j c v hc hv (cT q.1 hc) φ' A') (fun j c v hc hv => ih2 j c v hc hv (cT q.2 hc) φ' A')
 | nilf => exact fun _ _ _ => .nilf
 | ifc t a v _ ih => exact fun q φ' A' => .ifc t a v (ih (by simpa [AV.idfree] using q) φ' A')
 | nili => exact fun _ _ _ => .nili
 | agg cs vs h1 _ ih => exact fun q φ' A' => .agg cs vs h1 (fun j c v hc hv => ih j c v hc hv (cT (by simpa [AV.idfree] using q) hc) φ' A')
 | tup cs vs h1 _ ih => exact fun q φ' A' => .tup cs vs h1 (fun j c v hc hv => ih j c v hc hv (cT (by simpa [AV.idfree] using q) hc) φ' A')
 | mp id h => exact fun q => by simp [AV.idfree] at q
 | nilm => exact fun _ _ _ => .nilm
theorem VR.flat {a : AV} {v : Value} (h : VR φ A S w a v) : a.flat = true -> ∀ (φ' : Nat -> Nat × Nat) (A' S' : Nat -> Prop) (w' : World), VR φ' A' S' w' a v := by
 induction h with
 | b x => exact fun _ _ _ _ _ => .b x
 | i k n => exact fun _ _ _ _ _ => .i k n
 | s x t e => exact fun _ _ _ _ _ => .s x t e
 | ptr id off h => exact fun q => by simp [AV.flat] at q
 | iptr cs vs b o h1 h2 h3 _ ih => exact fun q => by simp [AV.flat] at q
 | nilp => exact fun _ _ _ _ _ => .nilp
 | sl id off len cap c h1 h2 h3 h4 => exact fun q => by simp [AV.flat] at q
 | lst es vs b o z c h1 h2 h3 _ h5 h6 h7 ih =>
  intro q φ' A' S' w'
  cases es with
  | nil => exact .lst0 _ _
  | cons e es => simp [AV.flat] at q
 | lst0 p c => exact fun _ _ _ _ _ => .lst0 p c
 | nilz t p h => exact fun _ _ _ _ _ => .nilz t p h
 | fn f fs cs us vs h1 h2 _ _ ih1 ih2 => exact fun q => by simp [AV.flat] at q
 | nilf => exact fun _ _ _ _ _ => .nilf
 | ifc t a v _ ih => exact fun q φ' A' S' w' => .ifc t a v (ih (by simpa [AV.flat] using q) φ' A' S' w')
 | nili => exact fun _ _ _ _ _ => .nili
 | agg cs vs h1 _ ih => exact fun q φ' A' S' w' => .agg cs vs h1 (fun j c v hc hv => ih j c v hc hv (qZ (by simpa [AV.flat] using q) hc) φ' A' S' w')
 | tup cs vs h1 _ ih => exact fun q φ' A' S' w' => .tup cs vs h1 (fun j c v hc hv => ih j c v hc hv (qZ (by simpa [AV.flat] using q) hc) φ' A' S' w')
 | mp id h => exact fun q => by simp [AV.flat] at q
 | nilm => exact fun _ _ _ _ _ => .nilm
theorem VRs.idfree {as : List AV} {vs : List Value} (h : VRs φ A S w as vs) (hi : AV.idfree.idfrees as = true) (φ' : Nat -> Nat × Nat) (A' : Nat -> Prop) : VRs φ' A' S w as vs := ⟨h.1, fun j c v hc hv => (h.2 j c v hc hv).idfree (cT hi hc) φ' A'⟩
theorem VR.wider (hS : ∀ b, S b -> S' b) {a : AV} {v : Value} (h : VR φ A S w a v) : VR φ A S' w a v := h.mono (fun _ _ => rfl) (fun _ h => h) hS (fun _ _ _ _ h => h)
theorem VRs.wider (hS : ∀ b, S b -> S' b) {a : List AV} {v : List Value} (h : VRs φ A S w a v) : VRs φ A S' w a v := h.mono (fun _ _ => rfl) (fun _ h => h) hS (fun _ _ _ _ h => h)
theorem xg {c : AV} (h : c.leaf = true) : c.cells = [c] := by cases c <;> first | rfl | (simp [AV.leaf] at h)
theorem fh : ∀ (cs : List AV), (AV.norm.norms cs).length = cs.length
 | [] => rfl
 | c :: cs => by simp [AV.norm.norms, fh cs]
theorem qH : ∀ (cs : List AV) (j : Nat), (AV.norm.norms cs)[j]? = (cs[j]?).map AV.norm
 | [], j => by simp [AV.norm.norms]
 | c :: cs, 0 => by simp [AV.norm.norms]
 | c :: cs, j + 1 => by simp [AV.norm.norms, qH cs j]
theorem VR.norm {a : AV} {v : Value} (h : VR φ A S w a v) : VR φ A S w a.norm v := by
 have go : ∀ {cs : List AV} {vs : List Value}, (∀ (j : Nat) (c : AV) (v : Value), cs[j]? = some c -> vs[j]? = some v -> VR φ A S w c.norm v) -> ∀ (j : Nat) (c : AV) (v : Value), (AV.norm.norms cs)[j]? = some c -> vs[j]? = some v -> VR φ A S w c v := by
  intro cs vs ih j c v hc hv
  rw [qH, Option.map_eq_some_iff] at hc
  obtain ⟨d, hd, rfl⟩ := hc
  exact ih j d v hd hv
 induction h with
 | b x => exact .b x
 | i k n => exact .i k n
 | s x t e => exact .s x t e
 | ptr id off h => exact .ptr id off h
 | iptr cs vs b o h1 h2 h3 _ ih => exact .iptr _ vs b o (by rw [fh]; exact h1) h2 h3 (go ih)
 | nilp => exact .nilp
 | sl id off len cap c h1 h2 h3 h4 => exact .sl id off len cap c h1 h2 h3 h4
 | lst es vs b o z c h1 h2 h3 h4 h5 h6 h7 _ => exact .lst es vs b o z c h1 h2 h3 h4 h5 h6 h7
 | lst0 p c => exact .lst0 p c
 | nilz t p h => exact .lst0 p 0
 | fn f fs cs us vs h1 h2 _ _ ih1 ih2 => exact .fn f _ _ us vs (by rw [fh]; exact h1) (by rw [fh]; exact h2) (go ih1) (go ih2)
 | nilf => exact .nilf
 | ifc t a v _ ih => exact .ifc t _ v ih
 | nili => exact .nili
 | agg cs vs h1 _ ih => exact .agg _ vs (by rw [fh]; exact h1) (go ih)
 | tup cs vs h1 _ ih => exact .tup _ vs (by rw [fh]; exact h1) (go ih)
 | mp id h => exact .mp id h
 | nilm => exact .nilm
theorem VRs.norm {cs : List AV} {vs : List Value} (h : VRs φ A S w cs vs) : VRs φ A S w (AV.norm.norms cs) vs := by
 refine ⟨by rw [fh]; exact h.1, fun j c v hc hv => ?_⟩
 rw [qH, Option.map_eq_some_iff] at hc
 obtain ⟨d, hd, rfl⟩ := hc
 exact (h.2 j d v hd hv).norm
theorem norm_idfree : ∀ (a : AV), a.idfree = true -> a.norm.idfree = true
 | .b _, _ => rfl
 | .i _ _, _ => rfl
 | .s _, _ => rfl
 | .ptr _ _, h => h
 | .iptr cs, h => by simp only [AV.norm, AV.idfree] at h |-; exact go cs h
 | .nilp, _ => rfl
 | .sl _ _ _ _, h => h
 | .lst _, _ => rfl
 | .nilz _, _ => rfl
 | .fn _ fs cs, h => by simp only [AV.norm, AV.idfree, Bool.and_eq_true] at h |-; exact ⟨go fs h.1, go cs h.2⟩
 | .nilf, _ => rfl
 | .ifc _ v, h => by simp only [AV.norm, AV.idfree] at h |-; exact norm_idfree v h
 | .nili, _ => rfl
 | .agg cs, h => by simp only [AV.norm, AV.idfree] at h |-; exact go cs h
 | .tup cs, h => by simp only [AV.norm, AV.idfree] at h |-; exact go cs h
 | .mp _, h => h
 | .nilm, _ => rfl
 where go : ∀ (cs : List AV), AV.idfree.idfrees cs = true -> AV.idfree.idfrees (AV.norm.norms cs) = true
 | [], _ => rfl
 | c :: cs, h => by
  simp only [AV.norm.norms, AV.idfree.idfrees, Bool.and_eq_true] at h |-
  exact ⟨norm_idfree c h.1, go cs h.2⟩
theorem nZ {ag : Bool} {z : Nat} : ∀ {n : Nat} {ds es : List AV}, jE ag z n ds = some es -> es.length = n /\ (∀ e ∈ es, e.cells.length = z) /\ n * z <= ds.length /\ aM es = ds.take (n * z)
 | 0, ds, es, h => by injection h with h; subst h; simp [aM]
 | n + 1, ds, es, h => by
  unfold jE at h
  split at h
  ·rename_i x xs hx hxs
   injection h with h; subst h
   obtain ⟨q1, q2, q3, q4⟩ := nZ hxs
   have hc : x.cells = ds.take z /\ z <= ds.length := by
    split at hx
    ·rw [Option.map_eq_some_iff] at hx
     obtain ⟨d, hd, rfl⟩ := hx
     obtain ⟨k1, rfl⟩ := eM hd
     exact ⟨rfl, k1⟩
    ·split at hx
     ·split at hx
      ·rename_i hl
       injection hx with hx; subst hx
       exact ⟨by rw [xg hl]; simp, by simp⟩
      ·cases hx
     ·cases hx
   rw [List.length_drop] at q3
   refine ⟨by simp [q1], fun e he => ?_, ?_, ?_⟩
   ·rcases List.mem_cons.1 he with rfl | he
    ·rw [hc.1, List.length_take]; omega
    ·exact q2 e he
   ·rw [Nat.succ_mul]; omega
   ·unfold aM
    rw [hc.1, q4, Nat.succ_mul, Nat.add_comm, List.take_add]
  ·cases h
theorem ice_ok (hT : TabOK P T) (hS : ∀ b, S b -> b < w.heap.size) {ρ : Operand -> Option AV} {ev : Operand -> Value} (hρ : ∀ x a, ρ x = some a -> VR φ A S w a (ev x)) (o : Oper) {v : AV} (hv : qQ T ρ o.op = some v) :
  ∃ w' u, (execOp ev o).run P w = .ok (.value u) w' /\ Below w.heap.size w w' /\ VR φ A (fun b => S b ∨ (w.heap.size <= b /\ b < w'.heap.size)) w' v u := by
 obtain ⟨dst, op, ty, pos, after, guard⟩ := o
 simp only at hv
 cases op <;> simp only [qQ] at hv <;> try (cases hv; done)
 case buildSlice t len ps =>
 split at hv
 ·split at hv
  ·rename_i ps' hps
   unfold eE at hv
   split at hv
   ·rename_i e ht
    split at hv
    ·rename_i z zv d hsz hz hd
     split at hv
     ·rename_i hsm
      split at hv
      ·rename_i cs hf
       split at hv
       ·rename_i hfree
        obtain ⟨D, hcl, g2, hrun⟩ := ym hT hρ ht hsz hz hps hsm hf
        have hbel : Below w.heap.size w { w with heap := w.heap.push (.cells ⟨D⟩ e) } := ⟨rfl, rfl, rfl, by simp, fun k hk => by simp [Array.getElem?_push, Nat.ne_of_lt hk]⟩
        refine ⟨_, _, bW hrun, hbel, ?_⟩
        split at hv
        ·injection hv with hv; subst hv
         exact .nilz _ _ (fun h => by cases h)
        ·rename_i n
         obtain ⟨es, hch, rfl⟩ := Option.map_eq_some_iff.1 hv
         obtain ⟨c1, c2, c3, c4⟩ := nZ hch
         have hcsl : (AV.norm.norms cs).length = (n + 1) * (z + 1) := by rw [fh, hcl]
         rw [List.take_of_length_le (by rw [hcsl]; exact Nat.le_refl _)] at c4
         have hS' : ∀ b, S b -> (fun b => S b ∨ (w.heap.size <= b /\ b < (w.heap.push (.cells ⟨D⟩ e)).size)) b := fun b h => .inl h
         have gv : VRs φ A (fun b => S b ∨ (w.heap.size <= b /\ b < (w.heap.push (.cells ⟨D⟩ e)).size)) { w with heap := w.heap.push (.cells ⟨D⟩ e) } (AV.norm.norms cs) D :=
          (g2.mono (fun _ _ => rfl) (fun _ h => h) hS' (fun b o v hb hc => by
           have hlt := hS b hb
           rw [dI (hbel.block _ hlt)]; exact hc)).norm
         have hSn : (fun b => S b ∨ (w.heap.size <= b /\ b < (w.heap.push (.cells ⟨D⟩ e)).size)) w.heap.size := Or.inr ⟨Nat.le_refl _, by simp⟩
         suffices key : VR φ A (fun b => S b ∨ (w.heap.size <= b /\ b < (w.heap.push (.cells ⟨D⟩ e)).size)) { w with heap := w.heap.push (.cells ⟨D⟩ e) } (.lst es) (.slice (some ⟨w.heap.size, 0, none⟩) es.length (n + 1)) by
          rw [c1] at key; exact key
         refine VR.lst (S := fun b => S b ∨ (w.heap.size <= b /\ b < (w.heap.push (.cells ⟨D⟩ e)).size)) es D w.heap.size 0 (z + 1) (n + 1) ?_ hSn (fun j u hj => ?_) (fun j c u hc hu => ?_) c2 ?_ (by rw [c1]; exact Nat.le_refl _)
         ·rw [c4]; exact gv.1
         ·have hj' := (List.getElem?_eq_some_iff.1 hj).1
          simp only [Nat.zero_add, World.cell?, gL]
          simpa using hj
         ·rw [c4] at hc; exact gv.2 j c u hc hu
         ·rw [c4]; exact norm_idfree.go _ hfree
       ·cases hv
      ·cases hv
     ·cases hv
    ·cases hv
   ·cases hv
  ·cases hv
 ·cases hv
end
structure TR (φ : Nat -> Nat × Nat) (A S : Nat -> Prop) (w : World) (nt : Nat) (tm : Nat -> Option AV) (a : Act) : Prop where
 defers : a.defers = []
 size : a.tmps.size = nt
 val : ∀ t v, tm t = some v -> VR φ A S w v (a.tmps.getD t undef)
structure CallOK (P : Program) (T : Tab) (call : Nat -> List AV -> AS -> Option (AV × AS)) : Prop where
 pure : ∀ f args σ r σ', gM T f args = true -> call f args σ = some (r, σ') -> σ' = σ /\ ∀ φ A S w vals, Has P φ A S σ.h w -> (∀ b, S b -> b < w.heap.size) -> GL T φ A S w -> VRs φ A S w args vals ->
  ((T.prim f).isSome = true /\ ∃ u, (callFunc f ⟨vals⟩).run P w = .ok (.value u) w /\ VR φ A S w r u) ∨ ((T.prim f).isSome = false /\ (callFunc f ⟨vals⟩).run P w = .ok (.enter f ⟨vals⟩) w /\
  Calls P f ⟨vals⟩ w fun e w' => ∃ u, e = .returned u /\ Below w.heap.size w w' /\ VR φ A (fun b => S b ∨ (w.heap.size <= b /\ b < w'.heap.size)) w' r u)
 opn : ∀ f args σ r σ', T.opened f = true -> call f args σ = some (r, σ') -> ∀ B φ A S w vals, Inv P B φ A S σ.h.get w -> (∀ id, A id -> id < σ.n) -> GL T φ A S w -> VRs φ A S w args vals ->
  (callFunc f ⟨vals⟩).run P w = .ok (.enter f ⟨vals⟩) w /\
  Calls P f ⟨vals⟩ w fun e w' => ∃ u φ' A' S', e = .returned u /\ Step B φ A S w φ' A' S' w' /\ Inv P B φ' A' S' σ'.h.get w' /\ (∀ id, A' id -> id < σ'.n) /\ VR φ' A' S' w' r u
 adopt : ∀ f args n r σ', T.opened f = true -> T.mode f = 1 -> call f args ⟨.nil, n⟩ = some (r, σ') -> ∀ B φ A S H w vals, Inv P B φ A S H w -> ¬ A n -> GL T φ A S w -> VRs φ A S w args vals ->
  (callFunc f ⟨vals⟩).run P w = .ok (.enter f ⟨vals⟩) w /\
  Calls P f ⟨vals⟩ w fun e w' => ∃ u φ' A' S', e = .returned u /\ Step B φ A S w φ' A' S' w' /\ Inv P B φ' A' S' (fun j => if j = n then σ'.h.get n else H j) w' /\ (∀ id, A' id -> id = n ∨ A id) /\ VR φ' A' S' w' r u
def tT (S : Nat -> Prop) (w w' : World) : Nat -> Prop := fun b => S b ∨ (w.heap.size <= b /\ b < w'.heap.size)
section
variable {P : Program} {T : Tab} (hT : TabOK P T) {B : Nat} {φ φ' φ'' : Nat -> Nat × Nat} {A A' A'' S S' S'' : Nat -> Prop} {H : Nat -> Option AB} {w w' w'' : World} {nt : Nat}
theorem TR.step {tm : Nat -> Option AV} {a : Act} (h : TR φ A S w nt tm a) (k : Step B φ A S w φ' A' S' w') : TR φ' A' S' w' nt tm a := ⟨h.defers, h.size, fun t v hv => (h.val t v hv).step k⟩
theorem GL.step (h : GL T φ A S w) (k : Step B φ A S w φ' A' S' w') : GL T φ' A' S' w' := fun g cs hg => ⟨(h g cs hg).1.step k, by
 have := (h g cs hg).1
 cases this with | iptr _ _ _ _ _ hS _ _ => rw [k.cell _ _ hS]; exact (h g cs hg).2⟩
theorem TR.put {tm : Nat -> Option AV} {a : Act} (h : TR φ A S w nt tm a) {d : Nat} (hd : d < nt) {v : AV} {u : Value} (hv : VR φ A S w v u) : TR φ A S w nt (fun t => if t = d then some v else tm t) (a.put (some d) u) := by
 refine ⟨h.defers, by simp [Act.put, h.size], fun t x hx => ?_⟩
 simp only [Act.put]
 by_cases e : t = d
 ·rw [if_pos e] at hx; injection hx with hx; subst hx; subst e
  have : (a.tmps.setIfInBounds t u).getD t undef = u := by simp [Array.getD, h.size, hd]
  rw [this]; exact hv
 ·rw [if_neg e] at hx
  have : (a.tmps.setIfInBounds d u).getD t undef = a.tmps.getD t undef := by
   simp only [Array.getD_eq_getD_getElem?]
   rw [Array.getElem?_setIfInBounds, if_neg (fun q => e q.symm)]
  rw [this]; exact h.val t x hx
theorem tL {tm tm' : Tr AV} {a : Act} (h : TR φ A S w nt tm.get a) {dst : Option Nat} {v : AV} {u : Value} (hv : VR φ A S w v u) (hp : dR nt tm dst v = some tm') : TR φ A S w nt tm'.get (a.put dst u) := by
 unfold dR at hp
 split at hp
 ·injection hp with hp; subst hp; exact h
 ·rename_i d
  split at hp
  ·rename_i hd
   injection hp with hp; subst hp
   have := h.put (Nat.le_of_ble_eq_true hd) hv
   have e : (tm.put d (some v)).get = fun t => if t = d then some v else tm.get t := funext fun t => Tr.get_put tm d (some v) t
   rw [e]; exact this
  ·cases hp
theorem pH {tm : Tr AV} {a : Act} (h : TR φ A S w nt tm.get a) (hg : GL T φ A S w) : ∀ x v, ce T tm x = some v -> VR φ A S w v (a.eval x) := by
 intro x v hv
 cases x with
 | tmp t => exact h.val t v hv
 | const c => exact eC hv
 | global g =>
  cases hc : T.gl g with
  | none => simp [ce, hc] at hv
  | some cs => simp [ce, hc] at hv; subst hv; exact (hg g cs hc).1
 | func f => injection hv with hv; subst hv; exact .fn f [] [] [] [] rfl rfl (fun j c v h => by simp at h) (fun j c v h => by simp at h)
theorem iG : VR φ A S w (.tup []) undef := .tup [] [] rfl (fun j c v h => by simp at h)
theorem xJ {ops : Array Oper} {tm : Nat -> Option AV} {a : Act} (h : TR φ A S w nt tm a) {o : Oper} {b : Bool} (he : (match o.guard with
 | none => some true
 | some (j, want) => match ops[j]? with
  | some oj => match oj.dst with
   | some d => match tm d with
    | some (.b x) => some (x == want)
    | some (.tup []) => some false
    | _ => none
   | none => none
  | none => none) = some b) : Region.wanted o (yielded ops a.tmps) = b := by
 unfold Region.wanted
 split at he
 ·rename_i hg; injection he with he; subst he; rw [hg]
 ·rename_i j want hg
  rw [hg]
  simp only
  split at he
  ·rename_i oj hoj
   split at he
   ·rename_i d hd
    have hval := h.val d
    have hget : ∀ u, a.tmps.getD d undef = u -> u ≠ undef -> a.tmps[d]? = some u := by
     intro u hu hne
     cases hq : a.tmps[d]? with
     | none => simp [Array.getD_eq_getD_getElem?, hq] at hu; exact absurd hu.symm hne
     | some x => simp [Array.getD_eq_getD_getElem?, hq] at hu; rw [hu]
    split at he
    ·rename_i x hx
     injection he with he; subst he
     have hv := hval _ hx
     generalize hu : a.tmps.getD d undef = u at hv
     cases hv
     have hq := hget _ hu (by unfold undef; simp)
     have hy : yielded ops a.tmps j = some x := by
      unfold yielded; simp [hoj, hd, hq]
     rw [hy]
     cases x <;> cases want <;> rfl
    ·rename_i hx
     injection he with he; subst he
     have hv := hval _ hx
     generalize hu : a.tmps.getD d undef = u at hv
     cases hv with | tup _ vs h1 h2 =>
     have hvs : vs = [] := List.eq_nil_of_length_eq_zero (by simpa using h1)
     subst hvs
     have hy : yielded ops a.tmps j = none := by
      unfold yielded
      simp only [hoj, Option.bind_some, hd]
      cases hq : a.tmps[d]? with
      | none => rfl
      | some x => simp [Array.getD_eq_getD_getElem?, hq] at hu; rw [hu]
     rw [hy]
     cases want <;> rfl
    ·cases he
   ·cases he
  ·cases he
theorem sX {ops : Array Oper} {tm : Tr AV} {a : Act} (h : TR φ A S w nt tm.get a) {o : Oper} {b : Bool} (he : cY ops tm o = some b) : Region.wanted o (yielded ops a.tmps) = b := xJ h he
theorem cz {o : Oper} {a : Act} {u : Value} {next : Act -> World -> Prop} {Q : Exit -> Act -> World -> Prop} (h : (execOp a.eval o).run P w = .ok (.value u) w') (hn : next (a.put o.dst u) w') : o.wp P a w next Q := by
 unfold Oper.wp; rw [h]; exact hn
theorem ji {o : Oper} {a : Act} {next : Act -> World -> Prop} {Q : Exit -> Act -> World -> Prop} (h : (execOp a.eval o).run P w = .ok .skip w') (hn : next (a.put o.dst undef) w') : o.wp P a w next Q := by
 unfold Oper.wp; rw [h]; exact hn
theorem mf {s : Sem Unit} (hs : s.run P w = .ok () w') : (do s; pure Next.skip : Sem Next).run P w = .ok .skip w' := by rw [Sem.run_bind, hs]; rfl
theorem Step.below (inv : Inv P B φ A S H w) (hb : Below w.heap.size w w') : Step B φ A S w φ A (tT S w w') w' :=
 ⟨⟨hb.os, hb.tape, hb.output⟩, fun _ _ => rfl, fun _ h => h, fun _ h => .inl h, fun b h => h.elim .inl fun h => .inr (by have := inv.hB; omega), fun b o hs => dI (hb.block _ (inv.st _ hs).1), hb.size, fun k hk => hb.block k (by have := inv.hB; omega)⟩
theorem Inv.below (inv : Inv P B φ A S H w) (hb : Below w.heap.size w w') : Inv P B φ A (tT S w w') H w' := by
 refine ⟨inv.dom, fun id hA => ?_, inv.inj, fun b hS => ?_, fun id b h => ?_, Nat.le_trans inv.hB hb.size⟩
 ·have := inv.lo id hA; have := hb.size; exact ⟨(inv.lo id hA).1, by omega⟩
 ·rcases hS with hS | ⟨h1, h2⟩
  ·exact ⟨by have := (inv.st b hS).1; have := hb.size; omega, (inv.st b hS).2⟩
  ·refine ⟨h2, fun id hid => ?_⟩
   cases hq : H id with
   | none => exact absurd hq hid
   | some x => have := (inv.lo id (inv.dom _ _ hq)).2; omega
 ·exact (inv.blk id b h).mono rfl (fun _ _ => rfl) (fun _ h => h) (fun _ h => .inl h) (fun b hs => hb.block _ (inv.st b hs).1) (hb.block _ (inv.lo id (inv.dom _ _ h)).2)
theorem Inv.sub {H' : Nat -> Option AB} (inv : Inv P B φ A S H w) (h : ∀ id b, H' id = some b -> H id = some b) : Inv P B φ A S H' w := by
 have g : ∀ id, H' id ≠ none -> H id ≠ none := fun id hn => by
  cases hq : H' id with
  | none => exact absurd hq hn
  | some x => rw [h _ _ hq]; simp
 exact ⟨fun id b hb => inv.dom _ _ (h _ _ hb), inv.lo, fun id id' h1 h2 => inv.inj _ _ (g _ h1) (g _ h2), fun b hs => ⟨(inv.st b hs).1, fun id hid => (inv.st b hs).2 id (g _ hid)⟩, fun id b hb => inv.blk _ _ (h _ _ hb), inv.hB⟩
theorem rq {ρ : Operand -> Option AV} {a : Act} (hρ : ∀ x v, ρ x = some v -> VR φ A S w v (a.eval x)) {o : Oper} {c : Call} (ho : o.op = .call c) {fo : Operand} (hc : c.callee = .value fo) {f : Nat} {fs cs args : List AV}
  (hf : ρ fo = some (.fn f fs cs)) (ha : bH ρ c.args.toList = some args) : ∃ vals, VRs φ A S w (fs ++ args ++ cs) vals /\ (∀ nx, (callFunc f ⟨vals⟩).run P w = .ok nx w -> (execOp a.eval o).run P w = .ok nx w) := by
 have hfv := hρ _ _ hf
 generalize hec : a.eval fo = ec at hfv
 cases hfv with | fn _ _ _ us vs h1 h2 h3 h4 =>
 have hav := gN hρ ha
 refine ⟨us ++ c.args.toList.map a.eval ++ vs, VRs.append (VRs.append ⟨h1, h3⟩ hav) ⟨h2, h4⟩, fun nx hrun => ?_⟩
 unfold execOp
 rw [ho]
 simp only [resolve, hc, hec, Deferred.ofValue, Sem.run_bind, Sem.run_pure, Result.andThen_ok, invoke]
 have e : (⟨us⟩ : Array Value) ++ c.args.map a.eval ++ ⟨vs⟩ = ⟨us ++ c.args.toList.map a.eval ++ vs⟩ := Array.toList_inj.1 (by simp)
 rw [e]; exact hrun
theorem call_wp {call : Nat -> List AV -> AS -> Option (AV × AS)} (hC : CallOK P T call) {σ σ' : AS} (inv : Inv P B φ A S σ.h.get w) (hb : ∀ id, A id -> id < σ.n) (hg : GL T φ A S w) {ρ : Operand -> Option AV} {a : Act} (hρ : ∀ x v, ρ x = some v -> VR φ A S w v (a.eval x))
  {o : Oper} {c : Call} (ho : o.op = .call c) {fo : Operand} (hc : c.callee = .value fo) {f : Nat} {fs cs args : List AV} (hf : ρ fo = some (.fn f fs cs)) (ha : bH ρ c.args.toList = some args) {v : AV} (hv : call f (fs ++ args ++ cs) σ = some (v, σ'))
  {next : Act -> World -> Prop} {Q : Exit -> Act -> World -> Prop} (K : ∀ u w' φ' A' S', Step B φ A S w φ' A' S' w' -> Inv P B φ' A' S' σ'.h.get w' -> (∀ id, A' id -> id < σ'.n) -> VR φ' A' S' w' v u -> next (a.put o.dst u) w') : o.wp P a w next Q := by
 obtain ⟨vals, hall, hx⟩ := rq (P := P) hρ ho hc hf ha
 cases hop : T.opened f with
 | true =>
  obtain ⟨hrun, hcalls⟩ := hC.opn f _ σ v σ' hop hv B φ A S w _ inv hb hg hall
  unfold Oper.wp
  rw [hx _ hrun]
  refine hcalls.mono fun e w' he => ?_
  obtain ⟨u, φ', A', S', rfl, k1, k2, k3, k4⟩ := he
  exact K u w' φ' A' S' k1 k2 k3 k4
 | false =>
  obtain ⟨rfl, hp⟩ := hC.pure f _ σ v σ' (by unfold gM; rw [hop]; rfl) hv
  rcases hp φ A S w _ inv.blk (fun b hs => (inv.st b hs).1) hg hall with ⟨_, u, hrun, hu⟩ | ⟨_, hrun, hcalls⟩
  ·exact cz (hx _ hrun) (K u w φ A S Step.refl inv hb hu)
  unfold Oper.wp
  rw [hx _ hrun]
  refine hcalls.mono fun e w' he => ?_
  obtain ⟨u, rfl, k1, k2⟩ := he
  exact K u w' φ A _ (Step.below inv k1) (inv.below k1) hb k2
theorem evOp_wp (hT : TabOK P T) {call : Nat -> List AV -> AS -> Option (AV × AS)} (hC : CallOK P T call) {σ σ' : AS} (inv : Inv P B φ A S σ.h.get w) (hb : ∀ id, A id -> id < σ.n) (hg : GL T φ A S w) {tm : Tr AV} {a : Act} (htm : TR φ A S w nt tm.get a)
  (o : Oper) {v : AV} (hv : rj T call tm σ o = some (v, σ')) {next : Act -> World -> Prop} {Q : Exit -> Act -> World -> Prop}
  (K : ∀ u w' φ' A' S', Step B φ A S w φ' A' S' w' -> Inv P B φ' A' S' σ'.h.get w' -> (∀ id, A' id -> id < σ'.n) -> VR φ' A' S' w' v u -> next (a.put o.dst u) w') : o.wp P a w next Q := by
 have hρ := pH htm hg
 unfold rj at hv
 split at hv
 ·rename_i v' hq
  injection hv with hv; simp only [Prod.mk.injEq] at hv; obtain ⟨rfl, rfl⟩ := hv
  obtain ⟨u, h1, h2⟩ := mR hT inv.blk hρ o hq
  exact cz h1 (K u w φ A S Step.refl inv hb h2)
 ·split at hv
  ·rename_i b f hq
   injection hv with hv; simp only [Prod.mk.injEq] at hv; obtain ⟨rfl, rfl⟩ := hv
   obtain ⟨w', cap, u, h1, h2, h3⟩ := wd hT inv hρ o hq
   have hn := not_A hb
   obtain ⟨h4, h5⟩ := h3 σ.n hn
   exact cz h1 (K u w' _ _ S (Step.new inv hn h2) ((inv.new hn h2.size h2.old h4).ext (bG _ _ _)) (mr hb) h5)
  ·obtain ⟨dst, op, ty, pos, after, guard⟩ := o
   simp only at hv
   unfold fM at hv
   split at hv
   ·rename_i t x y
    split at hv
    ·rename_i p q hp hq
     split at hv
     ·rename_i h' hs
      injection hv with hv; simp only [Prod.mk.injEq] at hv; obtain ⟨rfl, rfl⟩ := hv
      obtain ⟨w', h1, h2, h3⟩ := xu hT inv (hρ _ _ hp) (hρ _ _ hq) hs
      exact ji (mf h1) (K undef w' φ A S h2 h3 hb iG)
     ·cases hv
    ·cases hv
   ·rename_i t x k y
    split at hv
    ·rename_i p q r hp hq hr
     split at hv
     ·rename_i h' hs
      injection hv with hv; simp only [Prod.mk.injEq] at hv; obtain ⟨rfl, rfl⟩ := hv
      obtain ⟨w', h1, h2, h3⟩ := kF hT inv (hρ _ _ hp) (hρ _ _ hq) (hρ _ _ hr) hs
      exact ji (mf h1) (K undef w' φ A S h2 h3 hb iG)
     ·cases hv
    ·cases hv
   ·rename_i t x k y
    split at hv
    ·rename_i p q r hp hq hr
     split at hv
     ·rename_i h' hs
      injection hv with hv; simp only [Prod.mk.injEq] at hv; obtain ⟨rfl, rfl⟩ := hv
      obtain ⟨w', h1, h2, h3⟩ := kF hT inv (hρ _ _ hp) (hρ _ _ hq) (hρ _ _ hr) hs
      exact ji (mf h1) (K undef w' φ A S h2 h3 hb iG)
     ·cases hv
    ·cases hv
   ·rename_i it
    split at hv
    ·rename_i p hp
     split at hv
     ·rename_i v' σ1 hs
      injection hv with hv; simp only [Prod.mk.injEq] at hv; obtain ⟨rfl, rfl⟩ := hv
      obtain ⟨w', u, h1, h2, h3, h4, h5⟩ := AA inv (hρ _ _ hp) ty hs
      exact cz (bW h1) (K u w' φ A S h2 h3 (by rw [h4]; exact hb) h5)
     ·cases hv
    ·cases hv
   ·rename_i c _ _
    obtain ⟨callee, args, argTypes⟩ := c
    have e1 : args.map a.eval = ⟨args.toList.map a.eval⟩ := Array.toList_inj.1 (by rw [Array.toList_map])
    have two : ∀ {p q : AV}, bH (ce T tm) args.toList = some [p, q] -> ∃ ep eq, args.map a.eval = #[ep, eq] /\ VR φ A S w p ep /\ VR φ A S w q eq := by
     intro p q has
     have hav := gN hρ has
     have hlen := hav.1
     rw [e1]
     generalize args.toList.map a.eval = xs at hav hlen
     match xs, hlen with
     | [es, ex], _ => exact ⟨es, ex, rfl, hav.2 0 p es rfl rfl, hav.2 1 q ex rfl rfl⟩
    split at hv
    ·
     rename_i hcal
     subst hcal
     split at hv
     ·rename_i st xt s x hts has
      split at hv
      ·rename_i v' σ1 hs
       injection hv with hv; simp only [Prod.mk.injEq] at hv; obtain ⟨rfl, rfl⟩ := hv
       obtain ⟨es, ex, e2, r1, r2⟩ := two has
       obtain ⟨w', φ', A', u, h1, h2, h3, h4, h5⟩ := wj (ty := ty) hT inv hb r1 r2 hs
       have e3 : argTypes = #[st, xt] := Array.toList_inj.1 hts
       refine cz ?_ (K u w' φ' A' S h2 h3 h4 h5)
       simp only [execOp, resolve, Sem.run_bind, Sem.run_pure, Result.andThen_ok, invoke, builtin, e2, e3]
       rw [h1]; rfl
      ·cases hv
     ·cases hv
    ·
     rename_i hcal
     subst hcal
     split at hv
     ·rename_i dt rest d x hts has
      split at hv
      ·rename_i v' σ1 hs
       injection hv with hv; simp only [Prod.mk.injEq] at hv; obtain ⟨rfl, rfl⟩ := hv
       obtain ⟨es, ex, e2, r1, r2⟩ := two has
       obtain ⟨w', φ', A', u, h1, h2, h3, h4, h5⟩ := AC (ty := ty) (rest := rest) hT inv hb r1 r2 hs
       have e3 : argTypes = ⟨dt :: rest⟩ := Array.toList_inj.1 hts
       refine cz ?_ (K u w' φ' A' S h2 h3 h4 h5)
       simp only [execOp, resolve, Sem.run_bind, Sem.run_pure, Result.andThen_ok, invoke, builtin, e2, e3]
       rw [h1]; rfl
      ·cases hv
     ·cases hv
    ·
     rename_i hcal
     subst hcal
     split at hv
     ·rename_i t x hts has
      split at hv
      ·rename_i v' σ1 hs
       injection hv with hv; simp only [Prod.mk.injEq] at hv; obtain ⟨rfl, rfl⟩ := hv
       have hav := gN hρ has
       have hlen := hav.1
       generalize hxs : args.toList.map a.eval = xs at hav hlen
       match xs, hlen, hav, hxs with
       | [ex], _, hav, hxs =>
        have e2 : args.map a.eval = #[ex] := by rw [e1, hxs]
        obtain ⟨w', φ', A', u, h1, h2, h3, h4, h5⟩ := xy (ty := ty) hT inv hb (hav.2 0 x ex rfl rfl) hs
        have e3 : argTypes = #[t] := Array.toList_inj.1 hts
        refine cz ?_ (K u w' φ' A' S h2 h3 h4 h5)
        simp only [execOp, resolve, Sem.run_bind, Sem.run_pure, Result.andThen_ok, invoke, builtin, e2, e3]
        rw [h1]; rfl
      ·cases hv
     ·cases hv
    ·
     rename_i hcal
     subst hcal
     split at hv
     ·rename_i pt it p n hts has
      split at hv
      ·rename_i v' σ1 hs
       injection hv with hv; simp only [Prod.mk.injEq] at hv; obtain ⟨rfl, rfl⟩ := hv
       obtain ⟨es, ex, e2, r1, r2⟩ := two has
       obtain ⟨w', φ', A', u, h1, h2, h3, h4, h5⟩ := Az (it := it) (ty := ty) hT inv hb r1 r2 hs
       have e3 : argTypes = #[pt, it] := Array.toList_inj.1 hts
       refine cz ?_ (K u w' φ' A' S h2 h3 h4 h5)
       simp only [execOp, resolve, Sem.run_bind, Sem.run_pure, Result.andThen_ok, invoke, builtin, e2, e3]
       rw [h1]; rfl
      ·cases hv
     ·cases hv
    ·
     rename_i fo hcal
     subst hcal
     split at hv
     ·rename_i f fs cs as hf has
      split at hv
      ·rename_i v' σ1 hs
       injection hv with hv; simp only [Prod.mk.injEq] at hv; obtain ⟨rfl, rfl⟩ := hv
       exact call_wp hC inv hb hg hρ rfl rfl hf has hs K
      ·cases hv
     ·cases hv
    ·cases hv
   ·
    rename_i t len ps _ _
    split at hv
    ·rename_i v' hi
     injection hv with hv; simp only [Prod.mk.injEq] at hv; obtain ⟨rfl, rfl⟩ := hv
     obtain ⟨w', u, h1, h2, h3⟩ := ice_ok hT (fun b hb => (inv.st b hb).1) hρ ⟨dst, .buildSlice t len ps, ty, pos, after, guard⟩ hi
     exact cz h1 (K u w' φ A _ (Step.below inv h2) (inv.below h2) hb h3)
    ·cases hv
   ·cases hv
theorem mT {call : Nat -> List AV -> AS -> Option (AV × AS)} (hT : TabOK P T) (hC : CallOK P T call) {ops : Array Oper} {Q : Exit -> Act -> World -> Prop} : ∀ (l : List Oper) (k : Nat) (σ σ' : AS) (tm tm' : Tr AV) (a : Act) (φ : Nat -> Nat × Nat) (A S : Nat -> Prop) (w : World),
  (∀ j, j < l.length -> l[j]? = ops[k + j]?) -> Inv P B φ A S σ.h.get w -> (∀ id, A id -> id < σ.n) -> GL T φ A S w -> TR φ A S w nt tm.get a -> dQ T call nt ops l tm σ = some (tm', σ') ->
  (∀ a' φ' A' S' w', Step B φ A S w φ' A' S' w' -> Inv P B φ' A' S' σ'.h.get w' -> (∀ id, A' id -> id < σ'.n) -> TR φ' A' S' w' nt tm'.get a' -> Q .normal a' w') -> wpOps P ops Q (List.range' k l.length) a w
 | [], k, σ, σ', tm, tm', a, φ, A, S, w, _, inv, hb, hg, htm, hv, K => by
  injection hv with hv; simp only [Prod.mk.injEq] at hv; obtain ⟨rfl, rfl⟩ := hv
  exact K a φ A S w Step.refl inv hb htm
 | o :: os, k, σ, σ', tm, tm', a, φ, A, S, w, hops, inv, hb, hg, htm, hv, K => by
  have ho : ops[k]? = some o := by have := hops 0 (by simp); simpa using this.symm
  have hops' : ∀ j, j < os.length -> os[j]? = ops[k + 1 + j]? := fun j hj => by
   have := hops (j + 1) (by simp; omega); rw [Nat.add_assoc, Nat.add_comm 1 j]; simpa using this
  unfold dQ at hv
  simp only [List.length_cons, List.range'_succ, wpOps, ho]
  split at hv
  ·rename_i hw
   rw [sX htm hw, if_pos rfl]
   left
   split at hv
   ·rename_i v σ1 hop
    split at hv
    ·rename_i tm1 hp
     refine evOp_wp hT hC inv hb hg htm o hop fun u w' φ' A' S' h1 h2 h3 h4 => ?_
     exact mT hT hC os (k + 1) σ1 σ' tm1 tm' _ φ' A' S' w' hops' h2 h3 (hg.step h1) (tL (htm.step h1) h4 hp) hv
      (fun a' φ2 A2 S2 w2 g1 g2 g3 g4 => K a' φ2 A2 S2 w2 (h1.trans g1) g2 g3 g4)
    ·cases hv
   ·cases hv
  ·rename_i hw
   rw [sX htm hw]
   simp only [Bool.false_eq_true, if_false]
   split at hv
   ·rename_i tm1 hp
    exact mT hT hC os (k + 1) σ σ' tm1 tm' _ φ A S w hops' inv hb hg (tL htm iG hp) hv K
   ·cases hv
  ·cases hv
end
theorem nE {j x : Nat} : ∀ {ys : List Nat}, aY j (Ar x ys) = true -> j = x ∨ aY j ys = true
 | [], h => by
  simp only [Ar, aY, Bool.or_false] at h
  exact .inl (Nat.eq_of_beq_eq_true h)
 | y :: ys, h => by
  unfold Ar at h
  split at h
  ·exact .inr h
  ·simp only [aY, Bool.or_eq_true] at h |-
   rcases h with h | h
   ·exact .inr (.inl h)
   ·rcases nE h with h | h
    ·exact .inl h
    ·exact .inr (.inr h)
theorem ss {j : Nat} : ∀ {xs ys : List Nat}, aY j (addN xs ys) = true -> aY j xs = true ∨ aY j ys = true
 | [], ys, h => .inr h
 | x :: xs, ys, h => by
  unfold addN at h
  rcases ss h with h | h
  ·left; simp [aY, h]
  ·rcases nE h with h | h
   ·left; subst h; simp [aY]
   ·exact .inr h
theorem lN {j : Nat} {acc : List (List Nat)} : ∀ {es : List Edge}, aY j (nc acc es) = true -> ∃ e ∈ es, binds e = true /\ (j = e.on ∨ aY j (acc.getD e.on []) = true)
 | [], h => by simp [nc, aY] at h
 | e :: es, h => by
  unfold nc at h
  split at h
  ·rename_i hb
   rcases nE h with h | h
   ·exact ⟨e, by simp, hb, .inl h⟩
   ·rcases ss h with h | h
    ·exact ⟨e, by simp, hb, .inr h⟩
    ·obtain ⟨e', h1, h2⟩ := lN h
     exact ⟨e', by simp [h1], h2⟩
  ·obtain ⟨e', h1, h2⟩ := lN h
   exact ⟨e', by simp [h1], h2⟩
theorem ru : ∀ (l : List Oper) (acc : List (List Nat)) (i : Nat), i < acc.length -> (wA acc l).getD i [] = acc.getD i []
 | [], acc, i, _ => rfl
 | o :: os, acc, i, h => by
  unfold wA
  rw [ru os _ i (by simp; omega)]
  simp only [List.getD_eq_getElem?_getD]
  rw [List.getElem?_append_left h]
theorem zL : ∀ (l : List Oper) (acc : List (List Nat)) (k : Nat) (o : Oper), l[k]? = some o -> ∃ acc' : List (List Nat), acc'.length = acc.length + k /\ (∀ i, i < acc'.length -> acc'.getD i [] = (wA acc l).getD i []) /\
  (wA acc l).getD (acc.length + k) [] = nc acc' o.after.toList
 | [], acc, k, o, h => by simp at h
 | x :: xs, acc, 0, o, h => by
  simp at h; subst h
  refine ⟨acc, by simp, fun i hi => (ru _ _ _ hi).symm, ?_⟩
  unfold wA
  rw [Nat.add_zero, ru xs _ _ (by simp)]
  simp [List.getD_eq_getElem?_getD]
 | x :: xs, acc, k + 1, o, h => by
  obtain ⟨acc', h1, h2, h3⟩ := zL xs (acc ++ [nc acc x.after.toList]) k o (by simpa using h)
  refine ⟨acc', by rw [h1]; simp; omega, h2, ?_⟩
  have e : acc.length + (k + 1) = (acc ++ [nc acc x.after.toList]).length + k := by simp; omega
  rw [e]; exact h3
theorem ro {ops : Array Oper} : ∀ (l : List Oper) (j k : Nat) (o : Oper), mV ops j l = true -> l[k]? = some o -> ∀ e ∈ o.after.toList, binds e = true -> e.on < j + k
 | [], j, k, o, _, h => by simp at h
 | y :: ys, j, 0, o, hk, h => by
  simp at h; subst h
  unfold mV at hk
  simp only [Bool.and_eq_true, List.all_eq_true] at hk
  intro e he hb
  have := hk.1 e he
  simp only [hb, Bool.not_true, Bool.false_or] at this
  have := Nat.le_of_ble_eq_true this
  omega
 | y :: ys, j, k + 1, o, hk, h => by
  unfold mV at hk
  simp only [Bool.and_eq_true] at hk
  intro e he hb
  have := ro ys (j + 1) k o hk.2 (by simpa using h) e he hb
  omega
theorem oW {ops : Array Oper} {y : Oper} {bs : List Nat} : ∀ (l : List Oper) (i k : Nat) (x : Oper), kq ops y bs i l = true -> l[k]? = some x -> mX ops x y = true -> aY (i + k) bs = true
 | [], i, k, x, _, h => by simp at h
 | z :: zs, i, 0, x, hk, h => by
  simp at h; subst h
  unfold kq at hk
  simp only [Bool.and_eq_true, Bool.or_eq_true, Bool.not_eq_true'] at hk
  intro hc
  rcases hk.1 with h | h
  ·rw [hc] at h; cases h
  ·exact h
 | z :: zs, i, k + 1, x, hk, h => by
  unfold kq at hk
  simp only [Bool.and_eq_true] at hk
  intro hc
  have := oW zs (i + 1) k x hk.2 (by simpa using h) hc
  rwa [show i + (k + 1) = i + 1 + k by omega]
theorem qD {ops : Array Oper} {bs : List (List Nat)} : ∀ (l : List Oper) (j k : Nat) (y : Oper), mj ops bs j l = true -> l[k]? = some y -> ∀ i x, i < j + k -> ops[i]? = some x -> mX ops x y = true -> aY i (bs.getD (j + k) []) = true
 | [], j, k, y, _, h => by simp at h
 | z :: zs, j, 0, y, hk, h => by
  simp at h; subst h
  unfold mj at hk
  simp only [Bool.and_eq_true] at hk
  intro i x hi hx hc
  have := oW (ops.toList.take j) 0 i x hk.1 (by rw [List.getElem?_take, if_pos (by omega)]; simpa using hx) hc
  simpa using this
 | z :: zs, j, k + 1, y, hk, h => by
  unfold mj at hk
  simp only [Bool.and_eq_true] at hk
  intro i x hi hx hc
  have := qD zs (j + 1) k y hk.2 (by simpa using h) i x (by omega) hx hc
  rwa [show j + (k + 1) = j + 1 + k by omega]
section
variable {ops : Array Oper} (hok : cv ops = true)
abbrev bef (ops : Array Oper) (i : Nat) : List Nat := oc ops i
def lst (L : Array Bool) (i : Nat) : Bool := L.getD i false
def Closed (ops : Array Oper) (L : Array Bool) : Prop := ∀ i o, lst L i = true -> ops[i]? = some o -> ∀ e ∈ o.after.toList, binds e = true -> lst L e.on = true
theorem iT (hok : cv ops = true) {i : Nat} {o : Oper} (ho : ops[i]? = some o) : ∀ e ∈ o.after.toList, binds e = true -> e.on < i := by
 unfold cv at hok
 simp only [Bool.and_eq_true] at hok
 have := ro ops.toList 0 i o hok.1 (by simpa using ho)
 simpa using this
theorem vd (hok : cv ops = true) {i k : Nat} {x y : Oper} (hik : i < k) (hx : ops[i]? = some x) (hy : ops[k]? = some y) (hc : mX ops x y = true) : aY i (bef ops k) = true := by
 unfold cv at hok
 simp only [Bool.and_eq_true] at hok
 have := qD ops.toList 0 k y hok.2 (by simpa using hy) i x (by omega) hx hc
 simpa [oc] using this
theorem bef_step (hok : cv ops = true) {i j : Nat} {o : Oper} (ho : ops[i]? = some o) (hj : aY j (bef ops i) = true) : ∃ e ∈ o.after.toList, binds e = true /\ (j = e.on ∨ aY j (bef ops e.on) = true) := by
 obtain ⟨acc', h1, h2, h3⟩ := zL ops.toList [] i o (by simpa using ho)
 simp only [List.length_nil, Nat.zero_add] at h1 h3
 unfold bef oc at hj
 rw [h3] at hj
 obtain ⟨e, e1, e2, e3⟩ := lN hj
 refine ⟨e, e1, e2, ?_⟩
 rcases e3 with e3 | e3
 ·exact .inl e3
 ·right
  have := iT hok ho e e1 e2
  rw [h2 _ (by rw [h1]; exact this)] at e3
  exact e3
theorem na (hok : cv ops = true) {L : Array Bool} (hL : Closed ops L) : ∀ (i : Nat) (o : Oper), ops[i]? = some o -> (∀ e ∈ o.after.toList, binds e = true -> lst L e.on = true) -> ∀ j, aY j (bef ops i) = true -> lst L j = true := by
 intro i
 induction i using Nat.strongRecOn with
 | _ i ih =>
  intro o ho hall j hj
  obtain ⟨e, e1, e2, e3⟩ := bef_step hok ho hj
  rcases e3 with rfl | e3
  ·exact hall e e1 e2
  ·have hlt := iT hok ho e e1 e2
   have hl := hall e e1 e2
   have hsz : e.on < ops.size := by
    have := (Array.getElem?_eq_some_iff.1 ho).1; omega
   exact ih e.on hlt _ (Array.getElem?_eq_getElem hsz) (fun e' h1 h2 => hL e.on _ hl (Array.getElem?_eq_getElem hsz) e' h1 h2) j e3
end
theorem fg {ρ ρ' : Operand -> Option AV} : ∀ {xs : List Operand}, (∀ x ∈ xs, ρ x = ρ' x) -> bH ρ xs = bH ρ' xs
 | [], _ => rfl
 | x :: xs, h => by
  unfold bH
  rw [h x (by simp), fg (fun y hy => h y (by simp [hy]))]
theorem ii {ρ ρ' : Operand -> Option AV} : ∀ {xs : List (Nat × Operand)}, (∀ x ∈ xs.map (·.2), ρ x = ρ' x) -> gc ρ xs = gc ρ' xs
 | [], _ => rfl
 | (i, x) :: xs, h => by
  unfold gc
  rw [h x (by simp), ii (fun y hy => h y (by simp only [List.map_cons, List.mem_cons]; exact .inr hy))]
theorem ku {ρ ρ' : Operand -> Option AV} {x : Option Operand} (h : ∀ y ∈ x.toList, ρ y = ρ' y) : fe ρ x = fe ρ' x := by
 cases x with
 | none => rfl
 | some x => simp only [fe, h x (by simp)]
theorem pn {T : Tab} {h : Tr AB} {ρ ρ' : Operand -> Option AV} {op : Op} (hc : ∀ x ∈ op.operands.toList, ρ x = ρ' x) : bk T h ρ op = bk T h ρ' op := by
 cases op <;> simp only [bk] <;> simp only [Op.operands] at hc
 case move x => exact hc x (by simp)
 case assign x => exact hc x (by simp)
 case pick c a b => rw [hc c (by simp), hc a (by simp), hc b (by simp)]
 case build t ps => rw [ii (ρ' := ρ') (fun x hx => hc x (by simpa using hx))]
 case load t a => rw [hc a (by simp)]
 case nilCheck x => rw [hc x (by simp)]
 case binOp op t x y yt => rw [hc x (by simp), hc y (by simp)]
 case unOp op t x => rw [hc x (by simp)]
 case convert s d x => rw [hc x (by simp)]
 case makeInterface t x => rw [hc x (by simp)]
 case makeFunc fn fs cs =>
  cases fn <;> simp only
  rw [fg (ρ' := ρ') (fun x hx => hc x (by simp; exact .inl (by simpa using hx))), fg (ρ := ρ) (ρ' := ρ') (xs := cs.toList) (fun x hx => hc x (by simp; exact .inr (by simpa using hx)))]
 case slice t x lo hi mx =>
  rw [hc x (by simp), ku (x := lo) (ρ' := ρ') (fun y hy => hc y (by cases lo <;> simp_all)), ku (x := hi) (ρ' := ρ') (fun y hy => hc y (by cases hi <;> simp_all)),
   ku (x := mx) (ρ' := ρ') (fun y hy => hc y (by cases mx <;> simp_all))]
 case fieldAddr s x f => rw [hc x (by simp)]
 case field s x f => rw [hc x (by simp)]
 case indexAddr t x i => rw [hc x (by simp), hc i (by simp)]
 case index t x i => rw [hc x (by simp), hc i (by simp)]
 case lookup t m k ok => rw [hc m (by simp), hc k (by simp)]
 case extract t n => rw [hc t (by simp)]
 case call c =>
  obtain ⟨callee, args, argTypes⟩ := c
  have : bH ρ args.toList = bH ρ' args.toList := fg (fun x hx => hc x (by simp only [Call.operands]; simp; exact .inr (by simpa using hx)))
  rw [this]
theorem we {T : Tab} {ρ ρ' : Operand -> Option AV} {op : Op} (hc : ∀ x ∈ op.operands.toList, ρ x = ρ' x) : eS T ρ op = eS T ρ' op := by
 cases op <;> simp only [eS] <;> simp only [Op.operands] at hc
 case box e x => rw [hc x (by simp)]
 case buildSlice t len ps => rw [ii (ρ' := ρ') (fun x hx => hc x (by simpa using hx))]
 case convert s d x => rw [hc x (by simp)]
 case makeSlice t l c => rw [hc l (by simp), hc c (by simp)]
 case range t x => rw [hc x (by simp)]
 case makeMap t r => cases r <;> rfl
theorem qx {T : Tab} {call : Nat -> List AV -> AS -> Option (AV × AS)} {h : Tr AB} {n : Nat} {ρ ρ' : Operand -> Option AV} {op : Op} (hc : ∀ x ∈ op.operands.toList, ρ x = ρ' x) : cw T call h n ρ op = cw T call h n ρ' op := by
 cases op <;> simp only [cw]
 case call c =>
  obtain ⟨callee, args, argTypes⟩ := c
  simp only [Op.operands, Call.operands] at hc
  have : bH ρ args.toList = bH ρ' args.toList := fg (fun x hx => hc x (by simp; exact .inr (by simpa using hx)))
  rw [this]
  cases callee <;> simp only
  rename_i f
  rw [hc f (by simp)]
 case buildSlice t len ps =>
  simp only [Op.operands] at hc
  simp only [qQ]
  rw [ii (ρ' := ρ') (fun x hx => hc x (by simpa using hx))]
theorem tD {T : Tab} {h : Tr AB} {ρ ρ' : Operand -> Option AV} {op : Op} (hc : ∀ x ∈ op.operands.toList, ρ x = ρ' x) : fr T h ρ op = fr T h ρ' op := by
 cases op <;> simp only [fr] <;> simp only [Op.operands] at hc
 case store t a v => rw [hc a (by simp), hc v (by simp)]
section
variable {T : Tab} {call : Nat -> List AV -> AS -> Option (AV × AS)} {nt : Nat} {ops : Array Oper} {h : Tr AB}
def NewAt (T : Tab) (call : Nat -> List AV -> AS -> Option (AV × AS)) (ρ : Operand -> Option AV) (n : Nat) (op : Op) (v : AV) (ob : Option AB) : Prop := (∃ b f, ob = some b /\ eS T ρ op = some (b, f) /\ v = f n) ∨ bE T call n ρ op = some (v, ob)
theorem py {T : Tab} {call : Nat -> List AV -> AS -> Option (AV × AS)} {n : Nat} {ρ ρ' : Operand -> Option AV} {op : Op} (hc : ∀ x ∈ op.operands.toList, ρ x = ρ' x) : bE T call n ρ op = bE T call n ρ' op := by
 cases op <;> simp only [bE]
 case call c =>
  obtain ⟨callee, args, argTypes⟩ := c
  simp only [Op.operands, Call.operands] at hc
  have : bH ρ args.toList = bH ρ' args.toList := fg (fun x hx => hc x (by simp; exact .inr (by simpa using hx)))
  rw [this]
  cases callee <;> simp only
  rename_i f
  rw [hc f (by simp)]
def eL (T : Tab) (call : Nat -> List AV -> AS -> Option (AV × AS)) (nt : Nat) (ops : Array Oper) (h : Tr AB) (n0 : Nat) (TM : Nat -> Tr AV) (NW : Nat -> List (Nat × Nat × Option AB)) (RD : Nat -> List Nat) (NN : Nat -> Nat) (OUT : Nat -> AV) (BL : Nat -> Option AB) (i : Nat) : Prop :=
 ∃ o, ops[i]? = some o /\ dR nt (TM i) o.dst (OUT i) = some (TM (i + 1)) /\
 ((cY ops (TM i) o = some false /\ OUT i = .tup [] /\ NW (i + 1) = NW i /\ RD (i + 1) = RD i /\ NN (i + 1) = NN i) ∨
  (cY ops (TM i) o = some true /\
   ((bk T .nil (ce T (TM i)) o.op = some (OUT i) /\ NW (i + 1) = NW i /\ RD (i + 1) = RD i /\ NN (i + 1) = NN i) ∨
    (NewAt T call (ce T (TM i)) (NN i) o.op (OUT i) (BL i) /\ NW (i + 1) = (i, NN i, BL i) :: NW i /\ RD (i + 1) = RD i /\ NN (i + 1) = NN i + 1) ∨
    (bD n0 (bef ops i) (NW i) (NW i) = true /\ (bk T (eF h (bef ops i) (NW i)) (ce T (TM i)) o.op = some (OUT i) ∨ cw T call (eF h (bef ops i) (NW i)) (NN i) (ce T (TM i)) o.op = some (OUT i)) /\
     NW (i + 1) = NW i /\ RD (i + 1) = i :: RD i /\ NN (i + 1) = NN i) ∨
    (∃ id, bD n0 (bef ops i) (NW i) (NW i) = true /\ (fr T (eF h (bef ops i) (NW i)) (ce T (TM i)) o.op).map (fun p => (p.1, some p.2)) = some (id, BL i) /\ cb n0 (bef ops) (bef ops i) (NW i) id (RD i) = true /\ cE (bef ops i) id (NW i) = true /\
     OUT i = .tup [] /\ NW (i + 1) = (i, id, BL i) :: NW i /\ RD (i + 1) = RD i /\ NN (i + 1) = NN i))))
theorem uz {n0 : Nat} : ∀ (l : List Oper) (i : Nat) (tm : Tr AV) (news : List (Nat × Nat × Option AB)) (rd : List Nat) (n : Nat) (tm' : Tr AV) (news' : List (Nat × Nat × Option AB)) (n' : Nat), (∀ j, l[j]? = ops[i + j]?) ->
  aX T call nt ops h n0 (oc ops) l i tm news rd n = some (tm', news', n') ->
  ∃ TM NW RD NN OUT BL, TM i = tm /\ NW i = news /\ RD i = rd /\ NN i = n /\ TM (i + l.length) = tm' /\ NW (i + l.length) = news' /\ NN (i + l.length) = n' /\ ∀ k, i <= k -> k < i + l.length -> eL T call nt ops h n0 TM NW RD NN OUT BL k
 | [], i, tm, news, rd, n, tm', news', n', _, hv => by
  injection hv with hv; simp only [Prod.mk.injEq] at hv; obtain ⟨rfl, rfl, rfl⟩ := hv
  exact ⟨fun _ => tm, fun _ => news, fun _ => rd, fun _ => n, fun _ => default, fun _ => default, rfl, rfl, rfl, rfl, rfl, rfl, rfl, fun k h1 h2 => by simp at h2; omega⟩
 | o :: os, i, tm, news, rd, n, tm', news', n', hl, hv => by
  have ho : ops[i]? = some o := by have := hl 0; simpa using this.symm
  have hl' : ∀ j, os[j]? = ops[i + 1 + j]? := fun j => by
   have := hl (j + 1); rw [Nat.add_assoc, Nat.add_comm 1 j]; simpa using this
  have go : ∀ (tm1 : Tr AV) (news1 : List (Nat × Nat × Option AB)) (rd1 : List Nat) (n1 : Nat) (out : AV) (bl : Option AB), aX T call nt ops h n0 (oc ops) os (i + 1) tm1 news1 rd1 n1 = some (tm', news', n') ->
    dR nt tm o.dst out = some tm1 ->
    ((cY ops tm o = some false /\ out = .tup [] /\ news1 = news /\ rd1 = rd /\ n1 = n) ∨ (cY ops tm o = some true /\
     ((bk T .nil (ce T tm) o.op = some out /\ news1 = news /\ rd1 = rd /\ n1 = n) ∨
      (NewAt T call (ce T tm) n o.op out bl /\ news1 = (i, n, bl) :: news /\ rd1 = rd /\ n1 = n + 1) ∨
      (bD n0 (bef ops i) news news = true /\ (bk T (eF h (bef ops i) news) (ce T tm) o.op = some out ∨ cw T call (eF h (bef ops i) news) n (ce T tm) o.op = some out) /\ news1 = news /\ rd1 = i :: rd /\ n1 = n) ∨
      (∃ id, bD n0 (bef ops i) news news = true /\ (fr T (eF h (bef ops i) news) (ce T tm) o.op).map (fun p => (p.1, some p.2)) = some (id, bl) /\ cb n0 (bef ops) (bef ops i) news id rd = true /\ cE (bef ops i) id news = true /\
       out = .tup [] /\ news1 = (i, id, bl) :: news /\ rd1 = rd /\ n1 = n)))) ->
    ∃ TM NW RD NN OUT BL, TM i = tm /\ NW i = news /\ RD i = rd /\ NN i = n /\ TM (i + (o :: os).length) = tm' /\ NW (i + (o :: os).length) = news' /\ NN (i + (o :: os).length) = n' /\ ∀ k, i <= k -> k < i + (o :: os).length -> eL T call nt ops h n0 TM NW RD NN OUT BL k := by
   intro tm1 news1 rd1 n1 out bl hrec hput hcase
   obtain ⟨TM, NW, RD, NN, OUT, BL, t1, t2, t2', t3, t4, t5, t6, t7⟩ := uz os (i + 1) tm1 news1 rd1 n1 tm' news' n' hl' hrec
   have e : i + (o :: os).length = i + 1 + os.length := by simp; omega
   refine ⟨fun k => if k = i then tm else TM k, fun k => if k = i then news else NW k, fun k => if k = i then rd else RD k, fun k => if k = i then n else NN k, fun k => if k = i then out else OUT k, fun k => if k = i then bl else BL k,
    if_pos rfl, if_pos rfl, if_pos rfl, if_pos rfl, ?_, ?_, ?_, fun k h1 h2 => ?_⟩
   ·rw [e]; dsimp only; rw [if_neg (by omega)]; exact t4
   ·rw [e]; dsimp only; rw [if_neg (by omega)]; exact t5
   ·rw [e]; dsimp only; rw [if_neg (by omega)]; exact t6
   ·by_cases hk : k = i
    ·subst hk
     refine ⟨o, ho, ?_, ?_⟩
     ·dsimp only; rw [if_pos rfl, if_pos rfl, if_neg (by omega), t1]; exact hput
     ·dsimp only
      simp only [if_true, if_neg (show ¬ k + 1 = k by omega), t2, t2', t3]; exact hcase
    ·obtain ⟨o', g1, g2, g3⟩ := t7 k (by omega) (by omega)
     refine ⟨o', g1, ?_, ?_⟩
     ·dsimp only; simp only [if_neg hk, if_neg (show ¬ k + 1 = i by omega)]; exact g2
     ·dsimp only; simp only [if_neg hk, if_neg (show ¬ k + 1 = i by omega)]; exact g3
  unfold aX at hv
  split at hv
  ·rename_i hw
   split at hv
   ·rename_i v hq
    split at hv
    ·rename_i tm1 hp
     exact go tm1 news rd n v default hv hp (.inr ⟨hw, .inl ⟨hq, rfl, rfl, rfl⟩⟩)
    ·cases hv
   ·split at hv
    ·rename_i b f hq
     split at hv
     ·rename_i tm1 hp
      exact go tm1 _ _ _ _ (some b) hv hp (.inr ⟨hw, .inr (.inl ⟨.inl ⟨b, f, rfl, hq, rfl⟩, rfl, rfl, rfl⟩)⟩)
     ·cases hv
    ·split at hv
     ·rename_i v b hq
      split at hv
      ·rename_i tm1 hp
       exact go tm1 _ _ _ _ b hv hp (.inr ⟨hw, .inr (.inl ⟨.inr hq, rfl, rfl, rfl⟩)⟩)
      ·cases hv
     ·split at hv
      ·cases hv
      ·rename_i hrd
       split at hv
       ·rename_i v hq
        split at hv
        ·rename_i tm1 hp
         exact go tm1 news _ n v default hv hp (.inr ⟨hw, .inr (.inr (.inl ⟨hrd, .inl hq, rfl, rfl, rfl⟩))⟩)
        ·cases hv
       ·split at hv
        ·rename_i v hq
         split at hv
         ·rename_i tm1 hp
          exact go tm1 news _ n v default hv hp (.inr ⟨hw, .inr (.inr (.inl ⟨hrd, .inr hq, rfl, rfl, rfl⟩))⟩)
         ·cases hv
        ·split at hv
         ·rename_i id b hq
          split at hv
          ·rename_i hck
           simp only [Bool.and_eq_true] at hck
           split at hv
           ·rename_i tm1 hp
            exact go tm1 _ rd n _ (some b) hv hp (.inr ⟨hw, .inr (.inr (.inr ⟨id, hrd, by rw [hq]; rfl, hck.1, hck.2, rfl, rfl, rfl, rfl⟩))⟩)
           ·cases hv
          ·cases hv
         ·cases hv
  ·rename_i hw
   split at hv
   ·rename_i tm1 hp
    exact go tm1 news rd n _ default hv hp (.inl ⟨hw, rfl, rfl, rfl, rfl⟩)
   ·cases hv
  ·cases hv
end
def TLn (ops : Array Oper) (OUT : Nat -> AV) (f : Nat -> Bool) (tm0 : Tr AV) : Nat -> Nat -> Option AV
 | 0, t => tm0.get t
 | k + 1, t => match ops[k]? with
  | some o => if f k = true /\ wr o t = true then some (OUT k) else TLn ops OUT f tm0 k t
  | none => TLn ops OUT f tm0 k t
theorem lE {o : Oper} {t : Nat} : wr o t = true ↔ o.dst = some t := by
 unfold wr
 cases h : o.dst with
 | none => simp
 | some d => simp
section
variable {ops : Array Oper} {OUT : Nat -> AV} {tm0 : Tr AV}
theorem lq {f g : Nat -> Bool} {t : Nat} : ∀ (n : Nat), (∀ k o, k < n -> ops[k]? = some o -> wr o t = true -> f k = g k) -> TLn ops OUT f tm0 n t = TLn ops OUT g tm0 n t
 | 0, _ => rfl
 | n + 1, h => by
  unfold TLn
  rw [lq n (fun k o hk ho hw => h k o (by omega) ho hw)]
  cases ho : ops[n]? with
  | none => rfl
  | some o =>
   simp only
   by_cases hw : wr o t = true
   ·rw [h n o (by omega) ho hw]
   ·rw [if_neg (fun q => hw q.2), if_neg (fun q => hw q.2)]
theorem ng {f : Nat -> Bool} {t i : Nat} : ∀ (n : Nat), i <= n -> (∀ k o, i <= k -> k < n -> ops[k]? = some o -> wr o t = true -> f k = false) -> TLn ops OUT f tm0 n t = TLn ops OUT f tm0 i t
 | 0, hi, _ => by obtain rfl : i = 0 := by omega
                  rfl
 | n + 1, hi, h => by
  by_cases e : i = n + 1
  ·rw [e]
  ·have ih := ng n (by omega) (fun k o h1 h2 ho hw => h k o h1 (by omega) ho hw)
   rw [<- ih]
   conv => lhs; unfold TLn
   cases ho : ops[n]? with
   | none => rfl
   | some o =>
    simp only
    rw [if_neg]
    intro q
    rw [h n o (by omega) (by omega) ho q.2] at q
    cases q.1
def iX (f : Nat -> Bool) (H : Nat -> Option AB) : List (Nat × Nat × Option AB) -> Nat -> Option AB
 | [], id => H id
 | (j, id', b) :: r, id => if id = id' /\ f j = true then b else iX f H r id
theorem yp (h : Tr AB) : ∀ (l : List (Nat × Nat × Option AB)) (id : Nat), (lay h l).get id = iX (fun _ => true) h.get l id
 | [], id => rfl
 | (j, id', b) :: r, id => by
  unfold lay iX
  rw [Tr.get_put, yp h r]
  by_cases e : id = id'
  ·rw [if_pos e, if_pos ⟨e, rfl⟩]
  ·rw [if_neg e, if_neg (fun q => e q.1)]
theorem vv {f : Nat -> Bool} {H : Nat -> Option AB} {id : Nat} : ∀ (l : List (Nat × Nat × Option AB)), (∀ j b, (j, id, b) ∈ l -> f j = false) -> iX f H l id = H id
 | [], _ => rfl
 | (j1, id1, b1) :: r, h => by
  unfold iX
  rw [if_neg, vv r (fun j b hm => h j b (by simp [hm]))]
  rintro ⟨rfl, q⟩
  rw [h j1 b1 (by simp)] at q; cases q
theorem lZ (h : Tr AB) (bs : List Nat) : ∀ (l : List (Nat × Nat × Option AB)) (id : Nat) (b : AB), (eF h bs l).get id = some b -> (∃ j, (j, id, some b) ∈ l /\ aY j bs = true) ∨ h.get id = some b
 | [], id, b, hv => .inr hv
 | (j, id', b') :: r, id, b, hv => by
  unfold eF at hv
  split at hv
  ·rename_i hm
   rw [Tr.get_put] at hv
   split at hv
   ·rename_i e
    subst hv; subst e
    exact .inl ⟨j, by simp, hm⟩
   ·rcases lZ h bs r id b hv with ⟨j', h1, h2⟩ | h1
    ·exact .inl ⟨j', by simp [h1], h2⟩
    ·exact .inr h1
  ·rcases lZ h bs r id b hv with ⟨j', h1, h2⟩ | h1
   ·exact .inl ⟨j', by simp [h1], h2⟩
   ·exact .inr h1
end
theorem rT {h : Tr AB} {bs : List Nat} {f : Nat -> Bool} {id : Nat} : ∀ (l : List (Nat × Nat × Option AB)), (∀ k b, (k, id, b) ∈ l -> f k = true /\ aY k bs = true) -> iX f h.get l id = (eF h bs l).get id
 | [], _ => rfl
 | (k, id', b) :: r, hall => by
  have ih := rT (h := h) (bs := bs) (f := f) r (fun k b hm => hall k b (List.mem_cons_of_mem _ hm))
  unfold iX eF
  by_cases e : id = id'
  ·subst e
   obtain ⟨h1, h2⟩ := hall k b (by simp)
   rw [if_pos ⟨rfl, h1⟩, h2]
   simp only
   rw [Tr.get_put, if_pos rfl]
  ·rw [if_neg (fun q => e q.1), ih]
   split
   ·rw [Tr.get_put, if_neg e]
   ·rfl
theorem qM {f : Nat -> Bool} {H : Nat -> Option AB} {id : Nat} : ∀ (p l : List (Nat × Nat × Option AB)), (∀ k b, (k, id, b) ∈ p -> f k = false) -> iX f H (p ++ l) id = iX f H l id
 | [], l, _ => rfl
 | (k, id', b) :: p, l, hp => by
  show (if id = id' /\ f k = true then b else iX f H (p ++ l) id) = _
  rw [if_neg, qM p l (fun k b hm => hp k b (List.mem_cons_of_mem _ hm))]
  rintro ⟨rfl, q⟩
  rw [hp k b List.mem_cons_self] at q; cases q
theorem rZ {bs : List Nat} {id : Nat} : ∀ {l : List (Nat × Nat × Option AB)}, sa bs id l = true ↔ ∃ k b, (k, id, b) ∈ l /\ aY k bs = true
 | [] => by simp [sa]
 | (k, id', b) :: r => by
  simp only [sa, Bool.or_eq_true, Bool.and_eq_true, rZ (l := r), List.mem_cons]
  constructor
  ·rintro (⟨h1, h2⟩ | ⟨k', b', h1, h2⟩)
   ·have := Nat.eq_of_beq_eq_true h1; subst this
    exact ⟨k, b, .inl rfl, h2⟩
   ·exact ⟨k', b', .inr h1, h2⟩
  ·rintro ⟨k', b', h1 | h1, h2⟩
   ·simp only [Prod.mk.injEq] at h1
    obtain ⟨rfl, rfl, rfl⟩ := h1
    exact .inl ⟨Nat.beq_refl _, h2⟩
   ·exact .inr ⟨k', b', h1, h2⟩
theorem pW {n0 : Nat} {bs : List Nat} {l : List (Nat × Nat × Option AB)} {id : Nat} : rG n0 bs l id = true ↔ id < n0 ∨ ∃ k b, (k, id, b) ∈ l /\ aY k bs = true := by
 unfold rG
 rw [Bool.or_eq_true, rZ]
 constructor
 ·rintro (h | h)
  ·exact .inl (Nat.le_of_ble_eq_true h)
  ·exact .inr h
 ·rintro (h | h)
  ·exact .inl (Nat.ble_eq_true_of_le h)
  ·exact .inr h
theorem sj {n0 : Nat} {bs : List Nat} {news : List (Nat × Nat × Option AB)} : ∀ {l : List (Nat × Nat × Option AB)}, bD n0 bs news l = true -> ∀ k id b, (k, id, b) ∈ l -> rG n0 bs news id = true -> aY k bs = true
 | [], _, k, id, b, hm, _ => by cases hm
 | (k', id', b') :: r, h, k, id, b, hm, hv => by
  simp only [bD, Bool.and_eq_true, Bool.or_eq_true, Bool.not_eq_true'] at h
  rcases List.mem_cons.1 hm with hm | hm
  ·simp only [Prod.mk.injEq] at hm
   obtain ⟨rfl, rfl, rfl⟩ := hm
   rcases h.1 with q | q
   ·rw [hv] at q; cases q
   ·exact q
  ·exact sj h.2 k id b hm hv
theorem uT {n0 : Nat} {bef : Nat -> List Nat} {bs : List Nat} {news : List (Nat × Nat × Option AB)} {id : Nat} : ∀ {l : List Nat}, cb n0 bef bs news id l = true -> ∀ i ∈ l, rG n0 (bef i) news id = true -> aY i bs = true
 | [], _, i, hm, _ => by cases hm
 | i' :: r, h, i, hm, hv => by
  simp only [cb, Bool.and_eq_true, Bool.or_eq_true, Bool.not_eq_true'] at h
  rcases List.mem_cons.1 hm with rfl | hm
  ·rcases h.1 with q | q
   ·rw [hv] at q; cases q
   ·exact q
  ·exact uT h.2 i hm hv
theorem uo {bs : List Nat} {id : Nat} : ∀ {l : List (Nat × Nat × Option AB)}, cE bs id l = true -> ∀ k b, (k, id, b) ∈ l -> aY k bs = true
 | [], _, k, b, hm => by cases hm
 | (k', id', b') :: r, h, k, b, hm => by
  simp only [cE, Bool.and_eq_true, Bool.or_eq_true, Bool.not_eq_true'] at h
  rcases List.mem_cons.1 hm with hm | hm
  ·simp only [Prod.mk.injEq] at hm
   obtain ⟨rfl, rfl, rfl⟩ := hm
   rcases h.1 with q | q
   ·rw [Nat.beq_refl] at q; cases q
   ·exact q
  ·exact uo h.2 k b hm
theorem uC {T : Tab} {h : Tr AB} {ρ : Operand -> Option AV} {op : Op} {id : Nat} {b : AB} (hs : fr T h ρ op = some (id, b)) : ∃ cs e g, h.get id = some (.cells cs e g) := by
 unfold fr at hs
 split at hs
 ·split at hs
  ·split at hs
   ·split at hs
    ·split at hs
     ·rename_i cs e g hb
      split at hs
      ·injection hs with hs; simp only [Prod.mk.injEq] at hs; obtain ⟨rfl, _⟩ := hs
       exact ⟨cs, e, g, hb⟩
      ·cases hs
     ·cases hs
    ·cases hs
   ·cases hs
  ·cases hs
 ·cases hs
section
variable {P : Program} {T : Tab} {call : Nat -> List AV -> AS -> Option (AV × AS)} {nt : Nat} {ops : Array Oper} (hok : cv ops = true) {h : Tr AB} {n0 : Nat}
 {TM : Nat -> Tr AV} {NW : Nat -> List (Nat × Nat × Option AB)} {RD : Nat -> List Nat} {NN : Nat -> Nat} {OUT : Nat -> AV} {BL : Nat -> Option AB} (tr : ∀ k, k < ops.size -> eL T call nt ops h n0 TM NW RD NN OUT BL k)
 (nw0 : NW 0 = []) (nn0 : NN 0 = n0) (hdom : ∀ id b, h.get id = some b -> id < n0)
theorem qd (tr : ∀ k, k < ops.size -> eL T call nt ops h n0 TM NW RD NN OUT BL k) : ∀ (n t : Nat), n <= ops.size -> (TM n).get t = TLn ops OUT (fun _ => true) (TM 0) n t
 | 0, t, _ => rfl
 | n + 1, t, hn => by
  obtain ⟨o, ho, hp, _⟩ := tr n (by omega)
  unfold TLn
  rw [ho]
  simp only [true_and]
  rw [<- qd tr n t (by omega)]
  unfold dR at hp
  split at hp
  ·rename_i hd
   injection hp with hp; rw [<- hp, if_neg]
   rw [lE, hd]; simp
  ·rename_i d hd
   split at hp
   ·injection hp with hp; rw [<- hp, Tr.get_put]
    by_cases e : t = d
    ·rw [if_pos e, if_pos]; rw [lE, hd, e]
    ·rw [if_neg e, if_neg]; rw [lE, hd]; intro q; injection q with q; exact e q.symm
   ·cases hp
theorem yh (tr : ∀ k, k < ops.size -> eL T call nt ops h n0 TM NW RD NN OUT BL k) (k : Nat) (hk : k < ops.size) : NN k <= NN (k + 1) := by
 obtain ⟨o, _, _, hc⟩ := tr k hk
 rcases hc with ⟨_, _, _, _, h4⟩ | ⟨_, ⟨_, _, _, h4⟩ | ⟨_, _, _, h4⟩ | ⟨_, _, _, _, h4⟩ | ⟨_, _, _, _, _, _, _, _, h4⟩⟩ <;> omega
theorem kZ (tr : ∀ k, k < ops.size -> eL T call nt ops h n0 TM NW RD NN OUT BL k) : ∀ (j i : Nat), i <= j -> j <= ops.size -> NN i <= NN j
 | 0, i, h1, _ => by obtain rfl : i = 0 := by omega
                     exact Nat.le_refl _
 | j + 1, i, h1, h2 => by
  by_cases e : i = j + 1
  ·rw [e]; exact Nat.le_refl _
  ·have := kZ tr j i (by omega) (by omega)
   have := yh tr j (by omega)
   omega
theorem gQ (tr : ∀ k, k < ops.size -> eL T call nt ops h n0 TM NW RD NN OUT BL k) : ∀ (n m : Nat), m <= n -> n <= ops.size -> ∃ p, NW n = p ++ NW m /\ ∀ k id b, (k, id, b) ∈ p -> m <= k /\ k < n
 | 0, m, h1, _ => by obtain rfl : m = 0 := by omega
                     exact ⟨[], rfl, fun k id b h => by cases h⟩
 | n + 1, m, h1, h2 => by
  by_cases e : m = n + 1
  ·subst e; exact ⟨[], rfl, fun k id b h => by cases h⟩
  ·obtain ⟨p, hp1, hp2⟩ := gQ tr n m (by omega) (by omega)
   obtain ⟨o, _, _, hc⟩ := tr n (by omega)
   have same : NW (n + 1) = NW n -> ∃ p, NW (n + 1) = p ++ NW m /\ ∀ k id b, (k, id, b) ∈ p -> m <= k /\ k < n + 1 := fun q =>
    ⟨p, by rw [q, hp1], fun k id b hm => ⟨(hp2 k id b hm).1, by have := (hp2 k id b hm).2; omega⟩⟩
   have more : ∀ id0 b0, NW (n + 1) = (n, id0, b0) :: NW n -> ∃ p, NW (n + 1) = p ++ NW m /\ ∀ k id b, (k, id, b) ∈ p -> m <= k /\ k < n + 1 := fun id0 b0 q => by
    refine ⟨(n, id0, b0) :: p, by rw [q, hp1]; rfl, fun k id b hm => ?_⟩
    rcases List.mem_cons.1 hm with hm | hm
    ·simp only [Prod.mk.injEq] at hm; omega
    ·have := hp2 k id b hm; omega
   rcases hc with ⟨_, _, h3, _⟩ | ⟨_, ⟨_, h3, _⟩ | ⟨_, h3, _⟩ | ⟨_, _, h3, _⟩ | ⟨id, _, _, _, _, _, h3, _⟩⟩
   ·exact same h3
   ·exact same h3
   ·exact more _ _ h3
   ·exact same h3
   ·exact more _ _ h3
theorem rd_mem (tr : ∀ k, k < ops.size -> eL T call nt ops h n0 TM NW RD NN OUT BL k) : ∀ (n i : Nat), i < n -> n <= ops.size -> i ∈ RD (i + 1) -> i ∈ RD n
 | 0, i, h1, _, _ => by omega
 | n + 1, i, h1, h2, hm => by
  by_cases e : i = n
  ·subst e; exact hm
  ·have ih := rd_mem tr n i (by omega) (by omega) hm
   obtain ⟨o, _, _, hc⟩ := tr n (by omega)
   rcases hc with ⟨_, _, _, h3, _⟩ | ⟨_, ⟨_, _, h3, _⟩ | ⟨_, _, h3, _⟩ | ⟨_, _, _, h3, _⟩ | ⟨id, _, _, _, _, _, _, h3, _⟩⟩ <;> rw [h3] <;> first | exact ih | exact List.mem_cons_of_mem _ ih
theorem qG (tr : ∀ k, k < ops.size -> eL T call nt ops h n0 TM NW RD NN OUT BL k) (nw0 : NW 0 = []) {n : Nat} (hn : n <= ops.size) {k id : Nat} {b : Option AB} (hm : (k, id, b) ∈ NW n) : k < n := by
 obtain ⟨p, h1, h2⟩ := gQ tr n 0 (by omega) hn
 rw [h1, nw0, List.append_nil] at hm
 exact (h2 k id b hm).2
theorem qF (tr : ∀ k, k < ops.size -> eL T call nt ops h n0 TM NW RD NN OUT BL k) (nw0 : NW 0 = []) {n : Nat} (hn : n <= ops.size) {k id : Nat} {b : Option AB} (hm : (k, id, b) ∈ NW n) : b = BL k /\ NW (k + 1) = (k, id, BL k) :: NW k /\
  ((id = NN k /\ NN (k + 1) = NN k + 1) ∨ (∃ o, ops[k]? = some o /\ (fr T (eF h (bef ops k) (NW k)) (ce T (TM k)) o.op).map (fun p => (p.1, some p.2)) = some (id, BL k) /\ cb n0 (bef ops) (bef ops k) (NW k) id (RD k) = true /\ cE (bef ops k) id (NW k) = true)) := by
 have hk := qG tr nw0 hn hm
 have hin : (k, id, b) ∈ NW (k + 1) := by
  obtain ⟨p, h1, h2⟩ := gQ tr n (k + 1) (by omega) hn
  rw [h1] at hm
  rcases List.mem_append.1 hm with hm | hm
  ·have := h2 k id b hm; omega
  ·exact hm
 obtain ⟨o, ho, _, hc⟩ := tr k (by omega)
 have no : NW (k + 1) = NW k -> False := fun q => by
  rw [q] at hin
  have := qG tr nw0 (by omega) hin; omega
 have one : ∀ id0, NW (k + 1) = (k, id0, BL k) :: NW k -> id = id0 /\ b = BL k := fun id0 q => by
  rw [q] at hin
  rcases List.mem_cons.1 hin with hin | hin
  ·simp only [Prod.mk.injEq] at hin; exact ⟨hin.2.1, hin.2.2⟩
  ·have := qG tr nw0 (by omega) hin; omega
 rcases hc with ⟨_, _, h3, _⟩ | ⟨_, ⟨_, h3, _⟩ | ⟨_, h3, _, h5⟩ | ⟨_, _, h3, _⟩ | ⟨id0, _, h6, h7, h8, _, h3, _⟩⟩
 ·exact (no h3).elim
 ·exact (no h3).elim
 ·obtain ⟨rfl, rfl⟩ := one _ h3
  exact ⟨rfl, h3, .inl ⟨rfl, h5⟩⟩
 ·exact (no h3).elim
 ·obtain ⟨rfl, rfl⟩ := one _ h3
  exact ⟨rfl, h3, .inr ⟨o, ho, h6, h7, h8⟩⟩
theorem sk (tr : ∀ k, k < ops.size -> eL T call nt ops h n0 TM NW RD NN OUT BL k) (nw0 : NW 0 = []) (nn0 : NN 0 = n0) (hdom : ∀ id b, h.get id = some b -> id < n0) : ∀ (n : Nat), n <= ops.size -> ∀ k id b, (k, id, b) ∈ NW n -> id < NN n
 | 0, _, k, id, b, hm => by rw [nw0] at hm; cases hm
 | n + 1, hn, k, id, b, hm => by
  have hst := yh tr n (by omega)
  by_cases e : k = n
  ·subst e
   rcases (qF tr nw0 hn hm).2.2 with ⟨h1, h2⟩ | ⟨o, _, h1, _⟩
   ·omega
   ·obtain ⟨⟨id2, b2⟩, h1', h1e⟩ := Option.map_eq_some_iff.1 h1
    simp only [Prod.mk.injEq] at h1e
    rw [h1e.1] at h1'
    obtain ⟨cs, el, g, hv⟩ := uC h1'
    rcases lZ h _ _ id _ hv with ⟨j, q1, _⟩ | q1
    ·have := sk tr nw0 nn0 hdom k (by omega) j id _ q1; omega
    ·have := hdom id _ q1
     have := kZ tr k 0 (by omega) (by omega); omega
  ·have hk := qG tr nw0 hn hm
   obtain ⟨p, h1, h2⟩ := gQ tr (n + 1) n (by omega) hn
   rw [h1] at hm
   rcases List.mem_append.1 hm with hm | hm
   ·have := h2 k id b hm; omega
   ·have := sk tr nw0 nn0 hdom n (by omega) k id b hm; omega
theorem kA (tr : ∀ k, k < ops.size -> eL T call nt ops h n0 TM NW RD NN OUT BL k) (nw0 : NW 0 = []) (nn0 : NN 0 = n0) (hdom : ∀ id b, h.get id = some b -> id < n0) {i k id : Nat} {b b' : Option AB} (hik : i < k) (h1 : (i, id, b) ∈ NW ops.size) (h2 : (k, id, b') ∈ NW ops.size) : aY i (bef ops k) = true := by
 have hk := qG tr nw0 (Nat.le_refl _) h2
 have hin : (i, id, b) ∈ NW k := by
  obtain ⟨p, q1, q2⟩ := gQ tr ops.size k (by omega) (Nat.le_refl _)
  rw [q1] at h1
  rcases List.mem_append.1 h1 with h1 | h1
  ·have := q2 i id b h1; omega
  ·exact h1
 rcases (qF tr nw0 (Nat.le_refl _) h2).2.2 with ⟨e, _⟩ | ⟨o, _, _, _, hw⟩
 ·have := sk tr nw0 nn0 hdom k (by omega) i id b hin; omega
 ·exact uo hw i b hin
end
theorem cB {L : Array Bool} {i : Nat} (hi : i < L.size) (k : Nat) : lst (L.setIfInBounds i true) k = if k = i then true else lst L k := by
 unfold lst
 by_cases e : k = i
 ·subst e; simp [hi]
 ·rw [if_neg e]; simp [Array.getElem?_setIfInBounds_ne (fun q => e q.symm)]
theorem fF {L : Array Bool} {i : Nat} (hi : i < L.size) : L.getD i true = lst L i := by unfold lst; simp [hi]
theorem oe {x : Oper} : ∀ {ts : List Nat}, tq x ts = true ↔ ∃ t ∈ ts, wr x t = true
 | [] => by simp [tq]
 | t :: ts => by simp [tq, oe]
theorem qJ {t : Nat} : ∀ {xs : List Operand}, Operand.tmp t ∈ xs -> t ∈ gO xs
 | [], h => by cases h
 | x :: xs, h => by
  rcases List.mem_cons.1 h with rfl | h
  ·simp [gO]
  ·have := qJ h
   cases x <;> simp [gO, this]
theorem reads_op {ops : Array Oper} {o : Oper} {t : Nat} (h : t ∈ gO o.op.operands.toList) : t ∈ kU ops o := by
 unfold kU
 split
 ·exact h
 ·split
  ·split
   ·exact List.mem_cons_of_mem _ h
   ·exact h
  ·exact h
theorem jz {f g : Nat -> Bool} {H : Nat -> Option AB} {id : Nat} : ∀ (l : List (Nat × Nat × Option AB)), (∀ j b, (j, id, b) ∈ l -> f j = g j) -> iX f H l id = iX g H l id
 | [], _ => rfl
 | (j, id', b) :: r, h => by
  unfold iX
  rw [jz r (fun j b hm => h j b (by simp [hm]))]
  by_cases e : id = id'
  ·subst e; rw [h j b (by simp)]
  ·rw [if_neg (fun q => e q.1), if_neg (fun q => e q.1)]
theorem tb {p q : Nat -> Bool} {i : Nat} : ∀ {l : List Nat}, i ∈ l -> p i = true -> q i = false -> (∀ x, q x = true -> p x = true) -> l.countP q < l.countP p
 | [], h, _, _, _ => by cases h
 | x :: xs, h, hp, hq, hqp => by
  have le : xs.countP q <= xs.countP p := List.countP_mono_left fun x _ hx => hqp x hx
  rcases List.mem_cons.1 h with rfl | h
  ·rw [List.countP_cons_of_pos hp, List.countP_cons_of_neg (by simp [hq])]; omega
  ·have ih := tb h hp hq hqp
   by_cases hx : q x = true
   ·rw [List.countP_cons_of_pos hx, List.countP_cons_of_pos (hqp x hx)]; omega
   ·rw [List.countP_cons_of_neg hx]
    have : xs.countP p <= (x :: xs).countP p := by
     by_cases hpx : p x = true
     ·rw [List.countP_cons_of_pos hpx]; omega
     ·rw [List.countP_cons_of_neg hpx]; exact Nat.le_refl _
    omega
structure At (P : Program) (T : Tab) (B nt : Nat) (ops : Array Oper) (h : Tr AB) (tm0 : Tr AV) (nws : List (Nat × Nat × Option AB)) (n0 : Nat) (OUT : Nat -> AV) (L : Array Bool) (φ : Nat -> Nat × Nat) (A S : Nat -> Prop) (w : World) (a : Act) : Prop where
 sz : L.size = ops.size
 cl : Closed ops L
 tr : TR φ A S w nt (TLn ops OUT (lst L) tm0 ops.size) a
 inv : Inv P B φ A S (iX (lst L) h.get nws) w
 al : ∀ id, A id -> id < n0 ∨ ∃ j b, (j, id, b) ∈ nws /\ lst L j = true
 gl : GL T φ A S w
section
variable {P : Program} {T : Tab} (hT : TabOK P T) {call : Nat -> List AV -> AS -> Option (AV × AS)} (hC : CallOK P T call) {nt B : Nat} {ops : Array Oper} (hok : cv ops = true) {h : Tr AB} {n0 : Nat}
 {TM : Nat -> Tr AV} {NW : Nat -> List (Nat × Nat × Option AB)} {RD : Nat -> List Nat} {NN : Nat -> Nat} {OUT : Nat -> AV} {BL : Nat -> Option AB} (tr : ∀ k, k < ops.size -> eL T call nt ops h n0 TM NW RD NN OUT BL k)
 (nw0 : NW 0 = []) (nn0 : NN 0 = n0) (hdom : ∀ id b, h.get id = some b -> id < n0)
theorem at_step (hT : TabOK P T) (hC : CallOK P T call) (hok : cv ops = true) (tr : ∀ k, k < ops.size -> eL T call nt ops h n0 TM NW RD NN OUT BL k) (nw0 : NW 0 = []) (nn0 : NN 0 = n0) (hdom : ∀ id b, h.get id = some b -> id < n0) {L : Array Bool} {φ : Nat -> Nat × Nat} {A S : Nat -> Prop} {w : World} {a : Act} (J : At P T B nt ops h (TM 0) (NW ops.size) n0 OUT L φ A S w a) {i : Nat} (hi : i ∈ Region.ready .any ops L) {Q : Exit -> Act -> World -> Prop} {next : Act -> World -> Prop}
  (K : ∀ a' φ' A' S' w', Step B φ A S w φ' A' S' w' -> At P T B nt ops h (TM 0) (NW ops.size) n0 OUT (L.setIfInBounds i true) φ' A' S' w' a' -> next a' w') : wpOp P ops Q i next a w := by
 obtain ⟨hun, o, ho, hall⟩ := mem_ready.1 hi
 have hlt : i < ops.size := (Array.getElem?_eq_some_iff.1 ho).1
 have hltL : i < L.size := by rw [J.sz]; exact hlt
 rw [fF hltL] at hun
 have hall' : ∀ e ∈ o.after.toList, binds e = true -> lst L e.on = true := fun e he hb => hall e (by simpa using he) (by unfold binds at hb; unfold Region.binds; split at hb <;> simp_all)
 have hbef := na hok J.cl i o ho hall'
 have hlater : ∀ k y, i < k -> ops[k]? = some y -> mX ops o y = true -> lst L k = false := by
  intro k y hk hy hc
  cases hq : lst L k with
  | false => rfl
  | true =>
   have h1 := vd hok hk ho hy hc
   have h2 := na hok J.cl k y hy (fun e he hb => J.cl k y hq hy e he hb) i h1
   rw [hun] at h2; cases h2
 have hearlier : ∀ k x, k < i -> ops[k]? = some x -> mX ops x o = true -> lst L k = true := fun k x hk hx hc => hbef k (vd hok hk hx ho hc)
 have hread : ∀ t ∈ kU ops o, TLn ops OUT (lst L) (TM 0) ops.size t = (TM i).get t := by
  intro t ht
  rw [qd tr i t (by omega), ng ops.size (Nat.le_of_lt hlt) (fun k y h1 h2 hy hw => ?_)]
  ·refine lq i (fun k x hk hx hw => ?_)
   exact hearlier k x hk hx (by unfold mX; rw [oe.2 ⟨t, ht, hw⟩]; rfl)
  ·rcases Nat.eq_or_lt_of_le h1 with rfl | h1
   ·exact hun
   ·exact hlater k y h1 hy (by unfold mX; rw [oe.2 ⟨t, ht, hw⟩]; simp)
 obtain ⟨o', ho', hput, hcase⟩ := tr i hlt
 obtain rfl : o' = o := by rw [ho] at ho'; injection ho' with e; exact e.symm
 let ρ' : Operand -> Option AV := fun x => match x with
  | .tmp t => if t ∈ gO o'.op.operands.toList then (TM i).get t else none
  | x => ce T (TM i) x
 have hρ' : ∀ x v, ρ' x = some v -> VR φ A S w v (a.eval x) := by
  intro x v hv
  cases x with
  | tmp t =>
   simp only [ρ'] at hv
   split at hv
   ·rename_i ht
    rw [<- hread t (reads_op ht)] at hv
    exact J.tr.val t v hv
   ·cases hv
  | const c => exact eC hv
  | global g =>
   cases hc : T.gl g with
   | none => simp [ρ', ce, hc] at hv
   | some cs => simp [ρ', ce, hc] at hv; subst hv; exact (J.gl g cs hc).1
  | func f => injection hv with hv; subst hv; exact .fn f [] [] [] [] rfl rfl (fun j c v h => by simp at h) (fun j c v h => by simp at h)
 have hcong : ∀ x ∈ o'.op.operands.toList, ce T (TM i) x = ρ' x := by
  intro x hx
  cases x with
  | tmp t => simp only [ρ', ce]; rw [if_pos (qJ hx)]
  | const c => rfl
  | global g => rfl
  | func f => rfl
 have hwant : ∀ b, cY ops (TM i) o' = some b -> Region.wanted o' (yielded ops a.tmps) = b := by
  intro b hb
  refine xJ J.tr ?_
  rw [<- hb]
  unfold cY
  cases hg : o'.guard with
  | none => rfl
  | some p =>
   obtain ⟨j, want⟩ := p
   simp only
   cases hj : ops[j]? with
   | none => rfl
   | some oj =>
    simp only
    cases hd : oj.dst with
    | none => rfl
    | some d =>
     simp only
     rw [hread d (by unfold kU; simp [hg, hj, hd])]
     rfl
 have hwaits : ∀ k y, ops[k]? = some y -> lst L k = true -> aY i (bef ops k) = true -> False := fun k y hy hk hm => by
  have := na hok J.cl k y hy (fun e he hb => J.cl k y hk hy e he hb) i hm
  rw [hun] at this; cases this
 have hnoti : ∀ k id b, (k, id, b) ∈ NW ops.size -> ∃ y, ops[k]? = some y := fun k id b hm => by
  have := qG tr nw0 (Nat.le_refl _) hm
  exact ⟨_, Array.getElem?_eq_getElem this⟩
 have hsplit := gQ tr ops.size i (Nat.le_of_lt hlt) (Nat.le_refl _)
 have hsee : bD n0 (bef ops i) (NW i) (NW i) = true -> ∀ id b, (i ∈ RD (i + 1) ∨ (i, id, BL i) ∈ NW ops.size) -> (eF h (bef ops i) (NW i)).get id = some b -> iX (lst L) h.get (NW ops.size) id = some b := by
  intro hrd id b hwho hv
  have hvis : rG n0 (bef ops i) (NW i) id = true := by
   rw [pW]
   rcases lZ h _ _ id b hv with ⟨j, h1, h2⟩ | h1
   ·exact .inr ⟨j, b, h1, h2⟩
   ·exact .inl (hdom id b h1)
  have hid : id < NN i := by
   rcases pW.1 hvis with q | ⟨k, b', q, _⟩
   ·have := kZ tr i 0 (by omega) (by omega); omega
   ·exact sk tr nw0 nn0 hdom i (by omega) k id b' q
  obtain ⟨p, hp1, hp2⟩ := hsplit
  rw [hp1, qM, rT (bs := bef ops i), hv]
  ·intro k b' hm
   have := sj hrd k id b' hm hvis
   exact ⟨hbef k this, this⟩
  ·intro k b' hm
   have hk := hp2 k id b' hm
   have hmN : (k, id, b') ∈ NW ops.size := by rw [hp1]; exact List.mem_append_left _ hm
   rcases Nat.eq_or_lt_of_le hk.1 with e | hik
   ·subst e; exact hun
   ·cases hq : lst L k with
    | false => rfl
    | true =>
     exfalso
     obtain ⟨y, hy⟩ := hnoti k id b' hmN
     rcases hwho with hwho | hwho
     ·rcases (qF tr nw0 (Nat.le_refl _) hmN).2.2 with ⟨q1, _⟩ | ⟨o, _, _, q2, _⟩
      ·have := kZ tr k i (by omega) (by omega); omega
      ·have hi' := rd_mem tr k i hik (by omega) hwho
       have hvk : rG n0 (bef ops i) (NW k) id = true := by
        rw [pW] at hvis |-
        rcases hvis with q | ⟨k', b2, q, q3⟩
        ·exact .inl q
        ·obtain ⟨p', g1, _⟩ := gQ tr k i (by omega) (by omega)
         exact .inr ⟨k', b2, by rw [g1]; exact List.mem_append_right _ q, q3⟩
       exact hwaits k y hy hq (uT q2 i hi' hvk)
     ·exact hwaits k y hy hq (kA tr nw0 nn0 hdom hik hwho hmN)
 have hclosed : Closed ops (L.setIfInBounds i true) := by
  intro k y hk hy e he hb
  rw [cB hltL] at hk |-
  by_cases ek : k = i
  ·subst ek
   obtain rfl : y = o' := by rw [ho] at hy; injection hy with e; exact e.symm
   have := hall' e he hb
   by_cases e2 : e.on = k
   ·rw [if_pos e2]
   ·rw [if_neg e2]; exact this
  ·rw [if_neg ek] at hk
   have := J.cl k y hk hy e he hb
   by_cases e2 : e.on = i
   ·rw [if_pos e2]
   ·rw [if_neg e2]; exact this
 have htl : ∀ t, TLn ops OUT (lst (L.setIfInBounds i true)) (TM 0) ops.size t = if wr o' t = true then some (OUT i) else TLn ops OUT (lst L) (TM 0) ops.size t := by
  intro t
  by_cases hw : wr o' t = true
  ·rw [if_pos hw, ng (i := i + 1) ops.size hlt (fun k y h1 h2 hy hwy => ?_)]
   ·unfold TLn
    rw [ho]
    simp only
    rw [if_pos ⟨by rw [cB hltL, if_pos rfl], hw⟩]
   ·rw [cB hltL, if_neg (by omega)]
    refine hlater k y (by omega) hy ?_
    unfold mX
    rw [lE.1 hwy]
    simp [hw]
  ·rw [if_neg hw]
   refine lq _ (fun k x hk hx hwx => ?_)
   rw [cB hltL]
   by_cases e : k = i
   ·subst e
    obtain rfl : x = o' := by rw [ho] at hx; injection hx with e; exact e.symm
    exact absurd hwx hw
   ·rw [if_neg e]
 have hput' : ∀ {φ' : Nat -> Nat × Nat} {A' S' : Nat -> Prop} {w' : World} {u : Value}, Step B φ A S w φ' A' S' w' -> VR φ' A' S' w' (OUT i) u -> TR φ' A' S' w' nt (TLn ops OUT (lst (L.setIfInBounds i true)) (TM 0) ops.size) (a.put o'.dst u) := by
  intro φ' A' S' w' u hs hu
  have base := J.tr.step hs
  cases hd : o'.dst with
  | none =>
   have e : TLn ops OUT (lst (L.setIfInBounds i true)) (TM 0) ops.size = TLn ops OUT (lst L) (TM 0) ops.size := funext fun t => by rw [htl, if_neg]; rw [lE, hd]; simp
   rw [e]; exact base
  | some d =>
   have hdn : d < nt := by
    rw [hd] at hput
    unfold dR at hput
    simp only at hput
    split at hput
    ·rename_i q; exact Nat.le_of_ble_eq_true q
    ·cases hput
   have e : TLn ops OUT (lst (L.setIfInBounds i true)) (TM 0) ops.size = fun t => if t = d then some (OUT i) else TLn ops OUT (lst L) (TM 0) ops.size t := funext fun t => by
    rw [htl]
    by_cases q : t = d
    ·rw [if_pos q, if_pos]; rw [lE, hd, q]
    ·rw [if_neg q, if_neg]; rw [lE, hd]; intro r; injection r with r; exact q r.symm
   rw [e]; exact base.put hdn hu
 have hlay : NW (i + 1) = NW i -> ∀ id, iX (lst (L.setIfInBounds i true)) h.get (NW ops.size) id = iX (lst L) h.get (NW ops.size) id := by
  intro hn id
  refine jz _ (fun j b hm => ?_)
  rw [cB hltL, if_neg]
  intro e
  subst e
  have := (qF tr nw0 (Nat.le_refl _) hm).2.1
  rw [hn] at this
  have := congrArg List.length this
  simp at this
 have hlay' : ∀ id0, NW (i + 1) = (i, id0, BL i) :: NW i -> ∀ id, iX (lst (L.setIfInBounds i true)) h.get (NW ops.size) id = if id = id0 then BL i else iX (lst L) h.get (NW ops.size) id := by
  intro id0 hn id
  obtain ⟨p, hp1, hp2⟩ := gQ tr ops.size (i + 1) (by omega) (Nat.le_refl _)
  have hin : (i, id0, BL i) ∈ NW ops.size := by rw [hp1, hn]; simp
  by_cases e : id = id0
  ·subst e
   rw [if_pos rfl, hp1, qM, hn]
   ·unfold iX
    rw [if_pos ⟨rfl, by rw [cB hltL, if_pos rfl]⟩]
   ·intro k b' hm
    have hk := hp2 k id b' hm
    have hmN : (k, id, b') ∈ NW ops.size := by rw [hp1]; exact List.mem_append_left _ hm
    rw [cB hltL, if_neg (by omega)]
    cases hq : lst L k with
    | false => rfl
    | true =>
     exfalso
     obtain ⟨y, hy⟩ := hnoti k id b' hmN
     exact hwaits k y hy hq (kA tr nw0 nn0 hdom (by omega) hin hmN)
  ·rw [if_neg e]
   refine jz _ (fun j b hm => ?_)
   rw [cB hltL, if_neg]
   intro q; subst q
   have h1 := (qF tr nw0 (Nat.le_refl _) hm).2.1
   rw [hn] at h1
   simp only [List.cons.injEq, Prod.mk.injEq] at h1
   exact e h1.1.2.1.symm
 have hal' : ∀ id, A id -> id < n0 ∨ ∃ j b, (j, id, b) ∈ NW ops.size /\ lst (L.setIfInBounds i true) j = true := by
  intro id hA
  rcases J.al id hA with q | ⟨j, b, q1, q2⟩
  ·exact .inl q
  ·refine .inr ⟨j, b, q1, ?_⟩
   rw [cB hltL]
   by_cases e : j = i
   ·rw [if_pos e]
   ·rw [if_neg e]; exact q2
 unfold wpOp
 rw [ho]
 simp only
 rcases hcase with ⟨hw, hout, hnw, hrd, hnn⟩ | ⟨hw, hcase⟩
 ·rw [hwant _ hw]
  simp only [Bool.false_eq_true, if_false]
  exact K _ φ A S w Step.refl ⟨by simp [J.sz], hclosed, hput' Step.refl (by rw [hout]; exact iG), J.inv.ext (hlay hnw), hal', J.gl⟩
 ·rw [hwant _ hw, if_pos rfl]
  left
  rcases hcase with ⟨hv, hnw, hrd, hnn⟩ | ⟨hv, hnw, hrd, hnn⟩ | ⟨hok1, hv, hnw, hrd, hnn⟩ | ⟨id, hok1, hv, hr1, hr2, hout, hnw, hrd, hnn⟩
  ·rw [pn hcong] at hv
   obtain ⟨u, h1, h2⟩ := mR hT (h := .nil) (fun id b hb => by simp [Tr.get_nil] at hb) hρ' o' hv
   exact cz h1 (K _ φ A S w Step.refl ⟨by simp [J.sz], hclosed, hput' Step.refl h2, J.inv.ext (hlay hnw), hal', J.gl⟩)
  ·obtain ⟨p, hp1, hp2⟩ := gQ tr ops.size (i + 1) (by omega) (Nat.le_refl _)
   have hin : (i, NN i, BL i) ∈ NW ops.size := by rw [hp1, hnw]; simp
   have hfresh : ¬ A (NN i) := by
    intro hA
    rcases J.al _ hA with q | ⟨j, b, q1, q2⟩
    ·have := kZ tr i 0 (by omega) (by omega); omega
    ·rcases Nat.lt_trichotomy j i with e | e | e
     ·obtain ⟨p', g1, g2⟩ := gQ tr ops.size i (by omega) (Nat.le_refl _)
      rw [g1] at q1
      rcases List.mem_append.1 q1 with q1 | q1
      ·have := g2 j _ _ q1; omega
      ·have := sk tr nw0 nn0 hdom i (by omega) _ _ _ q1; omega
     ·rw [e, hun] at q2; cases q2
     ·obtain ⟨y, hy⟩ := hnoti j _ b q1
      exact hwaits j y hy q2 (kA tr nw0 nn0 hdom e hin q1)
   rcases hv with ⟨nb, f, hnb, hv, hout⟩ | hv
   ·rw [we hcong] at hv
    obtain ⟨w', cap, u, h1, h2, h3⟩ := wd hT J.inv hρ' o' hv
    obtain ⟨h4, h5⟩ := h3 (NN i) hfresh
    have hs := Step.new J.inv hfresh h2 (cap := cap)
    refine cz h1 (K _ _ _ S w' hs ⟨by simp [J.sz], hclosed, hput' hs (by rw [hout]; exact h5), (J.inv.new hfresh h2.size h2.old h4).ext (fun id => by rw [hlay' _ hnw, hnb]), fun id hA => ?_, J.gl.step hs⟩)
    rcases hA with rfl | hA
    ·exact .inr ⟨i, BL i, hin, by rw [cB hltL, if_pos rfl]⟩
    ·exact hal' id hA
   ·rw [py hcong] at hv
    unfold bE at hv
    split at hv
    ·rename_i c hop
     split at hv
     ·rename_i fo hcal
      split at hv
      ·rename_i f fs cs args hf ha
       split at hv
       ·rename_i hopn
        simp only [Bool.and_eq_true] at hopn
        split at hv
        ·rename_i v σ2 hcall
         injection hv with hv; simp only [Prod.mk.injEq] at hv; obtain ⟨hv1, hv2⟩ := hv
         obtain ⟨vals, hallv, hx⟩ := rq (P := P) hρ' hop hcal hf ha
         obtain ⟨hrun, hcalls⟩ := hC.adopt f _ (NN i) v σ2 hopn.1 (Nat.eq_of_beq_eq_true hopn.2) hcall B φ A S _ w _ J.inv hfresh J.gl hallv
         unfold Oper.wp
         rw [hx _ hrun]
         refine hcalls.mono fun e w' he => ?_
         obtain ⟨u, φ', A', S', rfl, hs, k2, k3, k4⟩ := he
         refine K _ φ' A' S' w' hs ⟨by simp [J.sz], hclosed, hput' hs (by rw [<- hv1]; exact k4), k2.ext (fun id => by rw [hlay' _ hnw, hv2]), fun id hA => ?_, J.gl.step hs⟩
         rcases k3 id hA with rfl | hA
         ·exact .inr ⟨i, BL i, hin, by rw [cB hltL, if_pos rfl]⟩
         ·exact hal' id hA
        ·cases hv
       ·cases hv
      ·cases hv
     ·cases hv
    ·cases hv
  ·have hhas : Has P φ A S (eF h (bef ops i) (NW i)) w := fun id b hv => J.inv.blk _ _ (hsee hok1 id b (.inl (by rw [hrd]; simp)) hv)
   rcases hv with hv | hv
   ·rw [pn hcong] at hv
    obtain ⟨u, h1, h2⟩ := mR hT hhas hρ' o' hv
    exact cz h1 (K _ φ A S w Step.refl ⟨by simp [J.sz], hclosed, hput' Step.refl h2, J.inv.ext (hlay hnw), hal', J.gl⟩)
   ·rw [qx hcong] at hv
    unfold cw at hv
    split at hv
    ·rename_i c hop
     split at hv
     ·rename_i fo hcal
      split at hv
      ·rename_i f fs cs args hf ha
       split at hv
       ·cases hv
       ·rename_i hopn
        split at hv
        ·rename_i v σ2 hcall
         injection hv with hv; subst hv
         obtain ⟨hσ, hp⟩ := hC.pure f _ _ _ _ hopn hcall
         obtain ⟨vals, hallv, hx⟩ := rq (P := P) hρ' hop hcal hf ha
         rcases hp φ A S w _ hhas (fun b hs => (J.inv.st b hs).1) J.gl hallv with ⟨_, u, hrun, hu⟩ | ⟨_, hrun, hcalls⟩
         ·exact cz (hx _ hrun) (K _ φ A S w Step.refl ⟨by simp [J.sz], hclosed, hput' Step.refl hu, J.inv.ext (hlay hnw), hal', J.gl⟩)
         unfold Oper.wp
         rw [hx _ hrun]
         refine hcalls.mono fun e w' he => ?_
         obtain ⟨u, rfl, k1, k2⟩ := he
         have hs := Step.below J.inv k1
         exact K _ φ A _ w' hs ⟨by simp [J.sz], hclosed, hput' hs k2, (J.inv.below k1).ext (hlay hnw), hal', J.gl.step hs⟩
        ·cases hv
      ·cases hv
     ·cases hv
    ·rename_i t len ps hop
     rw [<- hop] at hv
     obtain ⟨w', u, h1, h2, h3⟩ := ice_ok hT (fun b hb => (J.inv.st b hb).1) hρ' o' hv
     have hs := Step.below J.inv h2
     exact cz h1 (K _ φ A _ w' hs ⟨by simp [J.sz], hclosed, hput' hs h3, (J.inv.below h2).ext (hlay hnw), hal', J.gl.step hs⟩)
    ·cases hv
  ·rw [tD hcong] at hv
   obtain ⟨⟨id2, b2⟩, hv, hve⟩ := Option.map_eq_some_iff.1 hv
   simp only [Prod.mk.injEq] at hve
   have hbe := hve.2
   rw [hve.1] at hv
   clear hve
   obtain ⟨p, hp1, hp2⟩ := gQ tr ops.size (i + 1) (by omega) (Nat.le_refl _)
   have hin : (i, id, BL i) ∈ NW ops.size := by rw [hp1, hnw]; simp
   unfold fr at hv
   split at hv
   ·rename_i t p q hop
    split at hv
    ·rename_i id' off v hpa hqa
     split at hv
     ·rename_i n hsz
      obtain ⟨si, hi1, hi2⟩ := hT.sz _ _ hsz
      split at hv
      ·rename_i hl1 hl2
       split at hv
       ·rename_i cs e g hget
        split at hv
        ·rename_i cs' hset
         injection hv with hv; simp only [Prod.mk.injEq] at hv; obtain ⟨rfl, hbl⟩ := hv
         have hH := hsee hok1 id' _ (.inr hin) hget
         have hpv := hρ' _ _ hpa
         have hqv := hρ' _ _ hqa
         generalize hep : a.eval p = ep at hpv
         cases hpv with | ptr _ _ hA =>
         have hc := hqv.cells
         obtain ⟨ob, r1, r2⟩ := iJ (P := P) J.inv hH hc hl2 hset
         have hs := Step.upd J.inv hH ob
         have hrun : (execOp a.eval o').run P w = .ok .skip (bp w (φ id').1 ob) := by
          unfold execOp
          rw [hop]
          refine mf ?_
          unfold Instr.storeAt
          rw [hep]
          simp only [Instr.sureAddr, Sem.run_bind, Sem.run_pure, Result.andThen_ok, storeVar, aN hi1]
          have hsz' : (a.eval q).cells.size = si.size := by
           rw [hi2, <- Nat.eq_of_beq_eq_true hl1, <- hc.1]; exact (Array.length_toList).symm
          rw [if_neg (by simp [hsz'])]
          exact r1
         refine ji hrun (K _ φ A S _ hs ⟨by simp [J.sz], hclosed, hput' hs (by rw [hout]; exact iG), (J.inv.upd hH ob r2).ext (fun id => ?_), hal', J.gl.step hs⟩)
         rw [hlay' _ hnw, <- hbe, hbl]
        ·cases hv
       ·cases hv
      ·cases hv
     ·cases hv
    ·cases hv
   ·cases hv
theorem at_any (hT : TabOK P T) (hC : CallOK P T call) (hok : cv ops = true) (tr : ∀ k, k < ops.size -> eL T call nt ops h n0 TM NW RD NN OUT BL k) (nw0 : NW 0 = []) (nn0 : NN 0 = n0) (hdom : ∀ id b, h.get id = some b -> id < n0) : ∀ (fuel : Nat) (L : Array Bool) (φ : Nat -> Nat × Nat) (A S : Nat -> Prop) (w : World) (a : Act), At P T B nt ops h (TM 0) (NW ops.size) n0 OUT L φ A S w a -> (List.range ops.size).countP (fun i => !lst L i) <= fuel -> ∀ {Q : Exit -> Act -> World -> Prop},
  (∀ a' φ' A' S' w' L', (∀ i, i < ops.size -> lst L' i = true) -> Step B φ A S w φ' A' S' w' -> At P T B nt ops h (TM 0) (NW ops.size) n0 OUT L' φ' A' S' w' a' -> Q .normal a' w') -> wpAny P .any ops Q fuel L a w := by
 have full : ∀ (L : Array Bool), L.size = ops.size -> Region.ready .any ops L = [] -> ∀ i, i < ops.size -> lst L i = true := by
  intro L hsz hr i
  induction i using Nat.strongRecOn with
  | _ i ih =>
   intro hi
   cases hq : lst L i with
   | true => rfl
   | false =>
    have : i ∈ Region.ready .any ops L := by
     refine mem_ready.2 ⟨by rw [fF (by omega)]; exact hq, _, Array.getElem?_eq_getElem hi, fun e he hb => ?_⟩
     have hb' : binds e = true := by unfold Region.binds at hb; unfold binds; split at hb <;> simp_all
     have h1 := iT hok (Array.getElem?_eq_getElem hi) e (by simpa using he) hb'
     exact ih e.on h1 (by omega)
    rw [hr] at this; cases this
 intro fuel
 induction fuel with
 | zero =>
  intro L φ A S w a J hc Q K
  have hall : ∀ i, i < ops.size -> lst L i = true := by
   intro i hi
   cases hq : lst L i with
   | true => rfl
   | false =>
    have := (List.countP_pos_iff (p := fun i => !lst L i) (l := List.range ops.size)).2 ⟨i, List.mem_range.2 hi, by simp [hq]⟩
    omega
  refine ⟨?_, K a φ A S w L hall Step.refl J⟩
  cases hr : Region.ready .any ops L with
  | nil => rfl
  | cons x xs =>
   have hx : x ∈ Region.ready .any ops L := by rw [hr]; simp
   obtain ⟨h1, o, h2, _⟩ := mem_ready.1 hx
   have hlt : x < ops.size := (Array.getElem?_eq_some_iff.1 h2).1
   rw [fF (by rw [J.sz]; exact hlt), hall x hlt] at h1
   cases h1
 | succ fuel ih =>
  intro L φ A S w a J hc Q K
  refine ⟨fun hr => K a φ A S w L (full L J.sz hr) Step.refl J, fun i hi => ?_⟩
  refine at_step hT hC hok tr nw0 nn0 hdom J hi (fun a' φ' A' S' w' hs J' => ?_)
  obtain ⟨h1, o, h2, _⟩ := mem_ready.1 hi
  have hlt : i < ops.size := (Array.getElem?_eq_some_iff.1 h2).1
  have hltL : i < L.size := by rw [J.sz]; exact hlt
  rw [fF hltL] at h1
  refine ih _ φ' A' S' w' a' J' ?_ (fun a2 φ2 A2 S2 w2 L2 g1 g2 g3 => K a2 φ2 A2 S2 w2 L2 g1 (hs.trans g2) g3)
  have := tb (p := fun k => !lst L k) (q := fun k => !lst (L.setIfInBounds i true) k) (List.mem_range.2 hlt) (by simp [h1]) (by simp only [cB hltL, if_true]; rfl) (fun k hk => by
   simp only [cB hltL] at hk
   by_cases e : k = i
   ·rw [if_pos e] at hk; cases hk
   ·rw [if_neg e] at hk; exact hk)
  omega
end
section
variable {P : Program} {T : Tab} {nt B : Nat}
def Qn (Q : Exit -> Act -> World -> Prop) : Exit -> Act -> World -> Prop
 | .normal, a, w => Q .normal a w
 | _, _, _ => False
theorem Qn_le {Q : Exit -> Act -> World -> Prop} : ∀ e a w, Qn Q e a w -> Q e a w := by
 intro e a w h
 cases e <;> first | exact h | exact h.elim
theorem wp_monoQ {Q Q' : Exit -> Act -> World -> Prop} (hQ : ∀ e a w, Q e a w -> Q' e a w) {o : Oper} {K : Act -> World -> Prop} {a : Act} {w : World} (h : o.wp P a w K Q) : o.wp P a w K Q' := by
 unfold Oper.wp at *
 generalize (execOp a.eval o).run P w = r at *
 cases r with
 | ok n w' =>
  cases n <;> simp only [Oper.upon] at h |- <;>
   first
    | exact h
    | exact hQ _ _ _ h
    | exact Calls.mono h (fun e w'' he => by cases e <;> first | exact he | exact hQ _ _ _ he | exact he.elim fun a q => q.elim fun w q => ⟨a, w, hQ _ _ _ q⟩)
    | exact Rows.mono h (fun _ _ he => he)
 | halt x w' => cases x <;> simp only [Oper.upon] at h |- <;> first | exact h | exact hQ _ _ _ h
theorem wE {Q Q' : Exit -> Act -> World -> Prop} (hQ : ∀ e a w, Q e a w -> Q' e a w) {ops : Array Oper} {i : Nat} {K K' : Act -> World -> Prop} (hK : ∀ a w, K a w -> K' a w) {a : Act} {w : World} (h : wpOp P ops Q i K a w) : wpOp P ops Q' i K' a w := by
 refine wpOp_mono hK ?_
 unfold wpOp at h |-
 split at h
 ·exact h
 ·split
  ·rename_i hq
   rw [if_pos hq] at h
   exact h.imp (wp_monoQ hQ) fun q => ⟨q.1, q.2.elim fun a q => q.elim fun w q => ⟨a, w, hQ _ _ _ q⟩⟩
  ·rename_i hq
   rw [if_neg hq] at h
   exact h
theorem ot {Q Q' : Exit -> Act -> World -> Prop} (hQ : ∀ e a w, Q e a w -> Q' e a w) {ops : Array Oper} : ∀ (f : Nat) (L : Array Bool) (a : Act) (w : World), wpAny P .any ops Q f L a w -> wpAny P .any ops Q' f L a w
 | 0, L, a, w, h => ⟨h.1, hQ _ _ _ h.2⟩
 | f + 1, L, a, w, h => ⟨fun q => hQ _ _ _ (h.1 q), fun i hi => wE hQ (fun a w => ot hQ f _ a w) (h.2 i hi)⟩
def pw (L : Array Bool) : Nat -> Nat
 | 0 => 0
 | n + 1 => (if L.getD n true = false then 1 else 0) + pw L n
theorem jc (L : Array Bool) (i j : Nat) : (L.setIfInBounds i true).getD j true = if j = i then true else L.getD j true := by
 simp only [Array.getD_eq_getD_getElem?, Array.getElem?_setIfInBounds]
 by_cases e : i = j
 ·subst e
  rw [if_pos rfl, if_pos rfl]
  by_cases h : i < L.size
  ·rw [if_pos h]; rfl
  ·rw [if_neg h]; rfl
 ·rw [if_neg e, if_neg (fun q => e q.symm)]
theorem zE (L : Array Bool) (i : Nat) : ∀ n, pw (L.setIfInBounds i true) n <= pw L n
 | 0 => Nat.le_refl _
 | n + 1 => by
  have := zE L i n
  unfold pw
  rw [jc]
  by_cases e : n = i
  ·rw [if_pos e]; simp; omega
  ·rw [if_neg e]; omega
theorem zD {L : Array Bool} {i : Nat} (hi : L.getD i true = false) : ∀ n, i < n -> pw (L.setIfInBounds i true) n + 1 <= pw L n
 | 0, h => by omega
 | n + 1, h => by
  unfold pw
  rw [jc]
  by_cases e : n = i
  ·subst e
   have := zE L n n
   rw [if_pos rfl, hi]; simp; omega
  ·have := zD hi n (by omega)
   rw [if_neg e]; omega
theorem tc {L : Array Bool} : ∀ {n : Nat}, pw L n = 0 -> ∀ i, i < n -> L.getD i true = true
 | 0, _, i, h => by omega
 | n + 1, h, i, hi => by
  unfold pw at h
  by_cases e : i = n
  ·subst e
   cases hq : L.getD i true with
   | true => rfl
   | false => rw [hq] at h; simp at h
  ·exact tc (n := n) (by omega) i (by omega)
theorem pT {Q : Exit -> Act -> World -> Prop} {ops : Array Oper} : ∀ (f2 f1 : Nat) (L : Array Bool) (a : Act) (w : World), pw L ops.size <= f2 -> wpAny P .any ops Q f1 L a w -> wpAny P .any ops Q f2 L a w
 | 0, f1, L, a, w, hc, h => by
  have hr : Region.ready .any ops L = [] := by
   cases hq : Region.ready .any ops L with
   | nil => rfl
   | cons i r =>
    obtain ⟨h1, o, h2, _⟩ := mem_ready.1 (show i ∈ Region.ready .any ops L by rw [hq]; simp)
    have := tc (Nat.le_zero.1 hc) i (Array.getElem?_eq_some_iff.1 h2).1
    rw [h1] at this; cases this
  cases f1 with
  | zero => exact h
  | succ g => exact ⟨hr, h.1 hr⟩
 | f2 + 1, 0, L, a, w, hc, h => ⟨fun _ => h.2, fun i hi => by rw [h.1] at hi; cases hi⟩
 | f2 + 1, g + 1, L, a, w, hc, h => ⟨h.1, fun i hi => by
  obtain ⟨h1, o, h2, _⟩ := mem_ready.1 hi
  have := zD h1 ops.size (Array.getElem?_eq_some_iff.1 h2).1
  exact wpOp_mono (fun a w => pT f2 g _ a w (by omega)) (h.2 i hi)⟩
def ie (F : List Nat) (i : Nat) (o : Oper) : Oper := match aY i F with
 | true => { o with op := .move (.const (.bool true)), dst := none, guard := none, after := ⟨(List.range i).map fun j => ⟨j, .phase⟩⟩ }
 | false => { o with after := ⟨o.after.toList.filter fun e => !aY e.on F⟩ }
theorem qf (F : List Nat) : ∀ (l : List Oper) (k i : Nat), (ke F l k)[i]? = (l[i]?).map (ie F (k + i))
 | [], k, i => by simp [ke]
 | o :: os, k, 0 => by simp only [ke, List.getElem?_cons_zero, Option.map_some]; rfl
 | o :: os, k, i + 1 => by
  simp only [ke, List.getElem?_cons_succ]
  rw [qf F os (k + 1) i]
  congr 2; omega
theorem gF (F : List Nat) (ops : Array Oper) (i : Nat) : (dU F ops)[i]? = (ops[i]?).map (ie F i) := by
 have := qf F ops.toList 0 i
 simp only [dU, Nat.zero_add] at this |-
 simpa using this
theorem qe (F : List Nat) : ∀ (l : List Oper) (k : Nat), (ke F l k).length = l.length
 | [], k => rfl
 | o :: os, k => by simp only [ke, List.length_cons, qe F os (k + 1)]
theorem uD (F : List Nat) (ops : Array Oper) : (dU F ops).size = ops.size := by
 simp [dU, qe]
theorem mH {F : List Nat} : ∀ {l : List Oper} {i : Nat} {o : Oper}, fT F l = true -> l[i]? = some o -> ∀ j b, o.guard = some (j, b) -> aY j F = false
 | [], i, o, _, h, _, _, _ => by simp at h
 | x :: xs, 0, o, hg, h, j, b, hj => by
  simp only [List.getElem?_cons_zero, Option.some.injEq] at h
  subst h
  simp only [fT, hj, Bool.and_eq_true] at hg
  simpa using hg.1
 | x :: xs, i + 1, o, hg, h, j, b, hj => by
  simp only [fT, Bool.and_eq_true] at hg
  exact mH hg.2 (by simpa using h) j b hj
def RelF (F : List Nat) (n : Nat) (L L' : Array Bool) : Prop := L.size = n /\ L'.size = n /\ (∀ i, i < n -> L.getD i false = (L'.getD i false || aY i F)) /\ ∀ i, aY i F = true -> i < n
theorem iA {L : Array Bool} {i : Nat} (h : i < L.size) : L.getD i true = L.getD i false := by
 simp [Array.getD_eq_getD_getElem?, h]
theorem getD_o {L : Array Bool} {i : Nat} (h : L.getD i false = true) : i < L.size := by
 by_cases q : i < L.size
 ·exact q
 ·simp [Array.getD_eq_getD_getElem?, Array.getElem?_eq_none (Nat.le_of_not_lt q)] at h
theorem oU {F : List Nat} {ops : Array Oper} {L L' : Array Bool} (r : RelF F ops.size L L') {i : Nat} (hi : i ∈ Region.ready .any ops L) : aY i F = false /\ i ∈ Region.ready .any (dU F ops) L' := by
 obtain ⟨h1, o, h2, h3⟩ := mem_ready.1 hi
 have hlt := (Array.getElem?_eq_some_iff.1 h2).1
 rw [iA (by rw [r.1]; exact hlt), r.2.2.1 i hlt] at h1
 simp only [Bool.or_eq_false_iff] at h1
 refine ⟨h1.2, mem_ready.2 ⟨by rw [iA (by rw [r.2.1]; exact hlt)]; exact h1.1, ie F i o, by rw [gF, h2]; rfl, fun e he hb => ?_⟩⟩
 unfold ie at he
 rw [h1.2] at he
 simp only [List.mem_toArray, List.mem_filter, Array.mem_toList_iff] at he
 have h4 := h3 e he.1 hb
 have hlt2 : e.on < ops.size := by rw [<- r.1]; exact getD_o h4
 rw [r.2.2.1 _ hlt2] at h4
 have h5 : aY e.on F = false := by simpa using he.2
 rw [h5, Bool.or_false] at h4
 exact h4
theorem wU {F : List Nat} {ops : Array Oper} {L L' : Array Bool} (r : RelF F ops.size L L') {i : Nat} (hi : i ∈ Region.ready .any (dU F ops) L') (hf : aY i F = false) : i ∈ Region.ready .any ops L := by
 obtain ⟨h1, o', h2, h3⟩ := mem_ready.1 hi
 rw [gF] at h2
 obtain ⟨o, h2', rfl⟩ := Option.map_eq_some_iff.1 h2
 clear h2
 have h2 := h2'
 have hlt := (Array.getElem?_eq_some_iff.1 h2).1
 rw [iA (by rw [r.2.1]; exact hlt)] at h1
 refine mem_ready.2 ⟨by rw [iA (by rw [r.1]; exact hlt), r.2.2.1 i hlt, h1, hf]; rfl, o, h2, fun e he hb => ?_⟩
 cases hm : aY e.on F with
 | true =>
  have := r.2.2.2 _ hm
  rw [r.2.2.1 _ this, hm, Bool.or_true]
 | false =>
  have h4 := h3 e (by
   unfold ie
   rw [hf]
   simp only [List.mem_toArray, List.mem_filter, Array.mem_toList_iff]
   exact ⟨he, by rw [hm]; rfl⟩) hb
  have hlt2 : e.on < ops.size := by rw [<- r.2.1]; exact getD_o h4
  rw [r.2.2.1 _ hlt2, h4, Bool.true_or]
theorem RelF.set {F : List Nat} {n : Nat} {L L' : Array Bool} (r : RelF F n L L') (i : Nat) : RelF F n (L.setIfInBounds i true) (L'.setIfInBounds i true) := by
 refine ⟨by simpa using r.1, by simpa using r.2.1, fun j hj => ?_, r.2.2.2⟩
 have g : ∀ (M : Array Bool), M.size = n -> (M.setIfInBounds i true).getD j false = if j = i then true else M.getD j false := fun M hM => by
  rw [<- iA (by simpa [hM] using hj), jc, iA (by rw [hM]; exact hj)]
 rw [g L r.1, g L' r.2.1]
 by_cases e : j = i
 ·rw [if_pos e, if_pos e]; rfl
 ·rw [if_neg e, if_neg e]; exact r.2.2.1 j hj
theorem RelF.setR {F : List Nat} {n : Nat} {L L' : Array Bool} (r : RelF F n L L') {i : Nat} (hi : aY i F = true) : RelF F n L (L'.setIfInBounds i true) := by
 refine ⟨r.1, by simpa using r.2.1, fun j hj => ?_, r.2.2.2⟩
 rw [<- iA (L := L'.setIfInBounds i true) (by simpa [r.2.1] using hj), jc]
 by_cases e : j = i
 ·subst e
  rw [if_pos rfl, r.2.2.1 j hj, hi]; simp
 ·rw [if_neg e, iA (by rw [r.2.1]; exact hj)]; exact r.2.2.1 j hj
theorem tx {Q : Exit -> Act -> World -> Prop} {F : List Nat} {ops : Array Oper} {i : Nat} (hf : aY i F = true) {K : Act -> World -> Prop} {a : Act} {w : World} (h : wpOp P (dU F ops) Q i K a w) : K a w := by
 unfold wpOp at h
 rw [gF] at h
 cases ho : ops[i]? with
 | none => rw [ho] at h; exact h
 | some o =>
  rw [ho] at h
  simp only [Option.map_some, ie, hf] at h
  rw [if_pos (by unfold Region.wanted; rfl)] at h
  have run : ∀ (o' : Oper), o'.op = .move (.const (.bool true)) -> (execOp a.eval o').run P w = .ok (.value (.bool true)) w := fun o' e => by
   unfold execOp; rw [e]; rfl
  rcases h with h | h
  ·unfold Oper.wp at h
   rw [run _ rfl] at h
   exact h
  ·exfalso
   have := h.1
   unfold Oper.asks at this
   have q := this.1
   have e : ∀ (o' : Oper), o'.op = .move (.const (.bool true)) -> (Sem.runT P (execOp a.eval o') w #[]).2 = #[] := fun o' e => by
    unfold execOp; rw [e]; rfl
   rw [e _ rfl] at q
   simp at q
theorem wC {Q : Exit -> Act -> World -> Prop} {F : List Nat} {ops : Array Oper} (hg : fT F ops.toList = true) {i : Nat} (hf : aY i F = false) {K : Act -> World -> Prop} {a : Act} {w : World} (h : wpOp P (dU F ops) Q i K a w) : wpOp P ops Q i K a w := by
 unfold wpOp at h |-
 rw [gF] at h
 cases ho : ops[i]? with
 | none => rw [ho] at h; exact h
 | some o =>
  rw [ho] at h
  simp only [Option.map_some, ie, hf] at h
  have hw : ∀ x, Region.wanted { o with after := x } (yielded (dU F ops) a.tmps) = Region.wanted o (yielded ops a.tmps) := by
   intro x
   unfold Region.wanted
   simp only
   cases hgd : o.guard with
   | none => rfl
   | some jb =>
    obtain ⟨j, b⟩ := jb
    have hj := mH hg (by simpa using ho) j b hgd
    have : yielded (dU F ops) a.tmps j = yielded ops a.tmps j := by
     unfold yielded
     rw [gF]
     cases hoj : ops[j]? with
     | none => rfl
     | some oj =>
      simp only [Option.map_some, ie, hj]
      rfl
    simp only [this]
  simp only [hw] at h
  exact h
theorem jG {Q : Exit -> Act -> World -> Prop} {F : List Nat} {ops : Array Oper} {L : Array Bool} (hr : Region.ready .any ops L = []) : ∀ (f : Nat) (L' : Array Bool) (a : Act) (w : World), RelF F ops.size L L' -> wpAny P .any (dU F ops) Q f L' a w -> Q .normal a w
 | 0, L', a, w, r, h => h.2
 | f + 1, L', a, w, r, h => by
  cases hq : Region.ready .any (dU F ops) L' with
  | nil => exact h.1 hq
  | cons i l =>
   have hi : i ∈ Region.ready .any (dU F ops) L' := by rw [hq]; simp
   cases hf : aY i F with
   | false => have := wU r hi hf; rw [hr] at this; cases this
   | true => exact jG hr f _ a w (r.setR hf) (tx hf (h.2 i hi))
theorem oq {Q : Exit -> Act -> World -> Prop} {F : List Nat} {ops : Array Oper} (hg : fT F ops.toList = true) : ∀ (f : Nat) (L L' : Array Bool) (a : Act) (w : World), RelF F ops.size L L' -> wpAny P .any (dU F ops) Q f L' a w -> wpAny P .any ops Q f L a w
 | 0, L, L', a, w, r, h => by
  refine ⟨?_, h.2⟩
  cases hq : Region.ready .any ops L with
  | nil => rfl
  | cons i l =>
   have := (oU r (show i ∈ Region.ready .any ops L by rw [hq]; simp)).2
   rw [h.1] at this; cases this
 | f + 1, L, L', a, w, r, h => ⟨fun hr => jG hr (f + 1) L' a w r h, fun i hi => by
     obtain ⟨h1, h2⟩ := oU r hi
     exact wpOp_mono (fun a w => oq hg f _ _ a w (r.set i)) (wC hg h1 (h.2 i h2))⟩
theorem Ad {φ φ' : Nat -> Nat × Nat} {A A' S S' : Nat -> Prop} {w w' : World} {a : AV} {u : Value} (hp : eI a = true) (h : VR φ A S w a u) : VR φ' A' S' w' a u := by
 cases h <;> first | cases hp | skip
 ·exact .b _
 ·exact .i _ _
 ·rename_i e; exact .s _ _ e
theorem wW {φ φ' : Nat -> Nat × Nat} {A A' S S' : Nat -> Prop} {w w' : World} {a : AV} {u u' : Value} (hp : eI a = true) (h : VR φ A S w a u) (h' : VR φ' A' S' w' a u') : u = u' := by
 cases h <;> first | cases hp | skip
 ·cases h'; rfl
 ·cases h'; rfl
 ·rename_i x t e
  cases h' with
  | s _ t' e' =>
   have : t = t' := by
    cases t with | mk d => cases t' with | mk d' =>
    have : d.toList = d'.toList := e.trans e'.symm
    rw [Array.toList_inj.1 this]
   rw [this]
def kh (L : Array Bool) : List Nat -> Array Bool
 | [] => L
 | j :: js => kh (L.setIfInBounds j true) js
theorem oR : ∀ (F : List Nat) (L : Array Bool), (kh L F).size = L.size
 | [], L => rfl
 | j :: js, L => by unfold kh; rw [oR js]; simp
theorem qt : ∀ (F : List Nat) (L : Array Bool) (i : Nat), i < L.size -> (kh L F).getD i false = (L.getD i false || aY i F)
 | [], L, i, h => by simp [kh, aY]
 | j :: js, L, i, h => by
  unfold kh
  rw [qt js _ i (by simpa using h)]
  rw [<- iA (L := L.setIfInBounds j true) (by simpa using h), jc]
  by_cases e : i = j
  ·subst e; rw [if_pos rfl]; simp [aY]
  ·rw [if_neg e, iA h]
   have : Nat.beq i j = false := by
    cases q : Nat.beq i j with
    | false => rfl
    | true => exact absurd (Nat.eq_of_beq_eq_true q) e
   simp [aY, this]
theorem qX {ops : Array Oper} : ∀ {F : List Nat} {L : Array Bool}, li ops L F = true -> ∀ i, aY i F = true -> i < ops.size
 | [], L, _, i, h => by cases h
 | j :: js, L, hv, i, h => by
  simp only [li, Bool.and_eq_true] at hv
  simp only [aY, Bool.or_eq_true] at h
  rcases h with h | h
  ·obtain rfl := Nat.eq_of_beq_eq_true h
   have := hv.1.1.1
   split at this
   ·rename_i o ho; exact (Array.getElem?_eq_some_iff.1 ho).1
   ·cases this
  ·exact qX hv.2 i h
theorem Ae {ρ : Operand -> Option AV} {x : Operand} {a : AV} (h : jw ρ x = some a) : ρ x = some a /\ eI a = true := by
 unfold jw at h
 split at h
 ·rename_i b hb
  split at h
  ·rename_i hp; injection h with h; subst h; exact ⟨hb, hp⟩
  ·cases h
 ·cases h
theorem po (hT : TabOK P T) {ops : Array Oper} (hs : Region.noSelect ops = true) {Q : Exit -> Act -> World -> Prop} {φ : Nat -> Nat × Nat} {A S : Nat -> Prop} {w : World} (hg : GL T φ A S w) {f : Nat} : ∀ (F : List Nat) (L : Array Bool) (tm tm' : Tr AV) (a : Act), li ops L F = true -> TR φ A S w nt tm.get a ->
  eT T nt ops F tm = some tm' -> (∀ a', TR φ A S w nt tm'.get a' -> wpAny P .any ops (Qn Q) f (kh L F) a' w) -> wpAny P .any ops (Qn Q) (f + F.length) L a w
 | [], L, tm, tm', a, _, ht, hv, K => by
  injection hv with hv; subst hv
  exact K a ht
 | j :: js, L, tm, tm', a, hf, ht, hv, K => by
  simp only [li, Bool.and_eq_true] at hf
  obtain ⟨⟨⟨h1, h2⟩, h3⟩, h4⟩ := hf
  unfold eT at hv
  split at hv
  ·rename_i o ho
   rw [ho] at h1
   simp only [Bool.and_eq_true, Option.isNone_iff_eq_none] at h1
   split at hv
   ·rename_i v hev
    split at hv
    ·rename_i hp
     split at hv
     ·rename_i tm1 hput
      have hev' : ∀ w' : World, ∃ u, (execOp a.eval o).run P w' = .ok (.value u) w' /\ VR φ A S w' v u := fun w' =>
       mR hT (fun id b hb => by simp [Tr.get_nil] at hb) (fun x b hb => by
        obtain ⟨q1, q2⟩ := Ae hb
        exact Ad q2 (pH ht hg x b q1)) o hev
      obtain ⟨u, hu1, hu2⟩ := hev' w
      have hy : Yields P ops o u a := .inl ⟨by unfold Region.wanted; rw [h1.2], fun w' => by
       obtain ⟨u', g1, g2⟩ := hev' w'
       rw [wW hp hu2 g2]; exact g1⟩
      rw [List.length_cons, <- Nat.add_assoc]
      refine wpAny_take ho hs h2 h3 (fun c a w h => h) hy ?_
      exact po hT hs hg js _ tm1 tm' _ h4 (tL ht hu2 hput) hv K
     ·cases hv
    ·cases hv
   ·cases hv
  ·cases hv
theorem cntU_n (L : Array Bool) : ∀ n, pw L n <= n
 | 0 => Nat.le_refl _
 | n + 1 => by
  have := cntU_n L n
  unfold pw
  split <;> omega
end
section
variable {P : Program} {T : Tab} {call : Nat -> List AV -> AS -> Option (AV × AS)} {nt B : Nat}
theorem ta (hT : TabOK P T) (hC : CallOK P T call) {ops : Array Oper} (hok : cv ops = true) {σ : AS} {tm tm' : Tr AV} {news : List (Nat × Nat × Option AB)} {n' : Nat} {φ : Nat -> Nat × Nat} {A S : Nat -> Prop} {w : World} {a : Act}
  (inv : Inv P B φ A S σ.h.get w) (hb : ∀ id, A id -> id < σ.n) (hg : GL T φ A S w) (htm : TR φ A S w nt tm.get a) (hv : aX T call nt ops σ.h σ.n (oc ops) ops.toList 0 tm [] [] σ.n = some (tm', news, n')) {Q : Exit -> Act -> World -> Prop}
  (K : ∀ a' φ' A' S' w', Step B φ A S w φ' A' S' w' -> Inv P B φ' A' S' (lay σ.h news).get w' -> (∀ id, A' id -> id < n') -> TR φ' A' S' w' nt tm'.get a' -> Q .normal a' w') :
  wpAny P .any ops Q ops.size (Array.replicate ops.size false) a w := by
 obtain ⟨TM, NW, RD, NN, OUT, BL, t1, t2, _, t3, t4, t5, t6, t7⟩ := uz ops.toList 0 tm [] [] σ.n tm' news n' (fun j => by simp) hv
 have tr : ∀ k, k < ops.size -> eL T call nt ops σ.h σ.n TM NW RD NN OUT BL k := fun k hk => t7 k (Nat.zero_le _) (by simpa using hk)
 simp only [Nat.zero_add, Array.length_toList] at t4 t5 t6
 subst t1; subst t4; subst t5; subst t6
 have hdom : ∀ id b, σ.h.get id = some b -> id < σ.n := fun id b h => hb id (inv.dom _ _ h)
 have hl0 : ∀ i, lst (Array.replicate ops.size false) i = false := fun i => by unfold lst; rw [Array.getD_eq_getD_getElem?, Array.getElem?_replicate]; split <;> rfl
 have hTL : ∀ n t, TLn ops OUT (lst (Array.replicate ops.size false)) (TM 0) n t = (TM 0).get t := by
  intro n t
  rw [ng (i := 0) n (Nat.zero_le _) (fun k o _ _ _ _ => hl0 k)]; rfl
 have J : At P T B nt ops σ.h (TM 0) (NW ops.size) σ.n OUT (Array.replicate ops.size false) φ A S w a := by
  refine ⟨by simp, fun i o hi => (by rw [hl0] at hi; cases hi), ?_, inv.ext (fun id => vv _ (fun j b _ => hl0 j)), fun id hA => .inl (hb id hA), hg⟩
  have : TLn ops OUT (lst (Array.replicate ops.size false)) (TM 0) ops.size = (TM 0).get := funext fun t => hTL _ t
  rw [this]; exact htm
 refine at_any hT hC hok tr t2 t3 hdom ops.size _ φ A S w a J ?_ (fun a' φ' A' S' w' L' hfull hs J' => ?_)
 ·have := List.countP_le_length (p := fun i => !lst (Array.replicate ops.size false) i) (l := List.range ops.size)
  simpa using this
 ·refine K a' φ' A' S' w' hs (J'.inv.ext fun id => ?_) (fun id hA => ?_) ?_
  ·rw [yp]
   refine jz _ (fun j b hm => ?_)
   rw [hfull j (qG tr t2 (Nat.le_refl _) hm)]
  ·rcases J'.al id hA with q | ⟨j, b, q1, _⟩
   ·have := kZ tr ops.size 0 (Nat.zero_le _) (Nat.le_refl _); omega
   ·exact sk tr t2 t3 hdom ops.size (Nat.le_refl _) j id b q1
  ·have e : TLn ops OUT (lst L') (TM 0) ops.size = (TM ops.size).get := funext fun t => by
    rw [qd tr ops.size t (Nat.le_refl _)]
    exact lq _ (fun k o hk _ _ => hfull k hk)
   rw [<- e]; exact J'.tr
def qn (N : Act -> World -> Prop) (Q : Exit -> Act -> World -> Prop) : Exit -> Act -> World -> Prop
 | .normal => N
 | e => Q e
theorem qL {N : Act -> World -> Prop} {Q : Exit -> Act -> World -> Prop} (h : LetsOut (qn N Q)) : LetsOut Q := h
theorem wp_qn {o : Oper} {N : Act -> World -> Prop} {Q : Exit -> Act -> World -> Prop} {K K' : Act -> World -> Prop} {a : Act} {w : World} (hK : ∀ a w, K' a w -> K a w) (h : o.wp P a w K' (qn N Q)) : o.wp P a w K Q := by
 unfold Oper.wp at *
 generalize (execOp a.eval o).run P w = r at *
 cases r with
 | ok n w' =>
  cases n <;> simp only [Oper.upon] at h |- <;>
   first
    | exact hK _ _ h
    | exact Calls.mono h (fun e w'' he => by cases e <;> first | exact hK _ _ he | exact he)
    | exact Rows.mono h (fun _ _ he => hK _ _ he)
    | exact h
 | halt x w' => cases x <;> simp only [Oper.upon] at h |- <;> exact h
theorem wp_shift {k0 : Nat} {o : Oper} {Q : Exit -> Act -> World -> Prop} {K : Act -> World -> Prop} {a : Act} {w : World} (h : (jt k0 o).wp P a w K Q) : o.wp P a w K Q := h
theorem pd {k0 k1 : Nat} : ∀ {l : List Oper} {i : Nat} {o : Oper}, iZ k0 k1 l = true -> l[i]? = some o -> ∀ j b, o.guard = some (j, b) -> k0 <= j /\ j + 1 <= k1
 | [], i, o, _, h => by simp at h
 | x :: l, 0, o, h, ho => by
  simp at ho; subst ho
  intro j b hg
  simp only [iZ, hg, Bool.and_eq_true] at h
  exact ⟨Nat.le_of_ble_eq_true h.1.1, Nat.le_of_ble_eq_true h.1.2⟩
 | x :: l, i + 1, o, h, ho => by
  simp only [iZ, Bool.and_eq_true] at h
  exact pd h.2 (by simpa using ho)
theorem tF (ops : List Oper) (k0 k1 i : Nat) : (fP ops k0 k1)[i]? = if k0 + i < k1 then (ops[k0 + i]?).map (jt k0) else none := by
 unfold fP
 rw [List.getElem?_map, List.getElem?_drop, List.getElem?_take]
 split <;> rfl
theorem uL (ops : List Oper) (k0 k1 : Nat) (h : k1 <= ops.length) : (fP ops k0 k1).length = k1 - k0 := by
 unfold fP; simp; omega
theorem wD {ops : Array Oper} {k0 k1 i : Nat} {o : Oper} (ho : ops[k0 + i]? = some o) (hi : k0 + i < k1) (hg : iZ k0 k1 ((ops.toList.take k1).drop k0) = true) {N : Act -> World -> Prop} {Q : Exit -> Act -> World -> Prop} {K K' : Act -> World -> Prop} {a : Act} {w : World} (hK : ∀ a w, K' a w -> K a w)
  (h : wpOp P ⟨fP ops.toList k0 k1⟩ (qn N Q) i K' a w) : wpOp P ops Q (k0 + i) K a w := by
 have hs : (⟨fP ops.toList k0 k1⟩ : Array Oper)[i]? = some (jt k0 o) := by
  have := tF ops.toList k0 k1 i
  rw [if_pos hi] at this
  have ho' : ops.toList[k0 + i]? = some o := by simpa using ho
  rw [ho'] at this; simpa using this
 have hw : Region.wanted (jt k0 o) (yielded ⟨fP ops.toList k0 k1⟩ a.tmps) = Region.wanted o (yielded ops a.tmps) := by
  unfold Region.wanted jt
  cases hgo : o.guard with
  | none => rfl
  | some p =>
   obtain ⟨j, b⟩ := p
   simp only
   have hin : ((ops.toList.take k1).drop k0)[i]? = some o := by
    rw [List.getElem?_drop, List.getElem?_take, if_pos hi]; simpa using ho
   obtain ⟨g1, g2⟩ := pd hg hin j b hgo
   have : yielded ⟨fP ops.toList k0 k1⟩ a.tmps (j - k0) = yielded ops a.tmps j := by
    unfold yielded
    have e := tF ops.toList k0 k1 (j - k0)
    rw [show k0 + (j - k0) = j by omega, if_pos (by omega)] at e
    have e' : (⟨fP ops.toList k0 k1⟩ : Array Oper)[j - k0]? = (ops[j]?).map (jt k0) := by simpa using e
    rw [e']
    cases ops[j]? with
    | none => rfl
    | some oj => rfl
   rw [this]
 unfold wpOp at h |-
 rw [hs] at h
 rw [ho]
 dsimp only at h |-
 rw [hw] at h
 split
 ·rename_i hq
  rw [if_pos hq] at h
  rcases h with h | h
  ·exact .inl (wp_qn hK (wp_shift h))
  ·exact .inr ⟨h.1, qL h.2⟩
 ·rename_i hq
  rw [if_neg hq] at h
  exact hK _ _ h
theorem wpOp_qn {ops : Array Oper} {i : Nat} {N : Act -> World -> Prop} {Q : Exit -> Act -> World -> Prop} {K K' : Act -> World -> Prop} {a : Act} {w : World} (hK : ∀ a w, K' a w -> K a w) (h : wpOp P ops (qn N Q) i K' a w) : wpOp P ops Q i K a w := by
 unfold wpOp at h |-
 split at h
 ·exact hK _ _ h
 ·split
  ·rename_i hq
   rw [if_pos hq] at h
   rcases h with h | h
   ·exact .inl (wp_qn hK h)
   ·exact .inr ⟨h.1, qL h.2⟩
  ·rename_i hq
   rw [if_neg hq] at h
   exact hK _ _ h
theorem jF {ops : Array Oper} (hed : ∀ i o, ops[i]? = some o -> ∀ e ∈ o.after.toList, binds e = true -> e.on < i) {L : Array Bool} (hsz : L.size = ops.size) (hr : Region.ready .any ops L = []) : ∀ i, i < ops.size -> lst L i = true := by
 intro i
 induction i using Nat.strongRecOn with
 | _ i ih =>
  intro hi
  cases hq : lst L i with
  | true => rfl
  | false =>
   have : i ∈ Region.ready .any ops L := by
    refine mem_ready.2 ⟨by rw [fF (by omega)]; exact hq, _, Array.getElem?_eq_getElem hi, fun e he hb => ?_⟩
    have hb' : binds e = true := by unfold Region.binds at hb; unfold binds; split at hb <;> simp_all
    have h1 := hed i _ (Array.getElem?_eq_getElem hi) e (by simpa using he) hb'
    exact ih e.on h1 (by omega)
   rw [hr] at this; cases this
theorem se {ops : Array Oper} {L : Array Bool} (hsz : L.size = ops.size) {i : Nat} (hi : i ∈ Region.ready .any ops L) : i < ops.size /\ lst L i = false := by
 obtain ⟨h1, o, h2, _⟩ := mem_ready.1 hi
 have hlt : i < ops.size := (Array.getElem?_eq_some_iff.1 h2).1
 rw [fF (by omega)] at h1
 exact ⟨hlt, h1⟩
theorem wF {ops : Array Oper} {Q : Exit -> Act -> World -> Prop} {L : Array Bool} (hsz : L.size = ops.size) (hall : ∀ i, i < ops.size -> lst L i = true) {a : Act} {w : World} (h : Q .normal a w) (F : Nat) : wpAny P .any ops Q F L a w := by
 have hno : ∀ i, i ∈ Region.ready .any ops L -> False := fun i hi => by
  obtain ⟨h1, h2⟩ := se hsz hi
  rw [hall i h1] at h2; cases h2
 cases F with
 | zero =>
  refine ⟨?_, h⟩
  cases hr : Region.ready .any ops L with
  | nil => rfl
  | cons x xs => exact (hno x (by rw [hr]; simp)).elim
 | succ F => exact ⟨fun _ => h, fun i hi => (hno i hi).elim⟩
structure Rel (ops : Array Oper) (k0 k1 : Nat) (L L' : Array Bool) : Prop where
 sz : L.size = ops.size
 sz' : L'.size = k1 - k0
 lo : ∀ i, i < k0 -> lst L i = true
 mid : ∀ i, i < k1 - k0 -> lst L (k0 + i) = lst L' i
 hi : ∀ i, k1 <= i -> lst L i = false
 cl : Closed ops L
def rF (ops : Array Oper) (k : Nat) (L : Array Bool) : Prop := L.size = ops.size /\ (∀ i, i < k -> lst L i = true) /\ (∀ i, k <= i -> lst L i = false) /\ Closed ops L
theorem Closed.set {ops : Array Oper} {L : Array Bool} (hL : Closed ops L) {i : Nat} {o : Oper} (hi : i < L.size) (ho : ops[i]? = some o) (hall : ∀ e ∈ o.after.toList, binds e = true -> lst L e.on = true) : Closed ops (L.setIfInBounds i true) := by
 intro k y hk hy e he hb
 rw [cB hi] at hk |-
 by_cases ek : k = i
 ·subst ek
  obtain rfl : y = o := by rw [ho] at hy; injection hy with e; exact e.symm
  have := hall e he hb
  split
  ·rfl
  ·exact this
 ·rw [if_neg ek] at hk
  have := hL k y hk hy e he hb
  split
  ·rfl
  ·exact this
theorem sim {ops : Array Oper} (hok : cv ops = true) {k0 k1 : Nat} (hk0 : k0 <= k1) (hk : k1 <= ops.size) (hseg : uK ops.toList k0 k1 = true) (hbar : k1 < ops.size -> (∀ j, j < k1 -> aY j (bef ops k1) = true) /\ (∀ j, k1 < j -> j < ops.size -> aY k1 (bef ops j) = true))
  {N : Act -> World -> Prop} {Q : Exit -> Act -> World -> Prop} (cont : ∀ f L a w, rF ops k1 L -> ops.size - k1 <= f -> N a w -> wpAny P .any ops Q f L a w) :
  ∀ (fuel F : Nat) (L L' : Array Bool) (a : Act) (w : World), Rel ops k0 k1 L L' -> ops.size - k1 + fuel <= F -> wpAny P .any ⟨fP ops.toList k0 k1⟩ (qn N Q) fuel L' a w -> wpAny P .any ops Q F L a w := by
 have hed : ∀ i o, ops[i]? = some o -> ∀ e ∈ o.after.toList, binds e = true -> e.on < i := fun i o ho => iT hok ho
 unfold uK at hseg
 simp only [Bool.and_eq_true] at hseg
 have hssz : (⟨fP ops.toList k0 k1⟩ : Array Oper).size = k1 - k0 := by simpa using uL ops.toList k0 k1 (by simpa using hk)
 have heds : ∀ i o, (⟨fP ops.toList k0 k1⟩ : Array Oper)[i]? = some o -> ∀ e ∈ o.after.toList, binds e = true -> e.on < i := fun i o ho => iT hseg.2 ho
 have fin : ∀ {L L' : Array Bool}, Rel ops k0 k1 L L' -> (∀ i, i < k1 - k0 -> lst L' i = true) -> rF ops k1 L := fun r h => ⟨r.sz, fun i hi => by
  by_cases q : i < k0
  ·exact r.lo i q
  ·have := r.mid (i - k0) (by omega)
   rw [show k0 + (i - k0) = i by omega] at this
   rw [this]; exact h _ (by omega), r.hi, r.cl⟩
 intro fuel
 induction fuel with
 | zero =>
  intro F L L' a w r hF h
  exact cont F L a w (fin r fun i hi => jF heds (by rw [r.sz', hssz]) h.1 i (by rw [hssz]; exact hi)) (by omega) h.2
 | succ fuel ih =>
  intro F L L' a w r hF h
  by_cases hall : ∀ i, i < k1 - k0 -> lst L' i = true
  ·refine cont F L a w (fin r hall) (by omega) (h.1 ?_)
   cases hr : Region.ready .any ⟨fP ops.toList k0 k1⟩ L' with
   | nil => rfl
   | cons x xs =>
    obtain ⟨g1, g2⟩ := se (L := L') (ops := ⟨fP ops.toList k0 k1⟩) (by rw [r.sz', hssz]) (i := x) (by rw [hr]; simp)
    rw [hall x (by rw [hssz] at g1; exact g1)] at g2; cases g2
  ·obtain ⟨F, rfl⟩ : ∃ F', F = F' + 1 := ⟨F - 1, by omega⟩
   have hsome : ∃ i, i < k1 - k0 /\ lst L' i = false := by
    refine Classical.byContradiction fun hn => hall fun i hi => ?_
    cases hq : lst L' i with
    | true => rfl
    | false => exact (hn ⟨i, hi, hq⟩).elim
   obtain ⟨m, hm1, hm2⟩ := hsome
   have hmL : lst L (k0 + m) = false := by rw [r.mid m hm1]; exact hm2
   refine ⟨fun hr => ?_, fun i hi => ?_⟩
   ·rw [jF hed r.sz hr (k0 + m) (by omega)] at hmL; cases hmL
   ·obtain ⟨hun, o, ho, hafter⟩ := mem_ready.1 hi
    have hlt : i < ops.size := (Array.getElem?_eq_some_iff.1 ho).1
    have hltL : i < L.size := by rw [r.sz]; exact hlt
    rw [fF hltL] at hun
    have hafter' : ∀ e ∈ o.after.toList, binds e = true -> lst L e.on = true := fun e he hb => hafter e (by simpa using he) (by unfold binds at hb; unfold Region.binds; split at hb <;> simp_all)
    have hb := na hok r.cl i o ho hafter'
    have h0 : k0 <= i := by
     refine Classical.byContradiction fun q => ?_
     rw [r.lo i (by omega)] at hun; cases hun
    have h1 : i < k1 := by
     refine Classical.byContradiction fun q => ?_
     by_cases e : i = k1
     ·subst e
      have := hb (k0 + m) ((hbar hlt).1 _ (by omega))
      rw [hmL] at this; cases this
     ·have := hb k1 ((hbar (by omega)).2 i (by omega) hlt)
      rw [r.hi k1 (Nat.le_refl _)] at this; cases this
    obtain ⟨j, rfl⟩ : ∃ j, i = k0 + j := ⟨i - k0, by omega⟩
    have hj : j < k1 - k0 := by omega
    have hs : (⟨fP ops.toList k0 k1⟩ : Array Oper)[j]? = some (jt k0 o) := by
     have := tF ops.toList k0 k1 j
     rw [if_pos h1] at this
     have ho' : ops.toList[k0 + j]? = some o := by simpa using ho
     rw [ho'] at this; simpa using this
    have hrd : j ∈ Region.ready .any ⟨fP ops.toList k0 k1⟩ L' := by
     refine mem_ready.2 ⟨by rw [fF (by rw [r.sz']; exact hj), <- r.mid j hj]; exact hun, _, hs, fun e' he' hb' => ?_⟩
     have he2 : e' ∈ ((o.after.toList.filter fun e => Nat.ble k0 e.on).map fun e => { e with on := e.on - k0 }) := by simpa [jt] using he'
     obtain ⟨e, he3, rfl⟩ := List.mem_map.1 he2
     obtain ⟨he4, he5⟩ := List.mem_filter.1 he3
     have hbe : binds e = true := by unfold Region.binds at hb'; unfold binds; split at hb' <;> simp_all
     have hle := Nat.le_of_ble_eq_true he5
     have hlt' := hed _ o ho e he4 hbe
     have := hafter' e he4 hbe
     rw [show e.on = k0 + (e.on - k0) by omega, r.mid _ (by omega)] at this
     exact this
    have hwp := h.2 j hrd
    refine wD ho h1 hseg.1.2 (fun a' w' hn => ?_) hwp
    refine ih F _ _ a' w' ⟨by simp [r.sz], by simp [r.sz'], fun i hi => ?_, fun i hi => ?_, fun i hi => ?_, r.cl.set hltL ho hafter'⟩ (by omega) hn
    ·rw [cB hltL]; split
     ·rfl
     ·exact r.lo i hi
    ·rw [cB hltL, cB (by rw [r.sz']; exact hj)]
     by_cases e : i = j
     ·subst e; rw [if_pos rfl, if_pos rfl]
     ·rw [if_neg e, if_neg (by omega)]; exact r.mid i hi
    ·rw [cB hltL, if_neg (by omega)]; exact r.hi i hi
theorem rz {p : Nat -> Bool} : ∀ {n k : Nat}, wB p n k = true -> ∀ j, k <= j -> j < k + n -> p j = true
 | 0, k, _, j, h1, h2 => by omega
 | n + 1, k, h, j, h1, h2 => by
  simp only [wB, Bool.and_eq_true] at h
  by_cases e : j = k
  ·subst e; exact h.1
  ·exact rz h.2 j (by omega) (by omega)
theorem sY (hT : TabOK P T) (hC : CallOK P T call) {ops : Array Oper} (hok : cv ops = true) {Q : Exit -> Act -> World -> Prop} : ∀ (bs : List Nat) (k0 : Nat) (σ σ' : AS) (tm tm' : Tr AV) (φ : Nat -> Nat × Nat) (A S : Nat -> Prop) (w : World) (a : Act) (L : Array Bool) (F : Nat), k0 <= ops.size -> rF ops k0 L -> ops.size - k0 <= F ->
  Inv P B φ A S σ.h.get w -> (∀ id, A id -> id < σ.n) -> GL T φ A S w -> TR φ A S w nt tm.get a -> iC T call nt ops bs k0 tm σ = some (tm', σ') ->
  (∀ a' φ' A' S' w', Step B φ A S w φ' A' S' w' -> Inv P B φ' A' S' σ'.h.get w' -> (∀ id, A' id -> id < σ'.n) -> TR φ' A' S' w' nt tm'.get a' -> Q .normal a' w') -> wpAny P .any ops Q F L a w := by
 have part : ∀ (k0 k1 : Nat) (σ σ' : AS) (tm tm' : Tr AV) (φ : Nat -> Nat × Nat) (A S : Nat -> Prop) (w : World) (a : Act) (L : Array Bool) (F : Nat), k0 <= ops.size -> k1 <= ops.size -> rF ops k0 L -> ops.size - k0 <= F ->
   (k1 < ops.size -> (∀ j, j < k1 -> aY j (bef ops k1) = true) /\ (∀ j, k1 < j -> j < ops.size -> aY k1 (bef ops j) = true)) ->
   Inv P B φ A S σ.h.get w -> (∀ id, A id -> id < σ.n) -> GL T φ A S w -> TR φ A S w nt tm.get a -> ly T call nt ops k0 k1 tm σ = some (tm', σ') ->
   (∀ f L' a' φ' A' S' w', rF ops k1 L' -> ops.size - k1 <= f -> Step B φ A S w φ' A' S' w' -> Inv P B φ' A' S' σ'.h.get w' -> (∀ id, A' id -> id < σ'.n) -> TR φ' A' S' w' nt tm'.get a' -> wpAny P .any ops Q f L' a' w') -> wpAny P .any ops Q F L a w := by
  intro k0 k1 σ σ' tm tm' φ A S w a L F hk0 hk1 hL hF hbar inv hb hg htm hv K
  unfold ly at hv
  split at hv
  ·rename_i he
   obtain rfl := Nat.eq_of_beq_eq_true he
   injection hv with hv; simp only [Prod.mk.injEq] at hv; obtain ⟨rfl, rfl⟩ := hv
   exact K F L a φ A S w hL hF Step.refl inv hb htm
  ·split at hv
   ·rename_i hseg
    split at hv
    ·rename_i tm1 news n1 hd
     injection hv with hv; simp only [Prod.mk.injEq] at hv; obtain ⟨rfl, rfl⟩ := hv
     have hseg' := hseg
     unfold uK at hseg'
     simp only [Bool.and_eq_true] at hseg'
     have hle := Nat.le_of_ble_eq_true hseg'.1.1
     have hssz : (⟨fP ops.toList k0 k1⟩ : Array Oper).size = k1 - k0 := by simpa using uL ops.toList k0 k1 (by simpa using hk1)
     have hrun := ta (P := P) (B := B) (ops := ⟨fP ops.toList k0 k1⟩) hT hC hseg'.2 inv hb hg htm hd (Q := qn (fun a' w' => ∃ φ' A' S', Step B φ A S w φ' A' S' w' /\ Inv P B φ' A' S' (lay σ.h news).get w' /\ (∀ id, A' id -> id < n1) /\ TR φ' A' S' w' nt tm1.get a') Q)
      (fun a' φ' A' S' w' g1 g2 g3 g4 => ⟨φ', A', S', g1, g2, g3, g4⟩)
     refine sim hok hle hk1 hseg hbar (N := fun a' w' => ∃ φ' A' S', Step B φ A S w φ' A' S' w' /\ Inv P B φ' A' S' (lay σ.h news).get w' /\ (∀ id, A' id -> id < n1) /\ TR φ' A' S' w' nt tm1.get a') (fun f L' a' w' hL' hf hN => ?_) _ F L _ a w ⟨hL.1, by simp [hssz], hL.2.1, fun i hi => ?_, fun i hi => hL.2.2.1 i (by omega), hL.2.2.2⟩ (by rw [hssz]; omega) hrun
     ·obtain ⟨φ', A', S', g1, g2, g3, g4⟩ := hN
      exact K f L' a' φ' A' S' w' hL' hf g1 g2 g3 g4
     ·rw [hL.2.2.1 _ (by omega)]
      unfold lst; rw [Array.getD_eq_getD_getElem?, Array.getElem?_replicate]; split <;> rfl
    ·cases hv
   ·cases hv
 intro bs
 induction bs with
 | nil =>
  intro k0 σ σ' tm tm' φ A S w a L F hk0 hL hF inv hb hg htm hv K
  refine part k0 ops.size σ σ' tm tm' φ A S w a L F hk0 (Nat.le_refl _) hL hF (fun h => absurd h (Nat.lt_irrefl _)) inv hb hg htm hv (fun f L' a' φ' A' S' w' g0 g1 g2 g3 g4 g5 => ?_)
  exact wF g0.1 g0.2.1 (K a' φ' A' S' w' g2 g3 g4 g5) f
 | cons b bs ih =>
  intro k0 σ σ' tm tm' φ A S w a L F hk0 hL hF inv hb hg htm hv K
  unfold iC at hv
  split at hv
  ·rename_i tm1 σ1 h1
   split at hv
   ·rename_i o ho
    have hblt : b < ops.size := (Array.getElem?_eq_some_iff.1 ho).1
    split at hv
    ·rename_i hbar
     unfold barOK at hbar
     simp only [Bool.and_eq_true] at hbar
     have hb1 : ∀ j, j < b -> aY j (bef ops b) = true := fun j hj => rz hbar.1.2 j (Nat.zero_le _) (by omega)
     have hb2 : ∀ j, b < j -> j < ops.size -> aY b (bef ops j) = true := fun j h1 h2 => rz hbar.2 j (by omega) (by omega)
     split at hv
     ·rename_i tm2 σ2 h2
      refine part k0 b σ σ1 tm tm1 φ A S w a L F hk0 (by omega) hL hF (fun _ => ⟨hb1, hb2⟩) inv hb hg htm h1 (fun f L' a' φ' A' S' w' g0 g1 g2 g3 g4 g5 => ?_)
      obtain ⟨f, rfl⟩ : ∃ f', f = f' + 1 := ⟨f - 1, by omega⟩
      refine ⟨fun hr => ?_, fun i hi => ?_⟩
      ·have := jF (fun i o ho => iT hok ho) g0.1 hr b hblt
       rw [g0.2.2.1 b (Nat.le_refl _)] at this; cases this
      ·obtain ⟨hun, o', ho', hafter⟩ := mem_ready.1 hi
       have hlt : i < ops.size := (Array.getElem?_eq_some_iff.1 ho').1
       have hltL : i < L'.size := by rw [g0.1]; exact hlt
       rw [fF hltL] at hun
       have hafter' : ∀ e ∈ o'.after.toList, binds e = true -> lst L' e.on = true := fun e he hb => hafter e (by simpa using he) (by unfold binds at hb; unfold Region.binds; split at hb <;> simp_all)
       have hbe := na hok g0.2.2.2 i o' ho' hafter'
       obtain rfl : i = b := by
        refine Classical.byContradiction fun q => ?_
        rcases Nat.lt_or_gt_of_ne q with q | q
        ·rw [g0.2.1 i q] at hun; cases hun
        ·have := hbe b (hb2 i q hlt)
         rw [g0.2.2.1 b (Nat.le_refl _)] at this; cases this
       obtain rfl : o' = o := by rw [ho] at ho'; injection ho' with e; exact e.symm
       have hseq := mT (P := P) (B := B) (Q := qn (fun a2 w2 => wpAny P .any ops Q f (L'.setIfInBounds i true) a2 w2) Q) hT hC (ops := ops) [o'] i σ1 σ2 tm1 tm2 a' φ' A' S' w' (fun j hj => by
        obtain rfl : j = 0 := by simpa using hj
        simpa using ho.symm) g3 g4 (hg.step g2) g5 h2 (fun a2 φ2 A2 S2 w2 k1 k2 k3 k4 => ?_)
       ·have hseq' : wpOps P ops (qn (fun a2 w2 => wpAny P .any ops Q f (L'.setIfInBounds i true) a2 w2) Q) (i :: []) a' w' := hseq
        rw [wpOps_cons] at hseq'
        exact wpOp_qn (fun a2 w2 h => h) hseq'
       ·refine ih (i + 1) σ2 σ' tm2 tm' φ2 A2 S2 w2 a2 _ f (by omega) ⟨by simp [g0.1], fun j hj => ?_, fun j hj => ?_, g0.2.2.2.set hltL ho hafter'⟩ (by omega) k2 k3 ((hg.step g2).step k1) k4 hv (fun a3 φ3 A3 S3 w3 m1 m2 m3 m4 => K a3 φ3 A3 S3 w3 ((g2.trans k1).trans m1) m2 m3 m4)
        ·rw [cB hltL]; split
         ·rfl
         ·exact g0.2.1 j (by omega)
        ·rw [cB hltL, if_neg (by omega)]; exact g0.2.2.1 j (by omega)
     ·cases hv
    ·cases hv
   ·cases hv
  ·cases hv
def Leaves (P : Program) (B nt : Nat) (φ : Nat -> Nat × Nat) (A S : Nat -> Prop) (w : World) (x : AX) (tm : Tr AV) (σ : AS) (Q : Exit -> Act -> World -> Prop) : Prop :=
 ∀ a' φ' A' S' w', Step B φ A S w φ' A' S' w' -> Inv P B φ' A' S' σ.h.get w' -> (∀ id, A' id -> id < σ.n) -> TR φ' A' S' w' nt tm.get a' -> match x with
  | .norm => Q .normal a' w'
  | .exit id => Q (.exit id) a' w'
  | .ret => Q .ret a' w'
theorem Leaves.step {φ φ' : Nat -> Nat × Nat} {A A' S S' : Nat -> Prop} {w w' : World} {x : AX} {tm : Tr AV} {σ : AS} {Q : Exit -> Act -> World -> Prop} (h : Leaves P B nt φ A S w x tm σ Q) (k : Step B φ A S w φ' A' S' w') : Leaves P B nt φ' A' S' w' x tm σ Q :=
 fun a2 φ2 A2 S2 w2 g1 g2 g3 g4 => h a2 φ2 A2 S2 w2 (k.trans g1) g2 g3 g4
theorem lm (hT : TabOK P T) (hC : CallOK P T call) (fuel : Nat) : ∀ (c : Code), eK c = true -> ∀ (σ σ' : AS) (tm tm' : Tr AV) (x : AX) (φ : Nat -> Nat × Nat) (A S : Nat -> Prop) (w : World) (a : Act) (Q : Exit -> Act -> World -> Prop),
  Inv P B φ A S σ.h.get w -> (∀ id, A id -> id < σ.n) -> GL T φ A S w -> TR φ A S w nt tm.get a -> aU T call nt fuel c tm σ = some (x, tm', σ') -> Leaves P B nt φ A S w x tm' σ' Q -> c.wp P Q a w := by
 intro c
 induction c with
 | skip =>
  intro _ σ σ' tm tm' x φ A S w a Q inv hb hg htm hv K
  injection hv with hv; simp only [Prod.mk.injEq] at hv; obtain ⟨rfl, rfl, rfl⟩ := hv
  exact wp_skip (K a φ A S w Step.refl inv hb htm)
 | label l =>
  intro _ σ σ' tm tm' x φ A S w a Q inv hb hg htm hv K
  injection hv with hv; simp only [Prod.mk.injEq] at hv; obtain ⟨rfl, rfl, rfl⟩ := hv
  exact wp_label (K a φ A S w Step.refl inv hb htm)
 | ret =>
  intro _ σ σ' tm tm' x φ A S w a Q inv hb hg htm hv K
  injection hv with hv; simp only [Prod.mk.injEq] at hv; obtain ⟨rfl, rfl, rfl⟩ := hv
  exact wp_ret (K a φ A S w Step.refl inv hb htm)
 | exit id =>
  intro _ σ σ' tm tm' x φ A S w a Q inv hb hg htm hv K
  injection hv with hv; simp only [Prod.mk.injEq] at hv; obtain ⟨rfl, rfl, rfl⟩ := hv
  exact wp_exit (K a φ A S w Step.refl inv hb htm)
 | region id ops draw =>
  intro hok σ σ' tm tm' x φ A S w a Q inv hb hg htm hv K
  cases draw with
  | false =>
   simp only [aU] at hv
   split at hv
   ·rename_i tm1 σ1 hs
    injection hv with hv; simp only [Prod.mk.injEq] at hv; obtain ⟨rfl, rfl, rfl⟩ := hv
    refine wp_region ?_
    have := mT (Q := Q) hT hC (ops := ops) ops.toList 0 σ σ1 tm tm1 a φ A S w (fun j _ => by simp) inv hb hg htm hs (fun a' φ' A' S' w' g1 g2 g3 g4 => K a' φ' A' S' w' g1 g2 g3 g4)
    simpa [List.range_eq_range'] using this
   ·cases hv
  | true =>
   simp only [aU] at hv
   have hd : Step B φ A S w φ A S w.drew := ⟨⟨rfl, rfl, rfl⟩, fun _ _ => rfl, fun _ h => h, fun _ h => h, fun _ h => .inl h, fun _ _ _ => rfl, Nat.le_refl _, fun _ _ => rfl⟩
   split at hv
   ·split at hv
    ·rename_i tm1 news n' hs
     injection hv with hv; simp only [Prod.mk.injEq] at hv; obtain ⟨rfl, rfl, rfl⟩ := hv
     refine wp_region_any hT.mixed ?_
     exact ta (w := w.drew) hT hC hok inv.drew hb (hg.step hd) (htm.step hd) hs (fun a' φ' A' S' w' g1 g2 g3 g4 => K a' φ' A' S' w' (hd.trans g1) g2 g3 g4)
    ·cases hv
   ·split at hv
    ·split at hv
     ·rename_i tm1 σ1 hs
      injection hv with hv; simp only [Prod.mk.injEq] at hv; obtain ⟨rfl, rfl, rfl⟩ := hv
      refine wp_region_any hT.mixed ?_
      have hl0 : ∀ i, lst (Array.replicate ops.size false) i = false := fun i => by unfold lst; rw [Array.getD_eq_getD_getElem?, Array.getElem?_replicate]; split <;> rfl
      exact sY hT hC hok _ 0 σ σ1 tm tm1 φ A S w.drew a _ _ (Nat.zero_le _) ⟨by simp, fun i hi => absurd hi (Nat.not_lt_zero _), fun i _ => hl0 i, fun i o hi => (by rw [hl0] at hi; cases hi)⟩ (Nat.le_refl _) inv.drew hb (hg.step hd) (htm.step hd) hs (fun a' φ' A' S' w' g1 g2 g3 g4 => K a' φ' A' S' w' (hd.trans g1) g2 g3 g4)
     ·cases hv
    ·rename_i j js hf
     split at hv
     ·rename_i hmay
      split at hv
      ·rename_i tm2 hfl
       split at hv
       ·rename_i tm1 σ1 hs
        injection hv with hv; simp only [Prod.mk.injEq] at hv; obtain ⟨rfl, rfl, rfl⟩ := hv
        unfold nW at hmay
        simp only [Bool.and_eq_true] at hmay
        obtain ⟨⟨⟨m1, m2⟩, m3⟩, m4⟩ := hmay
        refine wp_region_any hT.mixed ?_
        have hl0 : ∀ i, lst (Array.replicate ops.size false) i = false := fun i => by unfold lst; rw [Array.getD_eq_getD_getElem?, Array.getElem?_replicate]; split <;> rfl
        have hrel : RelF (j :: js) ops.size (kh (Array.replicate ops.size false) (j :: js)) (Array.replicate ops.size false) := ⟨by rw [oR]; simp, by simp, fun i hi => qt _ _ _ (by simpa using hi), qX m1⟩
        refine ot Qn_le _ _ _ _ (pT _ (ops.size + (j :: js).length) _ _ _ (cntU_n _ _) ?_)
        refine po (T := T) hT m3 (hg.step hd) (j :: js) _ tm tm2 a m1 (htm.step hd) hfl (fun a' ht' => ?_)
        refine oq m2 _ _ _ _ _ hrel ?_
        have hsz := uD (j :: js) ops
        exact sY hT hC m4 _ 0 σ σ1 tm2 tm1 φ A S w.drew a' _ _ (Nat.zero_le _) ⟨by simp [hsz], fun i hi => absurd hi (Nat.not_lt_zero _), fun i _ => hl0 i, fun i o hi => (by rw [hl0] at hi; cases hi)⟩ (by rw [hsz]; exact Nat.le_refl _) inv.drew hb (hg.step hd) ht' hs (fun a' φ' A' S' w' g1 g2 g3 g4 => K a' φ' A' S' w' (hd.trans g1) g2 g3 g4)
       ·cases hv
      ·cases hv
     ·cases hv
 | seq c d ihc ihd =>
  intro hok σ σ' tm tm' x φ A S w a Q inv hb hg htm hv K
  simp only [eK, Bool.and_eq_true] at hok
  simp only [aU] at hv
  refine wp_seq ?_
  split at hv
  ·rename_i tm1 σ1 hs
   refine ihc hok.1 σ σ1 tm tm1 .norm φ A S w a _ inv hb hg htm hs (fun a' φ' A' S' w' g1 g2 g3 g4 => ?_)
   exact ihd hok.2 σ1 σ' tm1 tm' x φ' A' S' w' a' Q g2 g3 (hg.step g1) g4 hv (K.step g1)
  ·rename_i hne
   refine ihc hok.1 σ σ' tm tm' x φ A S w a _ inv hb hg htm hv (fun a' φ' A' S' w' g1 g2 g3 g4 => ?_)
   have := K a' φ' A' S' w' g1 g2 g3 g4
   cases x with
   | norm => exact absurd hv (hne _ _)
   | exit id => exact this
   | ret => exact this
 | cond c d e ihd ihe =>
  intro hok σ σ' tm tm' x φ A S w a Q inv hb hg htm hv K
  simp only [eK, Bool.and_eq_true] at hok
  simp only [aU] at hv
  split at hv
  ·rename_i hc
   have := pH htm hg _ _ hc
   generalize hec : a.eval c = ec at this
   cases this
   exact wp_cond_true hec (ihd hok.1 σ σ' tm tm' x φ A S w a Q inv hb hg htm hv K)
  ·rename_i hc
   have := pH htm hg _ _ hc
   generalize hec : a.eval c = ec at this
   cases this
   exact wp_cond_false hec (ihe hok.2 σ σ' tm tm' x φ A S w a Q inv hb hg htm hv K)
  ·cases hv
 | block id c ih =>
  intro hok σ σ' tm tm' x φ A S w a Q inv hb hg htm hv K
  simp only [eK] at hok
  simp only [aU] at hv
  refine wp_block ?_
  split at hv
  ·rename_i j tm1 σ1 hs
   refine ih hok σ σ1 tm tm1 (.exit j) φ A S w a _ inv hb hg htm hs (fun a' φ' A' S' w' g1 g2 g3 g4 => ?_)
   simp only [Exit.inBlock]
   split at hv
   ·rename_i hj
    injection hv with hv; simp only [Prod.mk.injEq] at hv; obtain ⟨rfl, rfl, rfl⟩ := hv
    rw [if_pos (Nat.eq_of_beq_eq_true hj)]
    exact K a' φ' A' S' w' g1 g2 g3 g4
   ·rename_i hj
    injection hv with hv; simp only [Prod.mk.injEq] at hv; obtain ⟨rfl, rfl, rfl⟩ := hv
    rw [if_neg (by intro q; subst q; rw [Nat.beq_refl] at hj; cases hj)]
    exact K a' φ' A' S' w' g1 g2 g3 g4
  ·rename_i hne
   refine ih hok σ σ' tm tm' x φ A S w a _ inv hb hg htm hv (fun a' φ' A' S' w' g1 g2 g3 g4 => ?_)
   have := K a' φ' A' S' w' g1 g2 g3 g4
   cases x with
   | norm => exact this
   | exit id => exact absurd hv (hne _ _ _)
   | ret => exact this
 | scope c ih =>
  intro hok σ σ' tm tm' x φ A S w a Q inv hb hg htm hv K
  simp only [eK] at hok
  simp only [aU] at hv
  refine wp_scope_straight ?_
  refine ih hok σ σ' tm tm' x φ A S w a _ inv hb hg htm hv (fun a' φ' A' S' w' g1 g2 g3 g4 => ?_)
  have := K a' φ' A' S' w' g1 g2 g3 g4
  cases x <;> exact this
 | loop c ih =>
  intro hok σ σ' tm tm' x φ A S w a Q inv hb hg htm hv K
  simp only [eK] at hok
  simp only [aU] at hv
  have key : ∀ (n : Nat) (σ : AS) (tm : Tr AV) (φ : Nat -> Nat × Nat) (A S : Nat -> Prop) (w : World) (a : Act), Inv P B φ A S σ.h.get w -> (∀ id, A id -> id < σ.n) -> GL T φ A S w -> TR φ A S w nt tm.get a ->
    mw (aU T call nt fuel c) n tm σ = some (x, tm', σ') -> Leaves P B nt φ A S w x tm' σ' Q -> Code.rounds P c Q n a w := by
   intro n
   induction n with
   | zero => intro σ tm φ A S w a _ _ _ _ hv _; cases hv
   | succ n ihn =>
    intro σ tm φ A S w a inv hb hg htm hv K
    unfold mw at hv
    rw [rounds_succ]
    split at hv
    ·rename_i tm1 σ1 hs
     refine ih hok σ σ1 tm tm1 .norm φ A S w a _ inv hb hg htm hs (fun a' φ' A' S' w' g1 g2 g3 g4 => ?_)
     exact ihn σ1 tm1 φ' A' S' w' a' g2 g3 (hg.step g1) g4 hv (K.step g1)
    ·rename_i hne
     refine ih hok σ σ' tm tm' x φ A S w a _ inv hb hg htm hv (fun a' φ' A' S' w' g1 g2 g3 g4 => ?_)
     have := K a' φ' A' S' w' g1 g2 g3 g4
     cases x with
     | norm => exact absurd hv (hne _ _)
     | exit id => exact this
     | ret => exact this
  exact wp_loop_rounds fuel (key fuel σ tm φ A S w a inv hb hg htm hv K)
 | rangeFunc f ps as b iha ihb => intro _ σ σ' tm tm' x φ A S w a Q inv hb hg htm hv K; cases hv
 | goto l => intro _ σ σ' tm tm' x φ A S w a Q inv hb hg htm hv K; cases hv
 | refuse y => intro _ σ σ' tm tm' x φ A S w a Q inv hb hg htm hv K; cases hv
end
section
variable {P : Program} {T : Tab} {B : Nat} {φ φ' : Nat -> Nat × Nat} {A A' S S' : Nat -> Prop} {w w' : World}
theorem lc {α β : Type} {f : α -> Option β} : ∀ {cs : List α} {ds : List β}, di f cs = some ds -> ds.length = cs.length /\ ∀ (j : Nat) (d : β), ds[j]? = some d -> ∃ c, cs[j]? = some c /\ f c = some d
 | [], ds, h => by injection h with h; subst h; exact ⟨rfl, fun j d h => by simp at h⟩
 | c :: cs, ds, h => by
  simp only [di] at h
  split at h
  ·rename_i d ds' h1 h2
   injection h with h; subst h
   obtain ⟨q1, q2⟩ := lc h2
   refine ⟨by simp [q1], fun j d' hd => ?_⟩
   cases j with
   | zero => simp at hd; subst hd; exact ⟨c, rfl, h1⟩
   | succ j => simp at hd; exact q2 j d' hd
  ·cases h
theorem nV {T : Tab} {h : Tr AB} : ∀ (k : Nat) (a b : AV), fz T h k a = some b -> b.idfree = true
 | 0, a, b, hf => by cases hf
 | k + 1, a, b, hf => by
  have list : ∀ {cs ds : List AV}, di (fz T h k) cs = some ds -> AV.idfree.idfrees ds = true := fun hm => gT fun j d hd => by
   obtain ⟨c, _, hc⟩ := (lc hm).2 j d hd
   exact nV k c d hc
  unfold fz at hf
  split at hf
  ·rename_i hi
   injection hf with hf; subst hf
   exact norm_idfree a hi
  ·split at hf
   ·split at hf
    ·split at hf
     ·rw [Option.map_eq_some_iff] at hf
      obtain ⟨ds, hd, rfl⟩ := hf
      simp only [AV.idfree]; exact list hd
     ·cases hf
    ·cases hf
   ·split at hf
    ·split at hf
     ·split at hf
      ·split at hf
       ·rw [Option.map_eq_some_iff] at hf
        obtain ⟨ds, _, rfl⟩ := hf
        rfl
       ·cases hf
      ·cases hf
     ·cases hf
    ·cases hf
   ·rw [Option.map_eq_some_iff] at hf
    obtain ⟨d, hd, rfl⟩ := hf
    simp only [AV.idfree]; exact nV k _ _ hd
   ·rw [Option.map_eq_some_iff] at hf
    obtain ⟨ds, hd, rfl⟩ := hf
    simp only [AV.idfree]; exact list hd
   ·rw [Option.map_eq_some_iff] at hf
    obtain ⟨ds, hd, rfl⟩ := hf
    simp only [AV.idfree]; exact list hd
   ·split at hf
    ·rename_i fs' cs' h1 h2
     injection hf with hf; subst hf
     simp only [AV.idfree, Bool.and_eq_true]; exact ⟨list h1, list h2⟩
    ·cases hf
   ·cases hf
theorem xX {T : Tab} {h : Tr AB} {k id : Nat} {cs : List AV} {c : AV} (hc : c ∈ cs) (hi : id ∈ rch T h k c) : id ∈ cs.flatMap (rch T h k) := List.mem_flatMap.2 ⟨c, hc, hi⟩
theorem zm {h : Tr AB} (hh : Has P φ A S h w) (hS : ∀ b, S b -> S' b) (φ' : Nat -> Nat × Nat) (A' : Nat -> Prop) : ∀ (k : Nat) (a b : AV) (v : Value), (∀ id b, id ∈ rch T h k a -> h.get id = some b -> S' (φ id).1) -> VR φ A S w a v -> fz T h k a = some b -> VR φ' A' S' w b v := by
 intro k
 induction k with
 | zero => intro a b v _ _ hf; cases hf
 | succ k ih =>
  have list : ∀ (cs ds : List AV) (vs : List Value), (∀ id b, id ∈ cs.flatMap (rch T h k) -> h.get id = some b -> S' (φ id).1) -> VRs φ A S w cs vs -> di (fz T h k) cs = some ds -> VRs φ' A' S' w ds vs := by
   intro cs ds vs hB hv hf
   obtain ⟨q1, q2⟩ := lc hf
   refine ⟨by rw [q1]; exact hv.1, fun j d v hd hvj => ?_⟩
   obtain ⟨c, hc, hcd⟩ := q2 j d hd
   exact ih c d v (fun id b hi hb => hB id b (xX (List.mem_of_getElem? hc) hi) hb) (hv.2 j c v hc hvj) hcd
  intro a b v hB hv hf
  unfold fz at hf
  split at hf
  ·rename_i hi
   injection hf with hf; subst hf
   exact ((hv.idfree hi φ' A').wider hS).norm
  ·rename_i hi
   split at hf
   ·rename_i id off
    split at hf
    ·rename_i cs e g hb
     unfold rch at hB
     simp only [hb, AV.idfree] at hB
     split at hf
     ·rw [Option.map_eq_some_iff] at hf
      obtain ⟨ds, hq, rfl⟩ := hf
      cases hv with | ptr _ _ hA =>
      obtain ⟨vs, h1, h2⟩ := (jg (hh _ _ hb)).drop off
      rw [Nat.zero_add] at h2
      have h3 := list _ _ _ (fun id' b' hi hb' => hB id' b' (List.mem_cons_of_mem _ hi) hb') h1 hq
      exact .iptr ds vs _ _ h3.1 (hB _ _ (by simp) hb) h2 h3.2
     ·cases hf
    ·cases hf
   ·rename_i id off len cap
    split at hf
    ·rename_i cs e g hb
     unfold rch at hB
     simp only [hb, AV.idfree] at hB
     split at hf
     ·rename_i z d hz hty
      rw [hz] at hB
      split at hf
      ·rename_i cs' hcs'
       split at hf
       ·rename_i ds hq
        rw [Option.map_eq_some_iff] at hf
        obtain ⟨es, hes, rfl⟩ := hf
        obtain ⟨k1, rfl⟩ := eM hcs'
        obtain ⟨c1, c2, c3, c4⟩ := nZ hes
        have hdl : ds.length = len * (z + 1) := by rw [(lc hq).1, List.length_take]; omega
        have hfl : aM es = ds := by rw [c4, List.take_of_length_le (by omega)]
        cases hv with | sl _ _ _ _ c q1 q2 q3 q4 =>
        obtain ⟨vs, h1, h2⟩ := ((jg (hh _ _ hb)).drop off).take (len * (z + 1))
        rw [Nat.zero_add] at h2
        have h3 := list _ _ _ (fun id' b' hi hb' => hB id' b' (List.mem_cons_of_mem _ hi) hb') h1 hq
        have hidf : AV.idfree.idfrees ds = true := gT fun j d hd => (lc hq).2 j d hd |>.elim fun c hc => nV k c d hc.2
        exact VR.lst_mk c1.symm q2 c2 (by rw [hfl]; exact hidf) (hB _ _ (by simp) hb) (by rw [hfl]; exact h3) h2
       ·cases hf
      ·cases hf
     ·cases hf
    ·cases hf
   ·rename_i t x
    rw [Option.map_eq_some_iff] at hf
    obtain ⟨y, hq, rfl⟩ := hf
    cases hv with | ifc _ _ u hu => exact .ifc _ _ _ (ih _ _ _ (fun id b hi' hb => hB id b (by unfold rch; rw [hi]; exact hi') hb) hu hq)
   ·rename_i cs
    rw [Option.map_eq_some_iff] at hf
    obtain ⟨ds, hq, rfl⟩ := hf
    cases hv with | agg _ vs h1 h2 => have h3 := list _ _ _ (fun id b hi' hb => hB id b (by unfold rch; rw [hi]; exact hi') hb) ⟨h1, h2⟩ hq; exact .agg _ _ h3.1 h3.2
   ·rename_i cs
    rw [Option.map_eq_some_iff] at hf
    obtain ⟨ds, hq, rfl⟩ := hf
    cases hv with | tup _ vs h1 h2 => have h3 := list _ _ _ (fun id b hi' hb => hB id b (by unfold rch; rw [hi]; exact hi') hb) ⟨h1, h2⟩ hq; exact .tup _ _ h3.1 h3.2
   ·rename_i f fs cs
    split at hf
    ·rename_i fs' cs' h1 h2
     injection hf with hf; subst hf
     cases hv with | fn _ _ _ us vs q1 q2 q3 q4 =>
     have h3 := list _ _ _ (fun id b hi' hb => hB id b (by unfold rch; rw [hi]; exact List.mem_append_left _ hi') hb) ⟨q1, q3⟩ h1
     have h4 := list _ _ _ (fun id b hi' hb => hB id b (by unfold rch; rw [hi]; exact List.mem_append_right _ hi') hb) ⟨q2, q4⟩ h2
     exact .fn _ _ _ _ _ h3.1 h4.1 h3.2 h4.2
    ·cases hf
   ·cases hf
theorem fzs_ok {h : Tr AB} (hh : Has P φ A S h w) (hS : ∀ b, S b -> S' b) (φ' : Nat -> Nat × Nat) (A' : Nat -> Prop) (k : Nat) (cs ds : List AV) (vs : List Value) (hB : ∀ id b, id ∈ cs.flatMap (rch T h k) -> h.get id = some b -> S' (φ id).1) (hv : VRs φ A S w cs vs) (hf : di (fz T h k) cs = some ds) : VRs φ' A' S' w ds vs := by
 obtain ⟨q1, q2⟩ := lc hf
 refine ⟨by rw [q1]; exact hv.1, fun j d v hd hvj => ?_⟩
 obtain ⟨c, hc, hcd⟩ := q2 j d hd
 exact zm hh hS φ' A' k c d v (fun id b hi hb => hB id b (xX (List.mem_of_getElem? hc) hi) hb) (hv.2 j c v hc hvj) hcd
theorem gD (h : Tr AB) : ∀ (ids : List Nat) (id : Nat), (mB h ids).get id = if id ∈ ids then none else h.get id
 | [], id => by simp [mB]
 | x :: ids, id => by
  unfold mB
  rw [Tr.get_put, gD h ids id]
  by_cases e : id = x
  ·subst e; simp
  ·simp [e]
theorem od : ∀ (args : List AV) (i : Nat) (tm : Tr AV) (t : Nat), (lC args i tm).get t = if i <= t /\ t < i + args.length then args[t - i]? else tm.get t
 | [], i, tm, t => by
  unfold lC
  rw [if_neg (by simp only [List.length_nil]; omega)]
 | a :: as, i, tm, t => by
  unfold lC
  rw [od as (i + 1) _ t, Tr.get_put]
  by_cases h1 : t = i
  ·subst h1
   rw [if_neg (by omega), if_pos rfl, if_pos (by simp)]
   simp
  ·by_cases h2 : i + 1 <= t /\ t < i + 1 + as.length
   ·rw [if_pos h2, if_pos (by simp; omega)]
    have : t - i = (t - (i + 1)) + 1 := by omega
    rw [this, List.getElem?_cons_succ]
   ·rw [if_neg h2, if_neg h1, if_neg (by simp; omega)]
theorem zO {args : List AV} {vals : List Value} (h : VRs φ A S w args vals) (n : Nat) : TR φ A S w (Nat.max args.length n) (lC args 0 .nil).get { tmps := (⟨vals⟩ : Array Value) ++ Array.replicate (n - (⟨vals⟩ : Array Value).size) undef, defers := [] } := by
 refine ⟨rfl, ?_, fun t v hv => ?_⟩
 ·have := h.1
  simp only [Array.size_append, Array.size_replicate, List.size_toArray]
  show vals.length + (n - vals.length) = max args.length n
  omega
 ·rw [od] at hv
  split at hv
  ·rename_i hlt
   rw [Nat.sub_zero] at hv
   obtain ⟨u, h1, h2⟩ := h.at hv
   have : ((⟨vals⟩ : Array Value) ++ Array.replicate (n - (⟨vals⟩ : Array Value).size) undef).getD t undef = u := by
    have hl : t < vals.length := (List.getElem?_eq_some_iff.1 h1).1
    rw [Array.getD_eq_getD_getElem?, Array.getElem?_append_left (by simpa using hl)]
    simp [h1]
   rw [this]; exact h2
  ·cases hv
def resF (tmps : Array Value) : ResultVar -> Sem Value
 | .tmp t => pure (tmps.getD t undef)
 | .cell b t => do loadVar t (<- asAddr (tmps.getD b undef))
theorem qv (fn : Func) (tmps : Array Value) : results fn tmps = (do let vs <- fn.results.mapM (resF tmps); pure (if h : vs.size = 1 then vs[0] else .tuple vs)) := by
 unfold results
 congr 1
theorem mg (hT : TabOK P T) {nt : Nat} {tm : Tr AV} {h : Tr AB} {a : Act} (hh : Has P φ A S h w) (htm : TR φ A S w nt tm.get a) : ∀ (rs : List ResultVar) (vs : List AV), gq T tm h rs = some vs ->
  ∃ us, VRs φ A S w vs us /\ (rs.mapM (resF a.tmps)).run P w = .ok us w
 | [], vs, hr => by injection hr with hr; subst hr; exact ⟨[], VRs.nil, rfl⟩
 | .tmp t :: rs, vs, hr => by
  unfold gq at hr
  split at hr
  ·rename_i x xs h1 h2
   injection hr with hr; subst hr
   obtain ⟨us, q1, q2⟩ := mg hT hh htm rs xs h2
   refine ⟨_ :: us, VRs.cons (htm.val t x h1) q1, ?_⟩
   rw [List.mapM_cons]
   simp only [resF, Sem.run_bind, Sem.run_pure, Result.andThen_ok, q2]
  ·cases hr
 | .cell b t :: rs, vs, hr => by
  unfold gq at hr
  split at hr
  ·rename_i p hp
   split at hr
   ·rename_i cs hcs
    split at hr
    ·rename_i x xs h1 h2
     injection hr with hr; subst hr
     obtain ⟨us, q1, q2⟩ := mg hT hh htm rs xs h2
     obtain ⟨bb, o, hx, hc⟩ := sD hh (htm.val b p hp) hcs
     obtain ⟨u, k1, k2⟩ := mo hT hc h1
     refine ⟨u :: us, VRs.cons k2 q1, ?_⟩
     rw [List.mapM_cons]
     have ea : asAddr (a.tmps.getD b undef) = pure ⟨bb, o, none⟩ := by rw [hx]; rfl
     simp only [resF, ea, pure_bind, Sem.run_bind, k1, Result.andThen_ok, q2, Sem.run_pure]
    ·cases hr
   ·cases hr
  ·cases hr
def kX : List Value -> Value
 | [u] => u
 | us => .tuple ⟨us⟩
theorem fV (hT : TabOK P T) {call : Nat -> List AV -> AS -> Option (AV × AS)} (hC : CallOK P T call) {fuel f : Nat} {fn : Func} {c : Code} (hf : T.fn f = some fn) (hb : fn.body = some c) {args : List AV} {σ σ' : AS} {r : AV} (hv : eY T call fuel fn c args σ = some (r, σ'))
  {vals : List Value} (inv : Inv P B φ A S σ.h.get w) (hbd : ∀ id, A id -> id < σ.n) (hg : GL T φ A S w) (ha : VRs φ A S w args vals) :
  (callFunc f ⟨vals⟩).run P w = .ok (.enter f ⟨vals⟩) w /\
  Calls P f ⟨vals⟩ w fun e w' => ∃ u φ' A' S', e = .returned u /\ Step B φ A S w φ' A' S' w' /\ Inv P B φ' A' S' σ'.h.get w' /\ (∀ id, A' id -> id < σ'.n) /\ VR φ' A' S' w' r u := by
 obtain ⟨h1, h2, h3⟩ := hT.fn _ _ hf
 refine ⟨?_, ?_⟩
 ·unfold callFunc
  simp only [Sem.run_bind, run_program, Result.andThen_ok, h1]
  rw [if_neg (by rw [h2]; simp), if_neg (by rw [hb]; simp)]
  rfl
 ·refine calls_of_wp h1 hb ?_
  unfold eY at hv
  split at hv
  ·rename_i x tm σ1 hc
   have hres : ∃ vs, gq T tm σ1.h fn.results.toList = some vs /\ r = fD vs /\ σ' = σ1 /\ ∀ id, x ≠ .exit id := by
    split at hv
    ·cases hv
    ·rename_i hne
     split at hv
     ·rename_i vs hr
      injection hv with hv; simp only [Prod.mk.injEq] at hv
      exact ⟨vs, hr, hv.1.symm, hv.2.symm, fun id e => hne id e⟩
     ·cases hv
   obtain ⟨vs, hr, rfl, rfl, hne⟩ := hres
   refine lm hT hC fuel c (h3 c hb) σ σ' _ tm x φ A S w _ _ inv hbd hg (zO ha fn.ntmps) hc (fun a' φ' A' S' w' g1 g2 g3 g4 => ?_)
   obtain ⟨us, k1, k2⟩ := mg hT g2.blk g4 _ _ hr
   have hrun : (results fn a'.tmps).run P w' = .ok (kX us) w' /\ VR φ' A' S' w' (fD vs) (kX us) := by
    refine ⟨?_, ?_⟩
    ·rw [qv]
     simp only [Sem.run_bind, Array.mapM_eq_mapM_toList, Sem.run_map]
     rw [k2]
     simp only [Result.andThen_ok, Sem.run_pure]
     match us with
     | [] => rfl
     | [u] => rfl
     | u1 :: u2 :: us => simp; rfl
    ·have hl := k1.1
     match us, vs, hl, k1 with
     | [], [], _, k1 => exact .tup _ _ k1.1 k1.2
     | [u], [v], _, k1 => exact k1.2 0 v u rfl rfl
     | u1 :: u2 :: us, v1 :: v2 :: vs, _, k1 => exact .tup _ _ k1.1 k1.2
   have fin : a'.defers = [] /\ ∃ v, (results fn a'.tmps).run P w' = .ok v w' /\ ∃ u φ2 A2 S2, Ending.returned v = .returned u /\ Step B φ A S w φ2 A2 S2 w' /\ Inv P B φ2 A2 S2 σ'.h.get w' /\ (∀ id, A2 id -> id < σ'.n) /\ VR φ2 A2 S2 w' (fD vs) u :=
    ⟨g4.defers, _, hrun.1, _, φ', A', S', rfl, g1, g2, g3, hrun.2⟩
   cases x with
   | norm => exact fin
   | exit id => exact absurd rfl (hne id)
   | ret => exact fin
  ·cases hv
theorem GL.any (hT : TabOK P T) (h : GL T φ A S w) (hS : ∀ b, S b -> S' b) (φ' : Nat -> Nat × Nat) (A' : Nat -> Prop) : GL T φ' A' S' w := fun g cs hg => ⟨((h g cs hg).1.idfree (by simp only [AV.idfree]; exact hT.gl g cs hg) φ' A').wider hS, (h g cs hg).2⟩
theorem Step.widen {φ φ' : Nat -> Nat × Nat} {A A' S S1 S2 : Nat -> Prop} {w w' : World} (h : Step B φ A S w φ' A' S1 w') (h1 : ∀ b, S1 b -> S2 b) (h2 : ∀ b, S2 b -> S b ∨ B <= b) : Step B φ A S w φ' A' S2 w' :=
 ⟨h.same, h.ph, h.al, fun b hb => h1 b (h.st b hb), h2, h.cell, h.size, h.low⟩
theorem Inv.widen {S1 S2 : Nat -> Prop} {H : Nat -> Option AB} (h : Inv P B φ A S1 H w) (h2 : ∀ b, S2 b -> b < w.heap.size /\ ∀ id, H id ≠ none -> (φ id).1 ≠ b) (h1 : ∀ b, S1 b -> S2 b) : Inv P B φ A S2 H w :=
 ⟨h.dom, h.lo, h.inj, h2, fun id b hb => (h.blk id b hb).mono rfl (fun _ _ => rfl) (fun _ h => h) h1 (fun _ _ => rfl) rfl, h.hB⟩
theorem tv {H H1 : Nat -> Option AB} {φ φ' : Nat -> Nat × Nat} {A A' S S' : Nat -> Prop} {w w' : World} {n id off len : Nat} {cap : Option Nat} {cs : List AV} {el : Nat} {g : Bool} {u : Value} (inv : Inv P B φ A S H w) (hn : ¬ A n) (hbel : Below w.heap.size w w')
  (hS' : ∀ b, S' b -> S b ∨ (w.heap.size <= b /\ b < w'.heap.size)) (inv' : Inv P w.heap.size φ' A' S' H1 w') (hid : H1 id = some (.cells cs el g)) (hfree : AV.idfree.idfrees cs = true) (hr : VR φ' A' S' w' (.sl id off len cap) u) :
  ∃ φ2 S2, Step B φ A S w φ2 (eX A n) S2 w' /\ Inv P B φ2 (eX A n) S2 (fun j => if j = n then some (.cells cs el g) else H j) w' /\ VR φ2 (eX A n) S2 w' (.sl n off len cap) u := by
 cases hr with | sl _ _ _ _ c q1 q2 q3 q4 =>
 obtain ⟨nb, hnb⟩ : ∃ nb, nb = φ' id := ⟨_, rfl⟩
 rw [<- hnb] at q4 |-
 have hnlo : w.heap.size <= nb.1 /\ nb.1 < w'.heap.size := by rw [hnb]; exact inv'.lo id q1
 have hnS : ∀ b, S' b -> b ≠ nb.1 := fun b hb e => (inv'.st b hb).2 id (by rw [hid]; simp) (by rw [e, hnb])
 obtain ⟨S2, hS2⟩ : ∃ S2 : Nat -> Prop, S2 = fun b => S b ∨ S' b := ⟨_, rfl⟩
 have hold := gR (φ := φ) (A := A) (n := n) (b := nb.1) (cap := nb.2) hn
 have hs0 := Step.below inv hbel
 have inv0 := inv.below hbel
 have hstep : Step B φ A S w (eW φ n nb.1 nb.2) (eX A n) S2 w' := by
  refine ⟨hs0.same, hold, fun _ h => .inr h, fun b h => by rw [hS2]; exact .inl h, fun b h => ?_, hs0.cell, hs0.size, hs0.low⟩
  rw [hS2] at h
  rcases h with h | h
  ·exact .inl h
  ·rcases hS' b h with h | h
   ·exact .inl h
   ·exact .inr (Nat.le_trans inv.hB h.1)
 have hblk : BR P (eW φ n nb.1 nb.2) (eX A n) S2 w' n (.cells cs el g) := by
  obtain ⟨C, fz, b1, b2, b3, b4, b5⟩ := inv'.blk _ _ hid
  refine ⟨C, fz, by rw [aW, hnb]; exact b1, b2, b3, ?_, fun hg => by rw [aW, hnb]; exact b5 hg⟩
  exact ((b4.idfree hfree _ _).wider (fun b hb => by rw [hS2]; exact .inr hb))
 have hlt : ∀ j, H j ≠ none -> (φ j).1 < w.heap.size := fun j hj => by
  cases hq : H j with
  | none => exact absurd hq hj
  | some x => exact (inv.lo j (inv.dom _ _ hq)).2
 have hA : ∀ j, H j ≠ none -> A j := fun j hj => by
  cases hq : H j with
  | none => exact absurd hq hj
  | some x => exact inv.dom _ _ hq
 refine ⟨_, S2, hstep, ⟨fun j b hj => ?_, fun j hj => ?_, fun j k hj hk hjk => ?_, fun b hb2 => ?_, fun j b hj => ?_, inv0.hB⟩, ?_⟩
 ·by_cases e1 : j = n
  ·exact .inl e1
  ·rw [if_neg e1] at hj; exact .inr (inv.dom _ _ hj)
 ·rcases hj with rfl | hj
  ·rw [aW]; exact ⟨Nat.le_trans inv.hB hnlo.1, hnlo.2⟩
  ·rw [hold j hj]; exact inv0.lo j hj
 ·by_cases e1 : j = n <;> by_cases e2 : k = n
  ·rw [e1, e2]
  ·rw [if_neg e2] at hk
   rw [e1, aW, hold k (hA k hk)] at hjk
   have := hlt k hk; omega
  ·rw [if_neg e1] at hj
   rw [e2, aW, hold j (hA j hj)] at hjk
   have := hlt j hj; omega
  ·rw [if_neg e1] at hj; rw [if_neg e2] at hk
   rw [hold j (hA j hj), hold k (hA k hk)] at hjk
   exact inv.inj j k hj hk hjk
 ·rw [hS2] at hb2
  have hb3 : S b ∨ (w.heap.size <= b /\ b < w'.heap.size) := by
   rcases hb2 with h | h
   ·exact .inl h
   ·exact hS' b h
  refine ⟨by rcases hb3 with h | h; exact Nat.lt_of_lt_of_le (inv.st b h).1 hbel.size; exact h.2, fun j hj => ?_⟩
  by_cases e1 : j = n
  ·rw [e1, aW]
   rcases hb2 with h | h
   ·have := (inv.st b h).1; omega
   ·exact fun e => hnS b h e.symm
  ·rw [if_neg e1] at hj
   rw [hold j (hA j hj)]
   rcases hb3 with h | h
   ·exact (inv.st b h).2 j hj
   ·have := hlt j hj; omega
 ·by_cases e1 : j = n
  ·subst e1
   rw [if_pos rfl] at hj; injection hj with hj; subst hj; exact hblk
  ·rw [if_neg e1] at hj
   exact (inv.blk j b hj).mono (hold j (inv.dom _ _ hj)) hold (fun _ h => .inr h) (fun b hb => by rw [hS2]; exact .inl hb) (fun b hb => hbel.block _ (inv.st b hb).1) (hbel.block _ (inv.lo j (inv.dom _ _ hj)).2)
 ·have := VR.sl (φ := eW φ n nb.1 nb.2) (A := eX A n) (S := S2) (w := w') n off len cap c (.inl rfl) q2 q3 (fun h0 h1 => by rw [aW]; exact q4 h0 h1)
  rwa [aW] at this
theorem AM {σ σ' σ1 : AS} {r r1 : AV} {φ φ' : Nat -> Nat × Nat} {A A' S S' : Nat -> Prop} {w w' : World} {e : Ending} {u : Value} (inv : Inv P B φ A S σ.h.get w) (hb : ∀ id, A id -> id < σ.n) (hbel : Below w.heap.size w w') (he : e = .returned u)
  (hS' : ∀ b, S' b -> S b ∨ (w.heap.size <= b /\ b < w'.heap.size)) (inv' : Inv P w.heap.size φ' A' S' σ1.h.get w') (hr : VR φ' A' S' w' r1 u) (hv : kN σ1.h r1 σ = some (r, σ')) :
  ∃ u φ' A' S', e = .returned u /\ Step B φ A S w φ' A' S' w' /\ Inv P B φ' A' S' σ'.h.get w' /\ (∀ id, A' id -> id < σ'.n) /\ VR φ' A' S' w' r u := by
 unfold kN at hv
 split at hv
 ·injection hv with hv; simp only [Prod.mk.injEq] at hv; obtain ⟨rfl, rfl⟩ := hv
  cases hr with | nilz _ p hp =>
  exact ⟨_, φ, A, _, he, Step.below inv hbel, inv.below hbel, hb, .nilz _ p hp⟩
 ·rename_i id off len cap
  split at hv
  ·rename_i cs el g hid
   split at hv
   ·rename_i hfree
    injection hv with hv; simp only [Prod.mk.injEq] at hv; obtain ⟨rfl, rfl⟩ := hv
    obtain ⟨φ2, S2, h1, h2, h3⟩ := tv inv (not_A hb) hbel hS' inv' hid hfree hr
    exact ⟨_, _, _, S2, he, h1, h2.ext (bG _ _ _), mr hb, h3⟩
   ·cases hv
  ·cases hv
 ·cases hv
theorem xH {H : Nat -> Option AB} {n : Nat} {σ' σ1 : AS} {r r1 : AV} {φ φ' : Nat -> Nat × Nat} {A A' S S' : Nat -> Prop} {w w' : World} {e : Ending} {u : Value} (inv : Inv P B φ A S H w) (hn : ¬ A n) (hbel : Below w.heap.size w w') (he : e = .returned u)
  (hS' : ∀ b, S' b -> S b ∨ (w.heap.size <= b /\ b < w'.heap.size)) (inv' : Inv P w.heap.size φ' A' S' σ1.h.get w') (hr : VR φ' A' S' w' r1 u) (hv : kN σ1.h r1 ⟨.nil, n⟩ = some (r, σ')) :
  ∃ u φ' A' S', e = .returned u /\ Step B φ A S w φ' A' S' w' /\ Inv P B φ' A' S' (fun j => if j = n then σ'.h.get n else H j) w' /\ (∀ id, A' id -> id = n ∨ A id) /\ VR φ' A' S' w' r u := by
 unfold kN at hv
 split at hv
 ·injection hv with hv; simp only [Prod.mk.injEq] at hv; obtain ⟨rfl, rfl⟩ := hv
  cases hr with | nilz _ p hp =>
  refine ⟨_, φ, A, _, he, Step.below inv hbel, (inv.below hbel).ext (fun j => ?_), fun id h => .inr h, .nilz _ p hp⟩
  split
  ·rename_i e; subst e
   cases hq : H j with
   | none => rw [Tr.get_nil]
   | some b => exact absurd (inv.dom _ _ hq) hn
  ·rfl
 ·rename_i id off len cap
  split at hv
  ·rename_i cs el g hid
   split at hv
   ·rename_i hfree
    injection hv with hv; simp only [Prod.mk.injEq] at hv; obtain ⟨rfl, rfl⟩ := hv
    obtain ⟨φ2, S2, h1, h2, h3⟩ := tv inv hn hbel hS' inv' hid hfree hr
    refine ⟨_, _, _, S2, he, h1, h2.ext (fun j => ?_), fun id h => h, h3⟩
    split
    ·rw [Tr.get_put, if_pos rfl]
    ·rfl
   ·cases hv
  ·cases hv
 ·cases hv
theorem uc {T : Tab} {f : Nat} {args : List AV} {r : AV} (h : fU T f args = some r) : ∃ g, T.ext f = some g /\ g args = some r := by
 unfold fU at h
 split at h
 ·rename_i g hx; exact ⟨g, hx, h⟩
 ·cases h
theorem lp (hT : TabOK P T) : ∀ k, CallOK P T (aE T k)
 | 0 => ⟨fun f args σ r σ' _ h => (by cases h), fun f args σ r σ' _ h => (by cases h), fun f args n r σ' _ _ h => (by cases h)⟩
 | k + 1 => by
  have ih := lp hT k
  have empty : ∀ (w : World) (φ : Nat -> Nat × Nat) (S : Nat -> Prop), (∀ b, S b -> b < w.heap.size) -> Inv P w.heap.size φ (fun _ => False) S (Tr.nil : Tr AB).get w := fun w φ S hS =>
   ⟨fun id b h => by simp [Tr.get_nil] at h, fun id h => h.elim, fun id id' h => absurd (Tr.get_nil id) h, fun b hb => ⟨hS b hb, fun id h => absurd (Tr.get_nil id) h⟩, fun id b h => by simp [Tr.get_nil] at h, Nat.le_refl _⟩
  have live : ∀ {φ : Nat -> Nat × Nat} {A S : Nat -> Prop} {h : Tr AB} {w : World}, Has P φ A S h w -> ∀ id b, h.get id = some b -> (φ id).1 < w.heap.size := by
   intro φ A S h w hh id b hid
   have := hh id b hid
   cases b with
   | cells cs e g => obtain ⟨C, fz, q, _⟩ := this; exact (Array.getElem?_eq_some_iff.1 q).1
   | map es => obtain ⟨E, c, q, _⟩ := this; exact (Array.getElem?_eq_some_iff.1 q).1
   | siter s pos => obtain ⟨t, _, q⟩ := this; exact (Array.getElem?_eq_some_iff.1 q).1
  have free : ∀ {f : Nat} {args : List AV} {fn : Func} {c : Code} {r1 : AV} {σ1 : AS} {r' : AV}, T.fn f = some fn -> fn.body = some c -> AV.idfree.idfrees args = true -> eY T (aE T k) k fn c (AV.norm.norms args) ⟨.nil, 0⟩ = some (r1, σ1) -> fz T σ1.h (k + 1) r1 = some r' ->
    ∀ {φ : Nat -> Nat × Nat} {A S : Nat -> Prop} {w : World} {vals : List Value}, (∀ b, S b -> b < w.heap.size) -> GL T φ A S w -> VRs φ A S w args vals -> (callFunc f ⟨vals⟩).run P w = .ok (.enter f ⟨vals⟩) w /\
     Calls P f ⟨vals⟩ w fun e w' => ∃ u, e = .returned u /\ Below w.heap.size w w' /\ VR φ A (fun b => S b ∨ (w.heap.size <= b /\ b < w'.heap.size)) w' r' u := by
   intro f args fn c r1 σ1 r' hfn hbody hfree hb hfz φ A S w vals hSs hg ha
   obtain ⟨h1, h2⟩ := fV hT ih hfn hbody hb (empty w φ S hSs) (fun id h => h.elim) (hg.any hT (fun _ h => h) φ _) (ha.idfree hfree φ _).norm
   refine ⟨h1, h2.mono fun e w' ⟨u, φ', A', S', q1, q2, q3, q4, q5⟩ => ⟨u, q1, ⟨q2.same.os, q2.same.tape, q2.same.output, q2.size, q2.low⟩, ?_⟩⟩
   refine zm q3.blk (fun b hb => ?_) φ A (k + 1) r1 r' u (fun id b _ hid => ?_) q5 hfz
   ·rcases q2.lowS b hb with q | q
    ·exact .inl q
    ·exact .inr ⟨q, (q3.st b hb).1⟩
   ·exact .inr (q3.lo id (q3.dom _ _ hid))
  constructor
  ·intro f args σ r σ' hop hv
   unfold aE at hv
   split at hv
   ·rename_i g hx
    split at hv
    ·rename_i r' hr
     injection hv with hv; simp only [Prod.mk.injEq] at hv; obtain ⟨rfl, rfl⟩ := hv
     refine ⟨rfl, fun φ A S w vals hh hSs hg ha => ?_⟩
     obtain ⟨u, h1, h2⟩ := (hT.prim f g args r' hx hr).2 φ A S w vals ha
     exact .inl ⟨by rw [hx]; rfl, u, h1, h2⟩
    ·cases hv
   rename_i hprim
   have hpn : (T.prim f).isSome = false := by rw [hprim]; rfl
   split at hv
   ·rename_i r' hxr
    obtain ⟨g, hx, hr⟩ := uc hxr
    injection hv with hv; simp only [Prod.mk.injEq] at hv; obtain ⟨rfl, rfl⟩ := hv
    refine ⟨rfl, fun φ A S w vals hh hSs hg ha => ?_⟩
    obtain ⟨h1, h2⟩ := hT.ext f g args r' hx hr φ A S w vals hg ha
    exact .inr ⟨hpn, h1, h2.mono fun e w' ⟨u, q1, q2, q3⟩ => ⟨u, q1, q2, q3 _ _ _ _⟩⟩
   ·split at hv
    ·rename_i fn hfn
     split at hv
     ·rename_i c hbody
      split at hv
      ·rename_i ho
       unfold gM at hop
       rw [ho] at hop
       simp only [Bool.not_true, Bool.false_or, Bool.and_eq_true] at hop
       obtain ⟨hm3, hfree⟩ := hop
       rw [Nat.eq_of_beq_eq_true hm3] at hv
       simp only [hfree, Nat.beq_refl, Bool.and_self] at hv
       split at hv
       ·rename_i r1 σ1 hb
        split at hv
        ·rename_i r' hfz
         injection hv with hv; simp only [Prod.mk.injEq] at hv; obtain ⟨rfl, rfl⟩ := hv
         refine ⟨rfl, fun φ A S w vals hh hSs hg ha => ?_⟩
         exact .inr ⟨hpn, free hfn hbody hfree hb hfz hSs hg ha⟩
        ·cases hv
       ·cases hv
      ·split at hv
       ·rename_i hfree
        split at hv
        ·rename_i r1 σ1 hb
         split at hv
         ·rename_i r' hfz
          injection hv with hv; simp only [Prod.mk.injEq] at hv; obtain ⟨rfl, rfl⟩ := hv
          refine ⟨rfl, fun φ A S w vals hh hSs hg ha => ?_⟩
          exact .inr ⟨hpn, free hfn hbody hfree hb hfz hSs hg ha⟩
         ·cases hv
        ·cases hv
       ·split at hv
        ·rename_i args' hth
         split at hv
         ·rename_i r1 σ1 hb
          split at hv
          ·rename_i r' hfz
           split at hv
           ·rename_i hflat
            injection hv with hv; simp only [Prod.mk.injEq] at hv; obtain ⟨rfl, rfl⟩ := hv
            refine ⟨rfl, fun φ A S w vals hh hSs hg ha => ?_⟩
            have hth' := fzs_ok (S' := fun b => b < w.heap.size) hh hSs φ (fun _ => False) (k + 1) args args' vals (fun id b _ hb => live hh id b hb) ha hth
            obtain ⟨h1, h2⟩ := fV hT ih hfn hbody hb (empty w φ (fun b => b < w.heap.size) (fun _ h => h)) (fun id h => h.elim) (hg.any hT hSs φ _) hth'
            refine .inr ⟨hpn, h1, h2.mono fun e w' ⟨u, φ', A', S', q1, q2, q3, q4, q5⟩ => ⟨u, q1, ⟨q2.same.os, q2.same.tape, q2.same.output, q2.size, q2.low⟩, ?_⟩⟩
            have := zm (S' := fun b => b < w'.heap.size) q3.blk (fun b hb => (q3.st b hb).1) φ A (k + 1) r1 r' u (fun id b _ hid => (q3.lo id (q3.dom _ _ hid)).2) q5 hfz
            exact this.flat hflat _ _ _ _
           ·cases hv
          ·cases hv
         ·cases hv
        ·cases hv
     ·cases hv
    ·cases hv
  ·intro f args σ r σ' hop hv B φ A S w vals inv hbd hg ha
   unfold aE at hv
   split at hv
   ·rename_i g hx
    split at hv
    ·rename_i r' hr
     have := (hT.prim f g args r' hx hr).1
     rw [hop] at this; cases this
    ·cases hv
   split at hv
   ·rename_i r' hxr
    obtain ⟨g, hx, hr⟩ := uc hxr
    injection hv with hv; simp only [Prod.mk.injEq] at hv; obtain ⟨rfl, rfl⟩ := hv
    obtain ⟨h1, h2⟩ := hT.ext f g args r' hx hr φ A S w vals hg ha
    exact ⟨h1, h2.mono fun e w' ⟨u, q1, q2, q3⟩ => ⟨u, φ, A, tT S w w', q1, Step.below inv q2, inv.below q2, hbd, q3 _ _ _ _⟩⟩
   ·split at hv
    ·rename_i fn hfn
     split at hv
     ·rename_i c hbody
      split at hv
      ·split at hv
       ·exact fV hT ih hfn hbody hv inv hbd hg ha
       ·split at hv
        ·rename_i hfree
         split at hv
         ·rename_i r1 σ1 hb
          have hSs : ∀ b, S b -> b < w.heap.size := fun b hb => (inv.st b hb).1
          obtain ⟨h1, h2⟩ := fV hT ih hfn hbody hb (empty w φ S hSs) (fun id h => h.elim) (hg.any hT (fun _ h => h) φ _) (ha.idfree hfree φ _).norm
          refine ⟨h1, h2.mono fun e w' ⟨u, φ', A', S', q1, q2, q3, q4, q5⟩ => ?_⟩
          have hbel : Below w.heap.size w w' := ⟨q2.same.os, q2.same.tape, q2.same.output, q2.size, q2.low⟩
          exact AM inv hbd hbel q1 (fun b hb => (q2.lowS b hb).imp id fun q => ⟨q, (q3.st b hb).1⟩) q3 q5 hv
         ·cases hv
        ·cases hv
       ·split at hv
        ·rename_i hm3
         simp only [Bool.and_eq_true] at hm3
         split at hv
         ·rename_i r1 σ1 hb
          split at hv
          ·rename_i r' hfz
           injection hv with hv; simp only [Prod.mk.injEq] at hv; obtain ⟨rfl, rfl⟩ := hv
           obtain ⟨h1, h2⟩ := free hfn hbody hm3.2 hb hfz (fun b hb => (inv.st b hb).1) hg ha
           exact ⟨h1, h2.mono fun e w' ⟨u, q1, q2, q3⟩ => ⟨u, φ, A, tT S w w', q1, Step.below inv q2, inv.below q2, hbd, q3⟩⟩
          ·cases hv
         ·cases hv
        ·split at hv
         ·rename_i args' hth
          split at hv
          ·rename_i r1 σ1 hb
           split at hv
           ·rename_i r' hfz
            injection hv with hv; simp only [Prod.mk.injEq] at hv; obtain ⟨rfl, rfl⟩ := hv
            have hSs : ∀ b, S b -> b < w.heap.size := fun b hb => (inv.st b hb).1
            obtain ⟨D, hD⟩ : ∃ D : Nat -> Prop, D = fun b => S b ∨ ∃ id b', id ∈ args.flatMap (rch T σ.h (k + 1)) /\ σ.h.get id = some b' /\ (φ id).1 = b := ⟨_, rfl⟩
            have hDs : ∀ b, D b -> b < w.heap.size := by
             intro b hb
             rw [hD] at hb
             rcases hb with hb | ⟨id, b', _, hid, rfl⟩
             ·exact hSs b hb
             ·exact live inv.blk id b' hid
            have hSD : ∀ b, S b -> D b := fun b hb => by rw [hD]; exact .inl hb
            have hth' := fzs_ok (S' := D) inv.blk hSD φ (fun _ => False) (k + 1) args args' vals (fun id b hi hb => by rw [hD]; exact .inr ⟨id, b, hi, hb, rfl⟩) ha hth
            obtain ⟨h1, h2⟩ := fV hT ih hfn hbody hb (empty w φ D hDs) (fun id h => h.elim) (hg.any hT hSD φ _) hth'
            refine ⟨h1, h2.mono fun e w' ⟨u, φ', A', S', q1, q2, q3, q4, q5⟩ => ?_⟩
            have hbel : Below w.heap.size w w' := ⟨q2.same.os, q2.same.tape, q2.same.output, q2.size, q2.low⟩
            have hs := Step.below inv hbel
            have hsub : ∀ id b, (mB σ.h (args.flatMap (rch T σ.h (k + 1)))).get id = some b -> σ.h.get id = some b := fun id b hb => by
             rw [gD] at hb
             split at hb
             ·cases hb
             ·exact hb
            have inv2 := (inv.below hbel).sub hsub
            have hW : ∀ b, tT S w w' b -> tT D w w' b := fun b hb => hb.imp (hSD b) (fun q => q)
            refine ⟨u, φ, A, tT D w w', q1, hs.widen hW ?_, inv2.widen ?_ hW, hbd, ?_⟩
            ·intro b hb
             rcases hb with hb | hb
             ·rw [hD] at hb
              rcases hb with hb | ⟨id, b', _, hid, rfl⟩
              ·exact .inl hb
              ·exact .inr (inv.lo id (inv.dom _ _ hid)).1
             ·exact .inr (Nat.le_trans inv.hB hb.1)
            ·intro b hb
             rcases hb with hb | ⟨hb1, hb2⟩
             ·refine ⟨Nat.lt_of_lt_of_le (hDs b hb) hbel.size, fun id hid => ?_⟩
              rw [gD] at hid
              split at hid
              ·exact absurd rfl hid
              ·rename_i hni
               rw [hD] at hb
               rcases hb with hb | ⟨id', b', hi', hid', rfl⟩
               ·exact (inv.st b hb).2 id hid
               ·intro e
                have := inv.inj id id' hid (by rw [hid']; simp) e
                subst this
                exact hni hi'
             ·refine ⟨hb2, fun id hid => ?_⟩
              rw [gD] at hid
              split at hid
              ·exact absurd rfl hid
              ·cases hq : σ.h.get id with
               | none => exact absurd hq hid
               | some x => have := live inv.blk id x hq; omega
            ·refine zm q3.blk (fun b hb => ?_) φ A (k + 1) r1 _ u (fun id b _ hid => ?_) q5 hfz
             ·rcases q2.lowS b hb with q | q
              ·exact .inl q
              ·exact .inr ⟨q, (q3.st b hb).1⟩
             ·exact .inr (q3.lo id (q3.dom _ _ hid))
           ·cases hv
          ·cases hv
         ·cases hv
      ·rename_i ho; rw [hop] at ho; cases ho
     ·cases hv
    ·cases hv
  ·intro f args n r σ' hop hmode hv B φ A S H w vals inv hn hg ha
   unfold aE at hv
   split at hv
   ·rename_i g hx
    split at hv
    ·rename_i r' hr
     have := (hT.prim f g args r' hx hr).1
     rw [hop] at this; cases this
    ·cases hv
   split at hv
   ·rename_i r' hxr
    obtain ⟨g, hx, hr⟩ := uc hxr
    injection hv with hv; simp only [Prod.mk.injEq] at hv; obtain ⟨rfl, rfl⟩ := hv
    obtain ⟨h1, h2⟩ := hT.ext f g args r' hx hr φ A S w vals hg ha
    refine ⟨h1, h2.mono fun e w' ⟨u, q1, q2, q3⟩ => ⟨u, φ, A, tT S w w', q1, Step.below inv q2, (inv.below q2).ext (fun j => ?_), fun id h => .inr h, q3 _ _ _ _⟩⟩
    split
    ·rename_i e; subst e
     cases hq : H j with
     | none => rw [Tr.get_nil]
     | some b => exact absurd (inv.dom _ _ hq) hn
    ·rfl
   ·split at hv
    ·rename_i fn hfn
     split at hv
     ·rename_i c hbody
      rw [hop, hmode] at hv
      simp only at hv
      split at hv
      ·rename_i hfree
       split at hv
       ·rename_i r1 σ1 hb
        have hSs : ∀ b, S b -> b < w.heap.size := fun b hb => (inv.st b hb).1
        obtain ⟨h1, h2⟩ := fV hT ih hfn hbody hb (empty w φ S hSs) (fun id h => h.elim) (hg.any hT (fun _ h => h) φ _) (ha.idfree hfree φ _).norm
        refine ⟨h1, h2.mono fun e w' ⟨u, φ', A', S', q1, q2, q3, q4, q5⟩ => ?_⟩
        have hbel : Below w.heap.size w w' := ⟨q2.same.os, q2.same.tape, q2.same.output, q2.size, q2.low⟩
        exact xH inv hn hbel q1 (fun b hb => (q2.lowS b hb).imp id fun q => ⟨q, (q3.st b hb).1⟩) q3 q5 hv
       ·cases hv
      ·cases hv
     ·cases hv
    ·cases hv
theorem uf (hT : TabOK P T) {k f : Nat} {args : List AV} {r : AV} (hop : T.opened f = false) (hpr : (T.prim f).isSome = false) (hv : ∃ σ', aE T k f args ⟨.nil, 0⟩ = some (r, σ')) {vals : List Value} (hSs : ∀ b, S b -> b < w.heap.size) (hg : GL T φ A S w) (ha : VRs φ A S w args vals) :
  Calls P f ⟨vals⟩ w fun e w' => ∃ u, e = .returned u /\ Below w.heap.size w w' /\ VR φ A (tT S w w') w' r u := by
 obtain ⟨σ', hv⟩ := hv
 obtain ⟨_, h⟩ := (lp hT k).pure f args ⟨.nil, 0⟩ r σ' (by unfold gM; rw [hop]; rfl) hv
 rcases h φ A S w vals (fun id b hb => by simp [Tr.get_nil] at hb) hSs hg ha with ⟨q, _⟩ | ⟨_, _, q⟩
 ·rw [hpr] at q; cases q
 ·exact q
end
def Tr.mk' {α : Type} : Nat -> (Nat -> Option α) -> Tr α
 | 0, _ => .nil
 | d + 1, f => match f 0 with
  | none => .nil
  | some x => .node (some x) (Tr.mk' d fun k => f (2 * k + 1)) (Tr.mk' d fun k => f (2 * k + 2))
theorem Tr.get_mk' {α : Type} {x : α} : ∀ (d : Nat) (f : Nat -> Option α) (k : Nat), (Tr.mk' d f).get k = some x -> f k = some x
 | 0, f, k, h => by cases h
 | d + 1, f, k, h => by
  unfold Tr.mk' at h
  split at h
  ·cases h
  rename_i y hy
  rw [Tr.get_node] at h
  split at h
  ·rename_i e; rw [e, hy]; exact h
  ·split at h
   ·have := Tr.get_mk' d _ _ h
    rwa [show 2 * ((k - 1) / 2) + 1 = k by omega] at this
   ·have := Tr.get_mk' d _ _ h
    rwa [show 2 * ((k - 1) / 2) + 2 = k by omega] at this
abbrev L {α : Type} : Tr α := .nil
abbrev M {α : Type} (x : α) (l r : Tr α) : Tr α := .node (some x) l r
abbrev E {α : Type} (x : α) : Tr α := .node (some x) .nil .nil
def tyOf (infos : Tr TypeInfo) (t : Nat) : Option TypeDesc :=
 match infos.get t with
 | some i => match i.desc with
  | .named _ u => match infos.get u with
   | some j => some j.desc
   | none => none
  | d => some d
 | none => none
def zrOf (infos : Tr TypeInfo) (t : Nat) : Option AV :=
 match infos.get t with
 | some i => match i.zero with
  | some v => match Nat.beq v.cells.size i.size with
   | true => om v
   | false => none
  | none => none
 | none => none
def iP : List AV -> Option AV
 | [a] => some a
 | _ => none
def kW : List AV -> Option AV
 | [.s a, .s b] => some (.i .i64 (Lib.compareBytes a b))
 | _ => none
def ow (infos : Tr TypeInfo) (fns : Tr Func) (kQ opened oi pe : List Nat) (prim : Nat -> Option (List AV -> Option AV)) (eqs : Nat -> Bool) (gl : Nat -> Option (List AV)) (ext : Nat -> Option (List AV -> Option AV)) : Tab where
 ty := tyOf infos
 sz := fun t => match infos.get t with | some i => some i.size | none => none
 by_ := fun t => match infos.get t with | some i => some i.bytes | none => none
 zr := zrOf infos
 eq := eqs
 fn := fun f => match aY f kQ with | true => none | false => fns.get f
 gl := gl
 opened := fun f => aY f opened
 mode := fun f => match aY f oi with | true => 1 | false => match aY f pe with | true => (match aY (f + 1000000) pe with | true => 3 | false => 2) | false => 0
 ext := ext
 prim := prim
 ice := fun t => aY (t + 2000000) pe
def fnOK (fn : Func) : Bool := !(fn.name == "runtime.NumGoroutine") && (match fn.body with | some c => eK c | none => true)
def sT : List Func -> Bool
 | [] => true
 | f :: fs => fnOK f && sT fs
theorem vY : ∀ {fs : List Func} {f : Nat} {fn : Func}, sT fs = true -> fs[f]? = some fn -> fnOK fn = true
 | [], f, fn, _, h => by simp at h
 | g :: fs, 0, fn, h, hf => by
  simp at hf; subst hf
  simp only [sT, Bool.and_eq_true] at h; exact h.1
 | g :: fs, f + 1, fn, h, hf => by
  simp only [sT, Bool.and_eq_true] at h
  exact vY h.2 (by simpa using hf)
def kO (P : Program) (gl : Nat -> Option (List AV)) (f : Nat) (g : List AV -> Option AV) : Prop :=
 ∀ args r, g args = some r -> ∀ (φ : Nat -> Nat × Nat) (A S : Nat -> Prop) (w : World) (vals : List Value), (∀ g cs, gl g = some cs -> VR φ A S w (.iptr cs) (.pointer (some ⟨g, 0, none⟩)) /\ w.cell? ⟨g, cs.length, none⟩ = none) -> VRs φ A S w args vals ->
  (callFunc f ⟨vals⟩).run P w = .ok (.enter f ⟨vals⟩) w /\ Calls P f ⟨vals⟩ w fun e w' => ∃ u, e = .returned u /\ Below w.heap.size w w' /\ ∀ (φ : Nat -> Nat × Nat) (A S : Nat -> Prop) (w : World), VR φ A S w r u
def oo (P : Program) (f : Nat) (g : List AV -> Option AV) : Prop :=
 ∀ args r, g args = some r -> ∀ (φ : Nat -> Nat × Nat) (A S : Nat -> Prop) (w : World) (vals : List Value), VRs φ A S w args vals -> ∃ u, (callFunc f ⟨vals⟩).run P w = .ok (.value u) w /\ VR φ A S w r u
section
variable {P : Program} {f : Nat} {fn : Func}
theorem two_args {φ : Nat -> Nat × Nat} {A S : Nat -> Prop} {w : World} {a b : AV} {vals : List Value} (h : VRs φ A S w [a, b] vals) : ∃ x y, vals = [x, y] /\ VR φ A S w a x /\ VR φ A S w b y := by
 have hl := h.1
 match vals, hl, h with
 | [x, y], _, h => exact ⟨x, y, rfl, h.2 0 a x rfl rfl, h.2 1 b y rfl rfl⟩
theorem uX (hf : P.funcs[f]? = some fn) (hname : (fn.name == "runtime.NumGoroutine") = false) (hb : fn.body.isNone = true) (hn : Extern.findNext fn = none) (he : Extern.find fn = some Extern.AbiNoEscape.same) : oo P f iP := by
 intro args r hr φ A S w vals hv
 unfold iP at hr
 split at hr
 ·rename_i a
  injection hr with hr; subst hr
  have hl := hv.1
  match vals, hl, hv with
  | [x], _, hv =>
   refine ⟨x, ?_, hv.2 0 a x rfl rfl⟩
   rw [run_callFunc_extern hf hname hb hn he]
   rfl
 ·cases hr
theorem wV (hf : P.funcs[f]? = some fn) (hname : (fn.name == "runtime.NumGoroutine") = false) (hb : fn.body.isNone = true) (hn : Extern.findNext fn = none) (he : Extern.find fn = some Extern.BytealgCompare.compare) : oo P f kW := by
 intro args r hr φ A S w vals hv
 unfold kW at hr
 split at hr
 ·rename_i a b
  injection hr with hr; subst hr
  obtain ⟨x, y, rfl, hx, hy⟩ := two_args hv
  cases hy with | s _ t' ht' =>
  cases hx with | s _ t ht =>
  refine ⟨.int .i64 _, ?_, .i _ _⟩
  ·rw [run_callFunc_extern hf hname hb hn he]
   have := Lib.run_compareString (P := P) t t' w
   rw [<- ht, <- ht']
   show ((Extern.BytealgCompare.compare #[.string t, .string t']).run P w).andThen _ = _
   rw [this]; rfl
 ·cases hr
end
theorem tabOK {P : Program} {infos : List TypeInfo} {fns : List Func} {D D' : Nat} {it : Tr TypeInfo} {ft : Tr Func} {kQ opened oi pe : List Nat} {prim : Nat -> Option (List AV -> Option AV)} {eqs : Nat -> Bool} {gl : Nat -> Option (List AV)} {ext : Nat -> Option (List AV -> Option AV)}
  (ht : P.types = ⟨infos⟩) (hf : P.funcs = ⟨fns⟩) (hi : it = Tr.mk' D (infos[·]?)) (hn : ft = Tr.mk' D' (fns[·]?)) (hok : sT fns = true) (hm : P.follows .mixedOrders = true)
  (hq : ∀ t, eqs t = true -> xA P t = true)
  (hp : ∀ f g, prim f = some g -> aY f opened = false /\ oo P f g) (hgl : ∀ g cs, gl g = some cs -> AV.idfree.idfrees cs = true)
  (hx : ∀ f g, ext f = some g -> kO P gl f g) : TabOK P (ow it ft kQ opened oi pe prim eqs gl ext) := by
 have get : ∀ t i, it.get t = some i -> P.info? t = some i := by
  intro t i h
  subst hi
  have h1 : infos[t]? = some i := Tr.get_mk' _ _ _ h
  have h3 : P.types[t]? = some i := by rw [ht]; simpa using h1
  have h4 : t < P.types.size := (Array.getElem?_eq_some_iff.1 h3).1
  unfold Tables.info?
  rw [if_pos h4]; exact h3
 have getf : ∀ t i, ft.get t = some i -> fns[t]? = some i := by
  intro t i h
  subst hn
  exact Tr.get_mk' _ _ _ h
 constructor
 ·intro t d h
  unfold ow tyOf at h
  simp only at h
  unfold Program.underlying
  split at h
  ·rename_i i h1
   rw [get _ _ h1]
   split at h
   ·rename_i n u hd
    split at h
    ·rename_i j h2
     injection h with h; subst h
     obtain ⟨d, s, b, z, m⟩ := i
     simp only at hd; subst hd
     simp only [get _ _ h2, Option.map_some]
    ·cases h
   ·rename_i d' hd
    injection h with h; subst h
    obtain ⟨d, s, b, z, m⟩ := i
    cases d <;> first | rfl | exact absurd rfl (hd _ _)
  ·cases h
 ·intro t n h
  unfold ow at h
  simp only at h
  split at h
  ·rename_i i h1
   injection h with h; exact ⟨i, get _ _ h1, h⟩
  ·cases h
 ·intro t n h
  unfold ow at h
  simp only at h
  split at h
  ·rename_i i h1
   injection h with h; exact ⟨i, get _ _ h1, h⟩
  ·cases h
 ·intro t z h
  unfold ow zrOf at h
  simp only at h
  split at h
  ·rename_i i h1
   split at h
   ·rename_i v hv
    split at h
    ·rename_i hs
     exact ⟨i, v, get _ _ h1, hv, h, Nat.eq_of_beq_eq_true hs⟩
    ·cases h
   ·cases h
  ·cases h
 ·exact hq
 ·intro f fn h
  unfold ow at h
  simp only at h
  split at h
  ·cases h
  ·have h1 := getf _ _ h
   have h2 := vY hok h1
   unfold fnOK at h2
   simp only [Bool.and_eq_true, Bool.not_eq_true'] at h2
   refine ⟨?_, h2.1, fun c hc => ?_⟩
   ·rw [hf]; simpa using h1
   ·have := h2.2
    rw [hc] at this; exact this
 ·exact hgl
 ·intro f g args r h hr
  exact fun φ A S w vals hG ha => hx f g h args r hr φ A S w vals hG ha
 ·intro f g args r h hr
  obtain ⟨h1, h2⟩ := hp f g h
  exact ⟨h1, h2 args r hr⟩
 ·exact hm
theorem eqs_ok (P : Program) (l : List Nat) (h : l.all (xA P) = true) : ∀ t, aY t l = true -> xA P t = true := fun t ht => by
 induction l with
 | nil => cases ht
 | cons a l ih =>
  simp only [List.all_cons, Bool.and_eq_true] at h
  simp only [aY, Bool.or_eq_true] at ht
  rcases ht with ht | ht
  ·rw [Nat.eq_of_beq_eq_true ht]; exact h.1
  ·exact ih h.2 ht
theorem yk {j : Nat} : ∀ {l : List Nat}, aY j l = true -> j ∈ l
 | [], h => by cases h
 | x :: l, h => by
  simp only [aY, Bool.or_eq_true] at h
  rcases h with h | h
  ·exact List.mem_cons.2 (.inl (Nat.eq_of_beq_eq_true h))
  ·exact List.mem_cons.2 (.inr (yk h))
section
variable {P : Program} {T : Tab} {B nt : Nat} {φ : Nat -> Nat × Nat} {A S : Nat -> Prop} {w : World}
def eR : List AV -> Option AV
 | [.lst []] => some (.nilz false)
 | [.nilz _] => some (.nilz false)
 | _ => none
def lD : AV -> Bool
 | .nilz _ => true
 | .sl _ _ len (some c) => Nat.beq len 0 && Nat.beq c 0
 | _ => false
theorem zR {v : AV} {u : Value} (hz : lD v = true) (h : VR φ A S w v u) (φ' : Nat -> Nat × Nat) (A' S' : Nat -> Prop) (w' : World) : VR φ' A' S' w' (.nilz false) u := by
 cases h with
 | nilz t p hp => exact .nilz _ p (fun h => by cases h)
 | sl id off len cap c q1 q2 q3 q4 =>
  cases cap with
  | none => cases hz
  | some x =>
   simp only [lD, Bool.and_eq_true] at hz
   have h1 := Nat.eq_of_beq_eq_true hz.1
   have h2 := Nat.eq_of_beq_eq_true hz.2
   have h3 := q3 x rfl
   subst h1; subst h2; subst h3
   exact .nilz _ _ (fun h => by cases h)
 | _ => cases hz
theorem body_fin (hT : TabOK P T) {fn : Func} {R : Ending -> World -> Prop} {tm : Tr AV} {σ1 : AS} {vs : List AV} (hr : gq T tm σ1.h fn.results.toList = some vs)
  (K : ∀ u φ' A' S' w', Step B φ A S w φ' A' S' w' -> VR φ' A' S' w' (fD vs) u -> R (.returned u) w') : Leaves P B nt φ A S w .ret tm σ1 (bodyPost P fn R) := by
 intro a' φ' A' S' w' g1 g2 g3 g4
 obtain ⟨us, k1, k2⟩ := mg hT g2.blk g4 _ _ hr
 have hrun : (results fn a'.tmps).run P w' = .ok (kX us) w' /\ VR φ' A' S' w' (fD vs) (kX us) := by
  refine ⟨?_, ?_⟩
  ·rw [qv]
   simp only [Sem.run_bind, Array.mapM_eq_mapM_toList, Sem.run_map]
   rw [k2]
   simp only [Result.andThen_ok, Sem.run_pure]
   match us with
   | [] => rfl
   | [u] => rfl
   | u1 :: u2 :: us => simp; rfl
  ·have hl := k1.1
   match us, vs, hl, k1 with
   | [], [], _, k1 => exact .tup _ _ k1.1 k1.2
   | [u], [v], _, k1 => exact k1.2 0 v u rfl rfl
   | u1 :: u2 :: us, v1 :: v2 :: vs, _, k1 => exact .tup _ _ k1.1 k1.2
 have fin : a'.defers = [] /\ ∃ v, (results fn a'.tmps).run P w' = .ok v w' /\ R (.returned v) w' := ⟨g4.defers, _, hrun.1, K _ _ _ _ _ g1 hrun.2⟩
 exact fin
theorem nil_eq {t : Nat} {e : TypeId} (hu : P.underlying t = some (.slice e)) (p : Option Addr) (c : Nat) (w' : World) : (Op.equal t (.slice p 0 c) (.slice none 0 0)).run P w' = .ok p.isNone w' := by
 unfold Op.equal Op.maxDepth
 unfold Op.equalIn
 simp only [Sem.run_bind, aq hu, Result.andThen_ok]
 cases p <;> rfl
theorem AL {gl : Nat -> Option (List AV)} (hT : TabOK P T) (hgl : ∀ g, T.gl g = none) (hC : ∀ k, CallOK P T (aE T k)) {f t e i : Nat} {fn : Func} {R0 X rest : Code} {o0 o1 : Oper} {tm1 tm3 tm4 : Tr AV} {σ3 σ4 : AS} {r3 r4 : AV}
  (hf : T.fn f = some fn) (hb : fn.body = some (.seq R0 (.seq (.seq (.region i #[o0, o1] false) (.cond (.tmp 4) X .skip)) rest)))
  (q0 : o0.op = .move (.tmp 0)) (q1 : o0.dst = some 3) (q2 : o0.guard = none) (q3 : o1.op = .binOp .eql t (.tmp 3) (.const (.slice none 0 0)) t) (q4 : o1.dst = some 4) (q5 : o1.guard = none)
  (ht : T.ty t = some (.slice e)) (hn : fn.ntmps = 8)
  (e0 : aU T (aE T 5) 8 5 R0 (lC [.lst []] 0 .nil) ⟨.nil, 0⟩ = some (.norm, tm1, ⟨.nil, 0⟩)) (et : tm1.get 0 = some (.lst []))
  (e3 : aU T (aE T 5) 8 5 rest ((tm1.put 3 (some (.lst []))).put 4 (some (.b false))) ⟨.nil, 0⟩ = some (.ret, tm3, σ3)) (er3 : gq T tm3 σ3.h fn.results.toList = some [r3]) (hz3 : lD r3 = true)
  (e4 : aU T (aE T 5) 8 5 X ((tm1.put 3 (some (.lst []))).put 4 (some (.b true))) ⟨.nil, 0⟩ = some (.ret, tm4, σ4)) (er4 : gq T tm4 σ4.h fn.results.toList = some [r4]) (hz4 : lD r4 = true) :
  kO P gl f eR := by
 intro args r hr φ A S w vals hg ha
 obtain ⟨v, rfl, rfl, p, c, rfl⟩ : ∃ v, vals = [v] /\ r = .nilz false /\ ∃ p c, v = .slice p 0 c := by
  unfold eR at hr
  have hl := ha.1
  split at hr
  ·injection hr with hr
   match vals, hl, ha with
   | [v], _, ha =>
    refine ⟨v, rfl, hr.symm, ?_⟩
    have h := ha.2 0 _ v rfl rfl
    cases h with
    | lst0 p c => exact ⟨p, c, rfl⟩
    | lst _ vs b o z c h1 h2 h3 h4 h5 h6 h7 => exact ⟨_, _, rfl⟩
  ·injection hr with hr
   match vals, hl, ha with
   | [v], _, ha =>
    refine ⟨v, rfl, hr.symm, ?_⟩
    have h := ha.2 0 _ v rfl rfl
    cases h with
    | nilz _ p hp => exact ⟨p, _, rfl⟩
  ·cases hr
 obtain ⟨h1, h2, h3⟩ := hT.fn _ _ hf
 have hok := h3 _ hb
 simp only [eK, Bool.and_eq_true] at hok
 have ha' : VRs φ (fun _ => False) (fun b => b < w.heap.size) w [.lst []] [.slice p 0 c] := ⟨rfl, fun j x y hx hy => by
  match j, hx, hy with
  | 0, hx, hy => injection hx with hx; injection hy with hy; subst hx; subst hy; exact .lst0 p c⟩
 refine ⟨?_, ?_⟩
 ·unfold callFunc
  simp only [Sem.run_bind, run_program, Result.andThen_ok, h1]
  rw [if_neg (by rw [h2]; simp), if_neg (by rw [hb]; simp)]
  rfl
 ·refine calls_of_wp h1 hb ?_
  have inv : Inv P w.heap.size φ (fun _ => False) (fun b => b < w.heap.size) (Tr.nil : Tr AB).get w :=
   ⟨fun id b h => by simp [Tr.get_nil] at h, fun id h => h.elim, fun id id' h => absurd (Tr.get_nil id) h, fun b hb => ⟨hb, fun id h => absurd (Tr.get_nil id) h⟩, fun id b h => by simp [Tr.get_nil] at h, Nat.le_refl _⟩
  have hG : GL T φ (fun _ => False) (fun b => b < w.heap.size) w := fun g cs hq => by rw [hgl g] at hq; cases hq
  have htm := zO ha' fn.ntmps
  rw [hn] at htm |-
  have htm' : TR φ (fun _ => False) (fun b => b < w.heap.size) w 8 (lC [.lst []] 0 .nil).get { tmps := (⟨[.slice p 0 c]⟩ : Array Value) ++ Array.replicate (8 - (⟨[.slice p 0 c]⟩ : Array Value).size) undef, defers := [] } := htm
  refine wp_seq ?_
  refine lm (nt := 8) hT (hC 5) 5 R0 hok.1 ⟨.nil, 0⟩ ⟨.nil, 0⟩ _ tm1 .norm φ (fun _ => False) (fun b => b < w.heap.size) w _ _ inv (fun id h => h.elim) hG htm' e0 (fun a1 φ1 A1 S1 w1 g1 g2 g3 g4 => ?_)
  refine wp_seq ?_
  refine wp_seq ?_
  refine wp_region ?_
  have hv0 := g4.val 0 _ et
  have ev0 : a1.eval (.tmp 0) = a1.tmps.getD 0 undef := rfl
  obtain ⟨p1, c1, hp1⟩ : ∃ p1 c1, a1.eval (.tmp 0) = .slice p1 0 c1 := by
   rw [ev0]
   generalize a1.tmps.getD 0 undef = x at hv0
   cases hv0 with
   | lst0 p c => exact ⟨p, c, rfl⟩
   | lst _ vs b o z c k1 k2 k3 k4 k5 k6 k7 => exact ⟨_, _, rfl⟩
  have hr0 : (execOp a1.eval o0).run P w1 = .ok (.value (.slice p1 0 c1)) w1 := by
   unfold execOp; rw [q0, <- hp1]; rfl
  have t2 := g4.put (d := 3) (by omega) (VR.lst0 (φ := φ1) (A := A1) (S := S1) (w := w1) p1 c1)
  obtain ⟨a2, ha2⟩ : ∃ a2, a2 = a1.put (some 3) (.slice p1 0 c1) := ⟨_, rfl⟩
  rw [<- ha2] at t2
  have ev3 : a2.eval (.tmp 3) = .slice p1 0 c1 := by
   have := g4.size
   rw [ha2]
   show (a1.tmps.setIfInBounds 3 _).getD 3 undef = _
   simp [Array.getD, this]
  have hr1 : (execOp a2.eval o1).run P w1 = .ok (.value (.bool p1.isNone)) w1 := by
   unfold execOp; rw [q3]
   refine bW (s := do eqGuard .eql t (.tmp 3) (.const (.slice none 0 0)) (a2.eval (.tmp 3)) (.slice none 0 0); Go.binOp .eql t (a2.eval (.tmp 3)) (.slice none 0 0)) ?_
   rw [ev3, Sem.run_bind, qT rfl rfl, Result.andThen_ok]
   exact uk rfl rfl (nil_eq (hT.ty _ _ ht) p1 c1 w1)
  have t3 := t2.put (d := 4) (by omega) (VR.b (φ := φ1) (A := A1) (S := S1) (w := w1) p1.isNone)
  have t4 : TR φ1 A1 S1 w1 8 ((tm1.put 3 (some (.lst []))).put 4 (some (.b p1.isNone))).get (a2.put (some 4) (.bool p1.isNone)) := ⟨t3.defers, t3.size, fun j x hx => t3.val j x (by
   rw [Tr.get_put] at hx
   split at hx
   ·rename_i e; rw [if_pos e]; exact hx
   ·rename_i e
    rw [if_neg e]
    rw [Tr.get_put] at hx
    exact hx)⟩
  have hlist : List.range (#[o0, o1] : Array Oper).size = [0, 1] := rfl
  rw [hlist]
  unfold wpOps
  simp only [List.getElem?_toArray, List.getElem?_cons_zero]
  rw [if_pos (by unfold Region.wanted; rw [q2])]
  refine .inl ?_
  unfold Oper.wp
  rw [hr0, Oper.upon_value, q1, <- ha2]
  unfold wpOps
  simp only [List.getElem?_toArray, List.getElem?_cons_succ, List.getElem?_cons_zero]
  rw [if_pos (by unfold Region.wanted; rw [q5])]
  refine .inl ?_
  unfold Oper.wp
  rw [hr1, Oper.upon_value, q4]
  unfold wpOps
  have hev4 : (a2.put (some 4) (.bool p1.isNone)).eval (.tmp 4) = .bool p1.isNone := by
   have := t2.size
   show (a2.tmps.setIfInBounds 4 _).getD 4 undef = _
   simp [Array.getD, this]
  have fin : ∀ {tm' : Tr AV} {σ' : AS} {r' : AV}, gq T tm' σ'.h fn.results.toList = some [r'] -> lD r' = true -> Leaves P w.heap.size 8 φ1 A1 S1 w1 .ret tm' σ'
    (bodyPost P fn fun e w' => ∃ u, e = .returned u /\ Below w.heap.size w w' /\ ∀ (φ : Nat -> Nat × Nat) (A S : Nat -> Prop) (w : World), VR φ A S w (.nilz false) u) := by
   intro tm' σ' r' hr' hz'
   refine body_fin hT hr' (fun u φ' A' S' w' k1 k2 => ⟨u, rfl, ?_, fun φ2 A2 S2 w2 => zR hz' k2 φ2 A2 S2 w2⟩)
   have q := g1.trans k1
   exact ⟨q.same.os, q.same.tape, q.same.output, q.size, q.low⟩
  cases hp : p1.isNone with
  | true =>
   rw [hp] at hev4 t4
   refine wp_cond_true hev4 ?_
   exact lm (nt := 8) hT (hC 5) 5 X hok.2.1.2.1 ⟨.nil, 0⟩ σ4 _ tm4 .ret φ1 A1 S1 w1 _ _ g2 g3 (hG.step g1) t4 e4 (fin er4 hz4)
  | false =>
   rw [hp] at hev4 t4
   refine wp_cond_false hev4 (wp_skip ?_)
   exact lm (nt := 8) hT (hC 5) 5 rest hok.2.2 ⟨.nil, 0⟩ σ3 _ tm3 .ret φ1 A1 S1 w1 _ _ g2 g3 (hG.step g1) t4 e3 (fin er3 hz3)
def mW (T : Tab) (fn : Func) (c : Code) (tm : Tr AV) : Bool := match aU T (aE T 5) 8 5 c tm ⟨.nil, 0⟩ with
 | some (.ret, tm', σ') => match gq T tm' σ'.h fn.results.toList with
  | some [r] => lD r
  | _ => false
 | _ => false
def wv (T : Tab) (fn : Func) (R0 X rest : Code) : Bool := match aU T (aE T 5) 8 5 R0 (lC [.lst []] 0 .nil) ⟨.nil, 0⟩ with
 | some (.norm, tm1, ⟨.nil, 0⟩) => match tm1.get 0 with
  | some (.lst []) => mW T fn rest ((tm1.put 3 (some (.lst []))).put 4 (some (.b false))) && mW T fn X ((tm1.put 3 (some (.lst []))).put 4 (some (.b true)))
  | _ => false
 | _ => false
def rp (T : Tab) (o0 o1 : Oper) : Bool := match o0.op, o0.dst, o0.guard, o1.op, o1.dst, o1.guard with
 | .move (.tmp 0), some 3, none, .binOp .eql t (.tmp 3) (.const (.slice none 0 0)) t', some 4, none => Nat.beq t t' && (match T.ty t with | some (.slice _) => true | _ => false)
 | _, _, _, _, _, _ => false
def zG (T : Tab) (fn : Func) : Bool := Nat.beq fn.ntmps 8 && match fn.body with
 | some (.seq R0 (.seq (.seq (.region _ ⟨[o0, o1]⟩ false) (.cond (.tmp 4) X .skip)) rest)) => rp T o0 o1 && wv T fn R0 X rest
 | _ => false
theorem pq {fn : Func} {c : Code} {tm : Tr AV} (h : mW T fn c tm = true) : ∃ tm' σ' r, aU T (aE T 5) 8 5 c tm ⟨.nil, 0⟩ = some (.ret, tm', σ') /\ gq T tm' σ'.h fn.results.toList = some [r] /\ lD r = true := by
 unfold mW at h
 split at h
 ·rename_i tm' σ' he
  split at h
  ·rename_i r hr; exact ⟨_, _, _, he, hr, h⟩
  ·cases h
 ·cases h
theorem ww {o0 o1 : Oper} (h : rp T o0 o1 = true) : ∃ t e, o0.op = .move (.tmp 0) /\ o0.dst = some 3 /\ o0.guard = none /\ o1.op = .binOp .eql t (.tmp 3) (.const (.slice none 0 0)) t /\ o1.dst = some 4 /\ o1.guard = none /\ T.ty t = some (.slice e) := by
 unfold rp at h
 split at h
 ·rename_i t t' h1 h2 h3 h4 h5 h6
  simp only [Bool.and_eq_true] at h
  have := Nat.eq_of_beq_eq_true h.1
  subst this
  have h7 := h.2
  split at h7
  ·rename_i e he
   exact ⟨t, e, h1, h2, h3, h4, h5, h6, he⟩
  ·cases h7
 ·cases h
theorem wt {gl : Nat -> Option (List AV)} (hT : TabOK P T) (hgl : ∀ g, T.gl g = none) (hC : ∀ k, CallOK P T (aE T k)) {f : Nat} {fn : Func} (hf : T.fn f = some fn) (h : zG T fn = true) : kO P gl f eR := by
 unfold zG at h
 simp only [Bool.and_eq_true] at h
 obtain ⟨hn, h⟩ := h
 have hn := Nat.eq_of_beq_eq_true hn
 split at h
 ·rename_i R0 i o0 o1 X rest hb
  simp only [Bool.and_eq_true] at h
  obtain ⟨t, e, q0, q1, q2, q3, q4, q5, ht⟩ := ww h.1
  have hr := h.2
  unfold wv at hr
  split at hr
  ·rename_i tm1 e0
   split at hr
   ·rename_i et
    simp only [Bool.and_eq_true] at hr
    obtain ⟨tm3, σ3, r3, e3, er3, hz3⟩ := pq hr.1
    obtain ⟨tm4, σ4, r4, e4, er4, hz4⟩ := pq hr.2
    exact AL hT hgl hC hf hb q0 q1 q2 q3 q4 q5 ht hn e0 et e3 er3 hz3 e4 er4 hz4
   ·cases hr
  ·cases hr
 ·cases h
end
end Go.Proofs.YtmfhmlhaofpeiaaGreatDoor.Ev
