/- From the reading of an argument to what the evaluator sees. -/
import Derived.Test.YtmfhmlhaofpeiaaGreatDoorEv4
import Derived.WideShapes
import Derived.ChangeArms
import Derived.ChangeReads
import Derived.DataReads
import Derived.DataElems
import Derived.SizedLaws
import Derived.Carry
import Derived.Lib.LaidTab
namespace Go.Proofs.YtmfhmlhaofpeiaaGreatDoor.Ev
open Go Go.RowKit
set_option linter.unusedSimpArgs false
set_option linter.unusedVariables false
def φ0 : Nat -> Nat × Nat := fun _ => (0, 0)
def A0 : Nat -> Prop := fun _ => False
def S0 (w : World) : Nat -> Prop := fun b => b < w.heap.size
abbrev V0s (w : World) (cs : List AV) (vs : List Value) : Prop := VRs φ0 A0 (S0 w) w cs vs
structure OpV {α : Type} (P : Program) (t : TypeId) (enc : α -> AV) (ok : α -> Prop) (m : Nat) : Prop where
 len : ∀ x, (enc x).cells.length = P.cellsOf t
 idf : ∀ x, AV.idfree.idfrees (enc x).cells = true
 go : ∀ {H : Type} {eh : TypeId × Value -> H} {w : World} {base : Nat} {spare : Nat -> Bool} {held : Bool} {cs : List Value} {y : DataW H × List MemPlace},
  DataW.trod eh P w base spare held m t cs = some y -> (∀ n ∈ y.1.weights P t, n <= reachBytes) -> ∃ x, V0s w (enc x).cells cs /\ ok x
section
variable {P : Program} {t e : TypeId}
theorem OpV.le {α : Type} {enc : α -> AV} {ok : α -> Prop} {m m' : Nat} (h : OpV P t enc ok m) (hm : m' <= m) : OpV P t enc ok m' :=
 ⟨h.len, h.idf, fun hy hw => h.go (DataW.trod_le hm hy) hw⟩
theorem OpV.imp {α : Type} {enc : α -> AV} {ok ok' : α -> Prop} {m : Nat} (h : OpV P t enc ok m) (hi : ∀ x, ok x -> ok' x) : OpV P t enc ok' m :=
 ⟨h.len, h.idf, fun hy hw => by obtain ⟨x, h1, h2⟩ := h.go hy hw; exact ⟨x, h1, hi x h2⟩⟩
theorem OpV.iso {α β : Type} {enc : α -> AV} {enc' : β -> AV} {ok : α -> Prop} {ok' : β -> Prop} {m : Nat} (g : α -> β) (f : β -> α) (h : OpV P t enc ok m) (he : ∀ b, enc' b = enc (f b)) (hf : ∀ a, f (g a) = a) (hi : ∀ a, ok a -> ok' (g a)) : OpV P t enc' ok' m :=
 ⟨fun b => by rw [he]; exact h.len _, fun b => by rw [he]; exact h.idf _, fun hy hw => by
  obtain ⟨x, h1, h2⟩ := h.go hy hw
  exact ⟨g x, by rw [he, hf]; exact h1, hi x h2⟩⟩
theorem OpV.int {k : IntKind} (m : Nat) (ht : P.underlying t = some (.int k)) (hc : P.cellsOf t = 1) : OpV P t (fun n : Int => .i k n) (fun n => (Lit.int k n).wf = true) m :=
 ⟨fun _ => hc.symm, fun _ => rfl, fun {H eh w base spare held cs y} hy _ => by
  obtain ⟨n, rfl, _, hw⟩ := DataW.trod_int ht hy
  exact ⟨n, VRs.cons (.i k n) .nil, hw⟩⟩
theorem OpV.bool (m : Nat) (ht : P.underlying t = some .bool) (hc : P.cellsOf t = 1) : OpV P t (fun n : Bool => .b n) (fun _ => True) m :=
 ⟨fun _ => hc.symm, fun _ => rfl, fun {H eh w base spare held cs y} hy _ => by
  obtain ⟨n, rfl, _⟩ := DataW.trod_bool ht hy
  exact ⟨n, VRs.cons (.b n) .nil, trivial⟩⟩
theorem OpV.string (m : Nat) (ht : P.underlying t = some .string) (hc : P.cellsOf t = 1) : OpV P t AV.s (fun s => s.length <= 140737488351232) m :=
 ⟨fun _ => hc.symm, fun _ => rfl, fun {H eh w base spare held cs y} hy hwt => by
  obtain ⟨s, rfl, rfl, hs⟩ := DataW.trod_string ht hy
  refine ⟨s.data.toList, VRs.cons (.s _ s rfl) .nil, ?_⟩
  have := hwt s.data.toList.length (by simp [DataW.weights])
  simpa [reachBytes] using this⟩
theorem jh {H : Type} : ∀ {ds : List (DataW H)} {i : Nat} {d : DataW H}, ds[i]? = some d -> ∀ n ∈ d.weights P e, n ∈ DataW.weightsAll P e ds
 | [], i, d, h => by simp at h
 | x :: r, 0, d, h => by
  simp at h
  subst h
  intro n hn
  simp [DataW.weightsAll, hn]
 | x :: r, i + 1, d, h => by
  intro n hn
  have := jh (ds := r) (i := i) (by simpa using h) n hn
  simp [DataW.weightsAll, this]
theorem zd {α : Type} {Q : Nat -> α -> Prop} : ∀ (n : Nat), (∀ i, i < n -> ∃ x, Q i x) -> ∃ xs : List α, xs.length = n /\ ∀ i x, xs[i]? = some x -> Q i x
 | 0, _ => ⟨[], rfl, fun i x h => by simp at h⟩
 | k + 1, each => by
  obtain ⟨xs, hx1, hx2⟩ := zd k (fun i hi => each i (by omega))
  obtain ⟨x, hx⟩ := each k (by omega)
  refine ⟨xs ++ [x], by simp [hx1], fun i z hz => ?_⟩
  rcases Nat.lt_or_ge i xs.length with hi | hi
  ·rw [List.getElem?_append_left hi] at hz
   exact hx2 i z hz
  ·rw [List.getElem?_append_right hi] at hz
   have h0 : i - xs.length = 0 := by
    rcases Nat.eq_zero_or_pos (i - xs.length) with h | h
    ·exact h
    ·rw [List.getElem?_eq_none (by simp; omega)] at hz; cases hz
   rw [h0] at hz
   simp at hz
   subst hz
   obtain rfl : i = k := by omega
   exact hx
theorem add_none (b o n : Nat) : (⟨b, o, none⟩ : Addr).add n = ⟨b, o + n, none⟩ := by
 unfold Addr.add
 split
 ·rename_i h; subst h; rfl
 ·rfl
theorem sb {α : Type} {enc : α -> AV} {w : World} {b o z : Nat} : ∀ (xs : List α) (i0 : Nat), (∀ i x, xs[i]? = some x -> ∃ c : List Value, c.length = z /\ V0s w (enc x).cells c /\ ∀ j u, c[j]? = some u -> w.cell? ⟨b, o + ((i0 + i) * z + j), none⟩ = some u) ->
  ∃ vs, V0s w (aJ (xs.map enc)) vs /\ ∀ j u, vs[j]? = some u -> w.cell? ⟨b, o + (i0 * z + j), none⟩ = some u
 | [], i0, _ => ⟨[], VRs.nil, fun j u h => by simp at h⟩
 | x :: xs, i0, h => by
  obtain ⟨c, c1, c2, c3⟩ := h 0 x rfl
  obtain ⟨vs, v1, v2⟩ := sb xs (i0 + 1) (fun i y hy => by
   obtain ⟨c, c1, c2, c3⟩ := h (i + 1) y (by simpa using hy)
   exact ⟨c, c1, c2, fun j u hj => by rw [show i0 + 1 + i = i0 + (i + 1) by omega]; exact c3 j u hj⟩)
  refine ⟨c ++ vs, VRs.append c2 v1, fun j u hj => ?_⟩
  rcases Nat.lt_or_ge j c.length with q | q
  ·rw [List.getElem?_append_left q] at hj
   exact c3 j u hj
  ·rw [List.getElem?_append_right q] at hj
   have := v2 _ u hj
   rw [show i0 * z + j = (i0 + 1) * z + (j - c.length) by rw [Nat.succ_mul]; omega]
   exact this
theorem ve {α : Type} {enc : α -> AV} (h : ∀ x, AV.idfree.idfrees (enc x).cells = true) : ∀ (xs : List α), AV.idfree.idfrees (aJ (xs.map enc)) = true
 | [] => rfl
 | x :: xs => by
  have app : ∀ (a b : List AV), AV.idfree.idfrees a = true -> AV.idfree.idfrees b = true -> AV.idfree.idfrees (a ++ b) = true := by
   intro a b
   induction a with
   | nil => intro _ q; exact q
   | cons y a ih =>
    intro p q
    simp only [AV.idfree.idfrees, List.cons_append, Bool.and_eq_true] at p |-
    exact ⟨p.1, ih p.2 q⟩
  exact app _ _ (h x) (ve h xs)
theorem OpV.slice {α : Type} {enc : α -> AV} {ok : α -> Prop} {B m : Nat} (ht : P.underlying t = some (.slice e)) (hc : P.cellsOf t = 1) (hB : P.bytesOf e = B) (hz : 1 <= P.cellsOf e) (h : OpV P e enc ok m) :
  OpV P t (fun xs : List α => .lst (xs.map enc)) (fun xs => xs.length * B <= 140737488351232 /\ ∀ x ∈ xs, ok x) (m + 1) := by
 refine ⟨fun _ => hc.symm, fun _ => rfl, fun {H eh w base spare held cs y} hy hw => ?_⟩
 rcases DataW.trod_slice ht hy with ⟨rfl, rfl⟩ | ⟨a, len, cap, elems, rest, n, hn, rfl, rfl, hb, hl, hm, hlen, hel, _, _⟩
 ·exact ⟨[], VRs.cons (.lst0 none 0) .nil, by simp⟩
 ·obtain rfl : m = n := by omega
  have hw0 : (elems.length + rest.length) * P.bytesOf e <= reachBytes := hw _ (by simp [DataW.weights, ht])
  have each : ∀ i, i < len -> ∃ x, ok x /\ ∃ c : List Value, c.length = P.cellsOf e /\ V0s w (enc x).cells c /\ ∀ j u, c[j]? = some u -> w.cell? (a.add (i * P.cellsOf e + j)) = some u := by
   intro i hi
   have he := hel i hi
   have hi' : i < elems.length := by omega
   rw [List.getElem?_eq_getElem hi', Option.bind_eq_some_iff] at he
   obtain ⟨c, hc1, hc2⟩ := he
   obtain ⟨_, hcl, hcell⟩ := World.cells?_some hc1
   obtain ⟨x, hK, hok⟩ := h.go hc2 (fun n hn => hw n (by
    simp only [DataW.weights, ht, List.mem_cons, List.mem_append]
    exact Or.inr (Or.inl (jh (i := i) (by simp [List.getElem?_eq_getElem hi']) n hn))))
   refine ⟨x, hok, c, hcl, hK, fun j u hj => ?_⟩
   have hj' : j < c.length := (List.getElem?_eq_some_iff.1 hj).1
   have := hcell j (by omega)
   rw [hj] at this
   rw [<- this]
   rw [Addr.add_add]
  obtain ⟨xs, hxl, hx⟩ := zd len each
  have okall : xs.length * B <= 140737488351232 /\ ∀ x ∈ xs, ok x := by
   refine ⟨?_, fun x hxm => ?_⟩
   ·rw [hB] at hw0
    have : xs.length * B <= (elems.length + rest.length) * B := Nat.mul_le_mul_right _ (by omega)
    unfold reachBytes at hw0
    omega
   ·obtain ⟨i, hi⟩ := List.getElem?_of_mem hxm
    exact (hx i x hi).1
  refine ⟨xs, ?_, okall⟩
  refine VRs.cons ?_ .nil
  rcases Nat.eq_zero_or_pos len with h0 | h0
  ·have : xs = [] := List.length_eq_zero_iff.1 (by omega)
   subst this
   rw [h0]
   exact .lst0 _ _
  ·
   have h0' : 0 < xs.length := by omega
   obtain ⟨_, c, c1, _, c3⟩ := hx 0 xs[0] (by simp)
   have hc0 : 0 < c.length := by omega
   have hcell := c3 0 c[0] (by simp)
   have e0 : a.add (0 * P.cellsOf e + 0) = a := by simp [Addr.add]
   rw [e0] at hcell
   obtain ⟨ab, ao, asp⟩ := a
   have hsp : asp = none /\ ab < w.heap.size := by
    unfold World.cell? at hcell
    split at hcell
    ·rename_i hh
     split at hcell
     ·cases hcell
     ·rename_i q
      refine ⟨?_, (Array.getElem?_eq_some_iff.1 hh).1⟩
      cases asp with
      | none => rfl
      | some _ => exact absurd rfl q
    ·cases hcell
   obtain ⟨rfl, hbS⟩ := hsp
   obtain ⟨vs, v1, v2⟩ := sb (enc := enc) (w := w) (b := ab) (o := ao) (z := P.cellsOf e) xs 0 (fun i x hi => by
    obtain ⟨_, c, c1, c2, c3⟩ := hx i x hi
    refine ⟨c, c1, c2, fun j u hj => ?_⟩
    have := c3 j u hj
    rw [add_none] at this
    rw [Nat.zero_add]
    exact this)
   refine VR.lst_mk (by simp; omega) hl (z := P.cellsOf e) (fun y hy => ?_) (ve h.idf xs) hbS v1 (fun j u hj => by
    have := v2 j u hj
    rwa [Nat.zero_mul, Nat.zero_add] at this)
   obtain ⟨x, _, rfl⟩ := List.mem_map.1 hy
   exact h.len x
structure OpF {α : Type} (P : Program) (fs : List Field) (off z : Nat) (encs : α -> List AV) (ok : α -> Prop) (m : Nat) : Prop where
 len : ∀ x, (encs x).length = z
 idf : ∀ x, AV.idfree.idfrees (encs x) = true
 go : ∀ {H : Type} {eh : TypeId × Value -> H} {w : World} {base : Nat} {spare : Nat -> Bool} {held : Bool} {cs : List Value} {xs : List (DataW H × List MemPlace)}, cs.length = off + z -> xs.length = fs.length ->
  (∀ (i : Nat) (f : Field), fs[i]? = some f -> DataW.trod eh P w base spare held m f.type ((cs.drop f.offset).take (P.cellsOf f.type)) = xs[i]?) -> (∀ n ∈ DataW.weightsEach P (fs.map (·.type)) (xs.map (·.1)), n <= reachBytes) ->
  ∃ x, V0s w (encs x) (cs.drop off) /\ ok x
theorem OpF.one {α : Type} {f : Field} {off z : Nat} {enc : α -> AV} {ok : α -> Prop} {m : Nat} (ho : f.offset = off) (hz : P.cellsOf f.type = z) (h : OpV P f.type enc ok m) : OpF P [f] off z (fun x => (enc x).cells) ok m := by
 refine ⟨fun x => by rw [<- hz]; exact h.len x, h.idf, fun {H eh w base spare held cs xs} hl hx hf hw => ?_⟩
 match xs, hx with
 | [x], _ =>
  have h0 := hf 0 f rfl
  rw [ho, List.take_of_length_le (by rw [List.length_drop]; omega)] at h0
  exact h.go h0 (fun n hn => hw n (by simp [DataW.weightsEach, hn]))
theorem OpF.cons {α β : Type} {f : Field} {fs : List Field} {off z z' : Nat} {enc : α -> AV} {encs : β -> List AV} {ok : α -> Prop} {ok' : β -> Prop} {m : Nat} (ho : f.offset = off) (hz : P.cellsOf f.type = z) (h : OpV P f.type enc ok m) (hr : OpF P fs (off + z) z' encs ok' m) :
  OpF P (f :: fs) off (z + z') (fun x : α × β => (enc x.1).cells ++ encs x.2) (fun x => ok x.1 /\ ok' x.2) m := by
 refine ⟨fun x => by rw [List.length_append, h.len, hr.len, hz], fun x => ?_, fun {H eh w base spare held cs xs} hl hx hf hw => ?_⟩
 ·have app : ∀ (a b : List AV), AV.idfree.idfrees a = true -> AV.idfree.idfrees b = true -> AV.idfree.idfrees (a ++ b) = true := by
   intro a b
   induction a with
   | nil => intro _ q; exact q
   | cons y a ih =>
    intro p q
    simp only [AV.idfree.idfrees, List.cons_append, Bool.and_eq_true] at p |-
    exact ⟨p.1, ih p.2 q⟩
  exact app _ _ (h.idf _) (hr.idf _)
 ·match xs, hx with
  | x :: r, hx =>
   have h0 := hf 0 f rfl
   rw [ho, hz] at h0
   obtain ⟨a, ha, oka⟩ := h.go h0 (fun n hn => hw n (by simp [DataW.weightsEach, hn]))
   obtain ⟨b, hb, okb⟩ := hr.go (cs := cs) (xs := r) (by omega) (by simpa using hx) (fun i g hg => by simpa using hf (i + 1) g (by simpa using hg)) (fun n hn => hw n (by simp only [List.map_cons, DataW.weightsEach, List.mem_append]; exact Or.inr hn))
   refine ⟨(a, b), ?_, oka, okb⟩
   have := VRs.append ha hb
   rwa [<- List.drop_drop, List.take_append_drop] at this
theorem OpV.struct {α : Type} {fs : Array Field} {encs : α -> List AV} {ok : α -> Prop} {z m : Nat} (ht : P.underlying t = some (.struct fs)) (hc : P.cellsOf t = z) (h : OpF P fs.toList 0 z encs ok m) : OpV P t (fun x => .agg (encs x)) ok (m + 1) := by
 refine ⟨fun x => by rw [hc]; exact h.len x, h.idf, fun {H eh w base spare held cs y} hy hw => ?_⟩
 obtain ⟨xs, n, hn, rfl, hl, hlen, hf⟩ := DataW.trod_struct ht hy
 obtain rfl : m = n := by omega
 have := h.go (cs := cs) (xs := xs) (by omega) (by simpa using hlen) (fun i f hi => hf i f (by simpa using hi)) (fun n hn => hw n (by simpa [DataW.weights, ht] using hn))
 show ∃ x, V0s w (encs x) cs /\ ok x
 simpa using this
theorem OpV.up {α : Type} {enc : α -> AV} {ok : α -> Prop} (h : ∀ m, OpV P t enc ok (m + 1)) (m : Nat) : OpV P t enc ok m := (h m).le (Nat.le_succ m)
end
theorem openedV {α : Type} {P : Program} {t : TypeId} {e : α -> AV} {ok : α -> Prop} (h : ∀ m, OpV P t e ok m) {H : Type} {enc : TypeId × Value -> H} {w : World} {base : Nat} {spare : Nat -> Bool} {held : Bool} {v : Value} {y : DataW H} {ps : List MemPlace} {ts : List TypeId} {ds : List (DataW H)} {j : Nat}
  (hsz : (DataW.weightsEach P ts ds).all (· <= reachBytes) = true) (ht : ts[j]? = some t) (hd : ds[j]? = some y) (hy : DataW.Trod enc P w base spare held t v y ps) : ∃ x, V0s w (e x).cells v.cells.toList /\ ok x := by
 obtain ⟨m, hm⟩ := hy
 refine (h m).go hm (fun n hn => ?_)
 have := List.all_eq_true.1 hsz n (DataW.weights_mem_each ht hd n hn)
 simpa using this
theorem trod_ltV {H : Type} {enc : TypeId × Value -> H} {P : Program} {w : World} {base : Nat} {spare : Nat -> Bool} {held : Bool} {t : TypeId} {v : Value} {d : DataW H} {ps : List MemPlace} (h : DataW.Trod enc P w base spare held t v d ps) : ∀ x ∈ ps, x.block < w.heap.size := by
 obtain ⟨m, hm⟩ := h
 exact DataW.trod_lt m _ _ _ hm
theorem V_agg {w : World} {cs : List AV} {l : Array Value} (h : V0s w cs l.toList) : VR φ0 A0 (S0 w) w (.agg cs) (.agg l) := .agg cs l.toList h.1 h.2
theorem R.calls {P : Program} {T : Tab} (hT : TabOK P T) {f : Nat} {args : List AV} {r : Bool} (h : R T f args (.b r)) (hop : T.opened f = false) (hpr : (T.prim f).isSome = false) {w : World} {vals : List Value} (hg : GL T φ0 A0 (S0 w) w) (ha : V0s w args vals) :
  Calls P f ⟨vals⟩ w fun e w' => e = .returned (.bool r) /\ Below w.heap.size w w' := by
 obtain ⟨k, hk⟩ := h
 refine (tF (φ := φ0) (A := A0) (S := S0 w) hT hop hpr ⟨_, hk _⟩ (fun b hb => hb) hg ha).mono ?_
 rintro e w' ⟨u, rfl, h1, h2⟩
 cases h2
 exact ⟨rfl, h1⟩
end Go.Proofs.YtmfhmlhaofpeiaaGreatDoor.Ev
