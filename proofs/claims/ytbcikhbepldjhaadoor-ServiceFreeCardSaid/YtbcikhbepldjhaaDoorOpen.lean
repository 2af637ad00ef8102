/- From the reading of an argument to the kinds: what reads at a type is of the type's kind, its numbers in range, its rows within reach. -/
import Derived.Test.YtbcikhbepldjhaaDoorWMore
import Derived.Test.YtbcikhbepldjhaaDoorWWords
import Derived.WideShapes
import Derived.ChangeArms
import Derived.ChangeReads
import Derived.DataReads
import Derived.DataElems
import Derived.SizedLaws
import Derived.Carry
import Derived.Lib.LaidTab
namespace Go.Proofs.YtbcikhbepldjhaaDoorW.Open
open Go.Proofs.YtbcikhbepldjhaaDoorW.PrintWords

def OpnAt {α : Type} (P : Program) (t : TypeId) (d : Kd α) (ok : α → Prop) (m : Nat) : Prop :=
  P.cellsOf t = d.sz ∧ ∀ {H : Type} {enc : TypeId × Value → H} {w : World} {base : Nat} {spare : Nat → Bool} {held : Bool} {cs : List Value} {y : DataW H × List MemPlace},
    DataW.trod enc P w base spare held m t cs = some y → (∀ n ∈ y.1.weights P t, n ≤ reachBytes) → ∃ x, d.K w x cs ∧ ok x
def Opn {α : Type} (P : Program) (t : TypeId) (d : Kd α) (ok : α → Prop) : Prop := ∀ m, OpnAt P t d ok m

theorem OpnAt.le {α : Type} {P : Program} {t : TypeId} {d : Kd α} {ok : α → Prop} {m m' : Nat} (h : OpnAt P t d ok m) (hm : m' ≤ m) : OpnAt P t d ok m' :=
  ⟨h.1, fun hy hw => h.2 (DataW.trod_le hm hy) hw⟩
theorem OpnAt.imp {α : Type} {P : Program} {t : TypeId} {d : Kd α} {ok ok' : α → Prop} {m : Nat} (h : OpnAt P t d ok m) (hi : ∀ x, ok x → ok' x) : OpnAt P t d ok' m :=
  ⟨h.1, fun hy hw => by obtain ⟨x, h1, h2⟩ := h.2 hy hw; exact ⟨x, h1, hi x h2⟩⟩
theorem OpnAt.kd {α : Type} {P : Program} {t : TypeId} {d d' : Kd α} {ok : α → Prop} {m : Nat} (h : OpnAt P t d ok m) (hs : d.sz = d'.sz) (hi : ∀ w x cs, d.K w x cs → d'.K w x cs) : OpnAt P t d' ok m :=
  ⟨h.1.trans hs, fun hy hw => by obtain ⟨x, h1, h2⟩ := h.2 hy hw; exact ⟨x, hi _ _ _ h1, h2⟩⟩

theorem Opn.int {P : Program} {t : TypeId} {k : IntKind} (ht : P.underlying t = some (.int k)) (hc : P.cellsOf t = 1) : Opn P t (Kd.int k) (fun x => (Lit.int k x).wf = true) := by
  intro m
  refine ⟨hc, fun {H enc w base spare held cs y} hy _ => ?_⟩
  obtain ⟨n, rfl, _, hw⟩ := DataW.trod_int ht hy
  exact ⟨n, rfl, hw⟩
theorem Opn.bool {P : Program} {t : TypeId} (ht : P.underlying t = some .bool) (hc : P.cellsOf t = 1) : Opn P t Kd.bool (fun _ => True) := by
  intro m
  refine ⟨hc, fun {H enc w base spare held cs y} hy _ => ?_⟩
  obtain ⟨n, rfl, _⟩ := DataW.trod_bool ht hy
  exact ⟨n, rfl, trivial⟩
theorem Opn.string {P : Program} {t : TypeId} (ht : P.underlying t = some .string) (hc : P.cellsOf t = 1) : Opn P t Kd.string (fun s => s.size ≤ 140737488351232) := by
  intro m
  refine ⟨hc, fun {H enc w base spare held cs y} hy hwt => ?_⟩
  obtain ⟨s, rfl, rfl, hs⟩ := DataW.trod_string ht hy
  refine ⟨s, rfl, ?_⟩
  have := hwt s.data.toList.length (by simp [DataW.weights])
  simpa [reachBytes] using this

theorem weights_all_get {H : Type} {P : Program} {e : TypeId} : ∀ {ds : List (DataW H)} {i : Nat} {d : DataW H}, ds[i]? = some d → ∀ n ∈ d.weights P e, n ∈ DataW.weightsAll P e ds
  | [], i, d, h => by simp at h
  | x :: r, 0, d, h => by
    simp at h
    subst h
    intro n hn
    simp [DataW.weightsAll, hn]
  | x :: r, i + 1, d, h => by
    intro n hn
    have := weights_all_get (ds := r) (i := i) (by simpa using h) n hn
    simp [DataW.weightsAll, this]

theorem collect {α : Type} {Q : Nat → α → Prop} : ∀ (n : Nat), (∀ i, i < n → ∃ x, Q i x) → ∃ xs : List α, xs.length = n ∧ ∀ i x, xs[i]? = some x → Q i x
  | 0, _ => ⟨[], rfl, fun i x h => by simp at h⟩
  | k + 1, each => by
    obtain ⟨xs, hx1, hx2⟩ := collect k (fun i hi => each i (by omega))
    obtain ⟨x, hx⟩ := each k (by omega)
    refine ⟨xs ++ [x], by simp [hx1], fun i z hz => ?_⟩
    rcases Nat.lt_or_ge i xs.length with hi | hi
    · rw [List.getElem?_append_left hi] at hz
      exact hx2 i z hz
    · rw [List.getElem?_append_right hi] at hz
      have h0 : i - xs.length = 0 := by
        rcases Nat.eq_zero_or_pos (i - xs.length) with h | h
        · exact h
        · rw [List.getElem?_eq_none (by simp; omega)] at hz; cases hz
      rw [h0] at hz
      simp at hz
      subst hz
      obtain rfl : i = k := by omega
      exact hx

theorem OpnAt.slice {α : Type} {P : Program} {t e : TypeId} {d : Kd α} {ok : α → Prop} {B m : Nat} (ht : P.underlying t = some (.slice e)) (hc : P.cellsOf t = 1) (hB : P.bytesOf e = B) (h : OpnAt P e d ok m) :
    OpnAt P t (Kd.slice e d) (fun xs => xs.length * B ≤ 140737488351232 ∧ xs.length ≤ 9223372036854775807 ∧ ∀ x ∈ xs, ok x) (m + 1) := by
  refine ⟨hc, fun {H enc w base spare held cs y} hy hw => ?_⟩
  obtain ⟨hsz, ho⟩ := h
  rcases DataW.trod_slice ht hy with ⟨rfl, rfl⟩ | ⟨a, len, cap, elems, rest, n, hn, rfl, rfl, hb, hl, hm, hlen, hel, _, _⟩
  · exact ⟨[], ⟨none, 0, rfl, Nat.le_refl _, by simp [Kd.C, ReadsRow]⟩, by simp⟩
  · obtain rfl : m = n := by omega
    have hw0 : (elems.length + rest.length) * P.bytesOf e ≤ reachBytes := hw _ (by simp [DataW.weights, ht])
    have each : ∀ i, i < len → ∃ x c, c.length = d.sz ∧ d.K w x c ∧ ok x ∧ ∀ j u, c[j]? = some u → w.cell? (a.add (i * d.sz + j)) = some u := by
      intro i hi
      have he := hel i hi
      have hi' : i < elems.length := by omega
      rw [List.getElem?_eq_getElem hi', Option.bind_eq_some_iff] at he
      obtain ⟨c, hc1, hc2⟩ := he
      obtain ⟨_, hcl, hcell⟩ := World.cells?_some hc1
      rw [hsz] at hcl hcell
      obtain ⟨x, hK, hok⟩ := ho hc2 (fun n hn => hw n (by
        simp only [DataW.weights, ht, List.mem_cons, List.mem_append]
        exact Or.inr (Or.inl (weights_all_get (i := i) (by simp [List.getElem?_eq_getElem hi']) n hn))))
      refine ⟨x, c, hcl, hK, hok, fun j u hj => ?_⟩
      have hj' : j < c.length := (List.getElem?_eq_some_iff.1 hj).1
      have := hcell j (by omega)
      rw [hj] at this
      rw [← this]
      rw [Addr.add_add]
    obtain ⟨xs, hxl, hx⟩ := collect len each
    have hmx : xs.length ≤ 9223372036854775807 := by unfold maxLen at hm; omega
    refine ⟨xs, ⟨some a, cap, by rw [hxl], by omega, by
      refine ⟨rfl, hmx, fun _ => ⟨a, rfl, fun j p hj => ?_⟩⟩
      obtain ⟨c, h1, h2, _, h4⟩ := hx j p hj
      exact ⟨c, h1, h2, h4⟩⟩, ?_, hmx, ?_⟩
    · rw [hB] at hw0
      have : xs.length * B ≤ (elems.length + rest.length) * B := Nat.mul_le_mul_right _ (by omega)
      unfold reachBytes at hw0
      omega
    · intro x hxm
      obtain ⟨i, hi⟩ := List.getElem?_of_mem hxm
      obtain ⟨c, _, _, h3, _⟩ := hx i x hi
      exact h3
theorem Opn.slice {α : Type} {P : Program} {t e : TypeId} {d : Kd α} {ok : α → Prop} {B : Nat} (ht : P.underlying t = some (.slice e)) (hc : P.cellsOf t = 1) (hB : P.bytesOf e = B) (h : Opn P e d ok) :
    Opn P t (Kd.slice e d) (fun xs => xs.length * B ≤ 140737488351232 ∧ xs.length ≤ 9223372036854775807 ∧ ∀ x ∈ xs, ok x) := fun m => (OpnAt.slice ht hc hB (h m)).le (Nat.le_succ m)

/-- Fields in line, from the cell off on. -/
structure OpnF {α : Type} (P : Program) (fs : List Field) (off : Nat) (d : Kd α) (ok : α → Prop) (m : Nat) : Prop where
  go : ∀ {H : Type} {enc : TypeId × Value → H} {w : World} {base : Nat} {spare : Nat → Bool} {held : Bool} {cs : List Value} {xs : List (DataW H × List MemPlace)}, cs.length = off + d.sz → xs.length = fs.length →
    (∀ (i : Nat) (f : Field), fs[i]? = some f → DataW.trod enc P w base spare held m f.type ((cs.drop f.offset).take (P.cellsOf f.type)) = xs[i]?) → (∀ n ∈ DataW.weightsEach P (fs.map (·.type)) (xs.map (·.1)), n ≤ reachBytes) →
    ∃ x, d.K w x (cs.drop off) ∧ ok x
theorem OpnF.one {α : Type} {P : Program} {f : Field} {off : Nat} {d : Kd α} {ok : α → Prop} {m : Nat} (ho : f.offset = off) (h : OpnAt P f.type d ok m) : OpnF P [f] off d ok m := by
  refine ⟨fun {H enc w base spare held cs xs} hl hx hf hw => ?_⟩
  match xs, hx with
  | [x], _ =>
    have h0 := hf 0 f rfl
    rw [ho, h.1, List.take_of_length_le (by rw [List.length_drop]; omega)] at h0
    exact h.2 h0 (fun n hn => hw n (by simp [DataW.weightsEach, hn]))
theorem OpnF.cons {α β : Type} {P : Program} {f : Field} {fs : List Field} {off : Nat} {d : Kd α} {d' : Kd β} {ok : α → Prop} {ok' : β → Prop} {m : Nat} (ho : f.offset = off) (h : OpnAt P f.type d ok m) (hr : OpnF P fs (off + d.sz) d' ok' m) :
    OpnF P (f :: fs) off (Kd.pair d d') (fun x => ok x.1 ∧ ok' x.2) m := by
  refine ⟨fun {H enc w base spare held cs xs} hl hx hf hw => ?_⟩
  match xs, hx with
  | x :: r, hx =>
    have hl' : cs.length = off + (d.sz + d'.sz) := hl
    have h0 := hf 0 f rfl
    rw [ho, h.1] at h0
    obtain ⟨a, ha, oka⟩ := h.2 h0 (fun n hn => hw n (by simp [DataW.weightsEach, hn]))
    obtain ⟨b, hb, okb⟩ := hr.go (cs := cs) (xs := r) (by omega) (by simpa using hx) (fun i g hg => by simpa using hf (i + 1) g (by simpa using hg)) (fun n hn => hw n (by simp only [List.map_cons, DataW.weightsEach, List.mem_append]; exact Or.inr hn))
    refine ⟨(a, b), ⟨_, _, ?_, ha, hb⟩, oka, okb⟩
    rw [← List.drop_drop, List.take_append_drop]
theorem OpnAt.struct {α : Type} {P : Program} {t : TypeId} {fs : Array Field} {d : Kd α} {ok : α → Prop} {m : Nat} (ht : P.underlying t = some (.struct fs)) (hc : P.cellsOf t = d.sz) (h : OpnF P fs.toList 0 d ok m) : OpnAt P t d ok (m + 1) := by
  refine ⟨hc, fun {H enc w base spare held cs y} hy hw => ?_⟩
  obtain ⟨xs, n, hn, rfl, hl, hlen, hf⟩ := DataW.trod_struct ht hy
  obtain rfl : m = n := by omega
  have := h.go (cs := cs) (xs := xs) (by omega) (by simpa using hlen) (fun i f hi => hf i f (by simpa using hi)) (fun n hn => hw n (by simpa [DataW.weights, ht] using hn))
  simpa using this
theorem Opn.struct {α : Type} {P : Program} {t : TypeId} {fs : Array Field} {d : Kd α} {ok : α → Prop} (ht : P.underlying t = some (.struct fs)) (hc : P.cellsOf t = d.sz) (h : ∀ m, OpnF P fs.toList 0 d ok m) : Opn P t d ok := fun m => (OpnAt.struct ht hc (h m)).le (Nat.le_succ m)
theorem OpnAt.iso {α β : Type} {P : Program} {t : TypeId} {d : Kd α} {ok : α → Prop} {f : β → α} {m : Nat} (g : α → β) (hg : ∀ a, f (g a) = a) (h : OpnAt P t d ok m) : OpnAt P t (Kd.iso d f) (fun b => ok (f b)) m :=
  ⟨h.1, fun hy hw => by
    obtain ⟨x, h1, h2⟩ := h.2 hy hw
    refine ⟨g x, ?_, by show ok (f (g x)); rw [hg]; exact h2⟩
    show d.K _ (f (g x)) _
    rw [hg]
    exact h1⟩

/-- What the row's argument holds. -/
theorem opened {α : Type} {P : Program} {t : TypeId} {d : Kd α} {ok : α → Prop} (h : Opn P t d ok) {H : Type} {enc : TypeId × Value → H} {w : World} {base : Nat} {spare : Nat → Bool} {held : Bool} {v : Value} {y : DataW H} {ps : List MemPlace} {ts : List TypeId} {ds : List (DataW H)} {j : Nat}
    (hsz : (DataW.weightsEach P ts ds).all (· ≤ reachBytes) = true) (ht : ts[j]? = some t) (hd : ds[j]? = some y) (hy : DataW.Trod enc P w base spare held t v y ps) : ∃ x, d.K w x v.cells.toList ∧ ok x := by
  obtain ⟨m, hm⟩ := hy
  refine (h m).2 hm (fun n hn => ?_)
  have := List.all_eq_true.1 hsz n (DataW.weights_mem_each ht hd n hn)
  simpa using this
theorem agg_of {cs : Array Value} {l : List Value} (h : cs.toList = l) : (Value.agg cs) = .agg l.toArray := by rw [← h]
theorem trod_lt {H : Type} {enc : TypeId × Value → H} {P : Program} {w : World} {base : Nat} {spare : Nat → Bool} {held : Bool} {t : TypeId} {v : Value} {d : DataW H} {ps : List MemPlace} (h : DataW.Trod enc P w base spare held t v d ps) : ∀ x ∈ ps, x.block < w.heap.size := by
  obtain ⟨m, hm⟩ := h
  exact DataW.trod_lt m _ _ _ hm
/-- What a listed variable holds. -/
theorem laid_get {P : Program} {W : World} : ∀ {laid : List (String × DataW Unit)} {ps : List MemPlace}, DataW.LaidVars P W laid ps → ∀ {name : String} {d : DataW Unit}, (name, d) ∈ laid →
    ∃ g t cs fuel p, P.globalNamed name = some g ∧ (P.globals[g]?).map (·.type) = some t ∧ W.var? P name = some cs ∧ DataW.trod (fun _ => ()) P W 0 (fun _ => true) false fuel t cs.toList = some (d, p)
  | [], _, _, _, _, hm => by cases hm
  | (n, d) :: r, ps, h, name, d', hm => by
    obtain ⟨g, t, cs, fuel, p, q, h1, h2, h3, h4, h5, _⟩ := h
    rcases List.mem_cons.1 hm with hm | hm
    · obtain ⟨rfl, rfl⟩ := Prod.mk.inj hm
      exact ⟨g, t, cs, fuel, p, h1, h2, h3, h4⟩
    · exact laid_get h5 hm
theorem tabIs_of_mem {P : Program} {W : World} {name : String} {k : IntKind} {zs : List Int} {laid : List (String × DataW Unit)} {g : Nat} {t e : TypeId} {n : Nat}
    (hg : P.globalNamed name = some g) (hty : (P.globals[g]?).map (·.type) = some t) (ht : P.underlying t = some (.array n e)) (he : P.underlying e = some (.int k)) (hce : P.cellsOf e = 1) (hct : P.cellsOf t = n)
    (h : laidMet P laid W) (hm : (name, Lib.tabData k zs) ∈ laid) : Lib.TabIs P W name k zs := by
  obtain ⟨ps, hl, _⟩ := h
  obtain ⟨g', t', cs, fuel, p, hg', ht', hvar, hd⟩ := laid_get hl hm
  obtain rfl := Option.some.inj (hg.symm.trans hg')
  obtain rfl := Option.some.inj (hty.symm.trans ht')
  unfold Lib.TabIs
  rw [hvar, ← Lib.cells_of_tab ht he hce hct hd]
/-- A listed interface that isn't nil: its cell. -/
theorem iface_of_mem {P : Program} {W : World} {name nm : String} {d : DataW Unit} {laid : List (String × DataW Unit)} {g : Nat} {t : TypeId} {ms : Array (String × TypeId)}
    (hg : P.globalNamed name = some g) (hty : (P.globals[g]?).map (·.type) = some t) (ht : P.underlying t = some (.interface ms))
    (h : laidMet P laid W) (hm : (name, DataW.iface nm d) ∈ laid) : ∃ te pe, W.var? P name = some #[.iface te pe] := by
  obtain ⟨ps, hl, _⟩ := h
  obtain ⟨g', t', cs, fuel, p, hg', ht', hvar, hd⟩ := laid_get hl hm
  obtain rfl := Option.some.inj (hg.symm.trans hg')
  obtain rfl := Option.some.inj (hty.symm.trans ht')
  cases fuel with
  | zero => simp [DataW.trod] at hd
  | succ fuel =>
    unfold DataW.trod at hd
    rw [ht] at hd
    obtain ⟨l⟩ := cs
    split at hd <;> simp_all
end Go.Proofs.YtbcikhbepldjhaaDoorW.Open
