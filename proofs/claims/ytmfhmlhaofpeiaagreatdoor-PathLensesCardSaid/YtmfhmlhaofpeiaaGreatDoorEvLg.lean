/- Rows of the call's own in general: append, index, handing out; calls that are lent them. -/
import Derived.Test.YtmfhmlhaofpeiaaGreatDoorEv4
namespace Go.Proofs.YtmfhmlhaofpeiaaGreatDoor.Ev
open Go Go.RowKit
set_option linter.unusedSimpArgs false
set_option linter.unusedVariables false
theorem cL {p : Prop} {_ : Decidable p} (h : p) : decide p = true := decide_eq_true h
theorem cW {p : Prop} {_ : Decidable p} (h : ¬ p) : decide p = false := decide_eq_false h
section
variable {T : Tab} {t e z by_ : Nat} {ag : Bool} {es xs : List AV} {h : Tr AB}
theorem sd (a b : List AV) : aJ (a ++ b) = aJ a ++ aJ b := by
 induction a with
 | nil => rfl
 | cons x a ih => simp only [List.cons_append, aJ, ih, List.append_assoc]
def OwnA (e : Nat) (h : Tr AB) (n : Nat) (es : List AV) : Option Nat -> Prop
 | none => es = []
 | some id => es ≠ [] /\ id < n /\ h.get id = some (.cells (aJ es) e true)
theorem OwnA.same {h' : Tr AB} {n n' : Nat} {o : Option Nat} (ho : OwnA e h n es o) (hs : ∀ j, o = some j -> j < n -> h'.get j = h.get j) (hn : n <= n') : OwnA e h' n' es o := by
 cases o with
 | none => exact ho
 | some j => exact ⟨ho.1, Nat.lt_of_lt_of_le ho.2.1 hn, by rw [hs j rfl ho.2.1]; exact ho.2.2⟩
theorem OwnA.lt {n j : Nat} (ho : OwnA e h n es (some j)) : j < n := ho.2.1
theorem OwnA.ne {n j m : Nat} {o : Option Nat} (ho : OwnA e h n es o) (hj : o = some j) (hm : n <= m) : j ≠ m := by
 subst hj; have := ho.2.1; omega
theorem lI (h2 : RowE z ag xs) : bG h (z + 1) xs.length (.lst xs) = some (aJ xs) := by
 have q := dO (aJ xs)
 rw [h2.len] at q
 unfold bG ba
 exact q
theorem appA (E : RowT T t e z by_ ag) {n : Nat} {o : Option Nat} (ho : OwnA e h n es o) (h1 : RowE z ag es) (h2 : RowE z ag xs) (hne : xs ≠ []) (hs : cd (es.length + xs.length) by_ = true) :
  aI T ⟨h, n⟩ t t (vOf o es.length) (.lst xs) = some (vOf (some n) (es.length + xs.length), ⟨(fJ h o).put n (some (.cells (aJ (es ++ xs)) e true)), n + 1⟩) := by
 obtain ⟨zv, hzv⟩ := Option.isSome_iff_exists.1 E.zr
 have nr := lI (h := h) h2
 have hl := h2.leaf
 unfold aI
 simp only [E.ty, E.sz, E.bytes, hzv, iA]
 obtain ⟨k, hk⟩ : ∃ k, xs.length = k + 1 := by
  cases xs with
  | nil => exact absurd rfl hne
  | cons a b => exact ⟨b.length, rfl⟩
 rw [hk] at nr hs |-
 simp only [nr]
 cases o with
 | none =>
  have he : es = [] := ho
  subst he
  simp only [vOf, List.length_nil, Nat.zero_add] at hs |-
  simp only [hs, hP, fJ, List.nil_append]
 | some id =>
  obtain ⟨g1, g2, g3⟩ := ho
  have hr := h1.len
  have b1 : Nat.beq e e = true := Nat.beq_refl e
  have b2 : Nat.beq (es.length * (z + 1)) (aJ es).length = true := by rw [hr]; exact Nat.beq_refl _
  simp only [vOf, g3, hl, hs, fJ, b1, b2, sd]
theorem OwnA.app {n : Nat} {o : Option Nat} (hne : xs ≠ []) : OwnA e ((fJ h o).put n (some (.cells (aJ (es ++ xs)) e true))) (n + 1) (es ++ xs) (some n) :=
 ⟨by simp [hne], Nat.lt_succ_self n, by rw [Tr.get_put, if_pos rfl]⟩
theorem yS (E : RowT T t e z by_ ag) (h1 : RowE z ag es) {n : Nat} {o : Option Nat} (ho : OwnA e h n es o) (k : Nat) : fz T h (k + 3) (vOf o es.length) = some (.lst es) := by
 cases o with
 | none =>
  have he : es = [] := ho
  subst he
  exact db (T := T) (h := h) (k + 2) (a := .nilz true) rfl
 | some id => exact fW 3 (k + 3) _ _ (by omega) (wG (σ := ⟨h, n⟩) E h1 ho.2.2)
theorem fz_tup (k : Nat) (cs : List AV) : fz T h (k + 2) (.tup cs) = (cU (fz T h (k + 1)) cs).map .tup := by
 by_cases hi : AV.idfree.idfrees cs = true
 ·rw [cN k cs hi]
  conv => lhs; unfold fz
  have : (AV.tup cs).idfree = true := hi
  simp only [this]; rfl
 ·conv => lhs; unfold fz
  have : (AV.tup cs).idfree = false := by
   show AV.idfree.idfrees cs = false
   simpa using hi
  simp only [this]
theorem oZ_tup {σ : AS} {cs cs' : List AV} {k : Nat} {K : AV -> Prop} (hm : cU (fz T σ.h (k + 1)) cs = some cs') (hK : K (.tup cs')) : oZ T σ (.tup cs) K := ⟨k + 2, .tup cs', by rw [fz_tup, hm]; rfl, hK⟩
theorem be {f : AV -> Option AV} {a b : AV} {l r : List AV} (h1 : f a = some b) (h2 : cU f l = some r) : cU f (a :: l) = some (b :: r) := by
 simp only [cU, h1, h2]
theorem zN {f : AV -> Option AV} : cU f [] = some [] := rfl
theorem oZ_ownA2 (E : RowT T t e z by_ ag) (h1 : RowE z ag es) {σ : AS} {o : Option Nat} {x : AV} {K : AV -> Prop} (ho : OwnA e σ.h σ.n es o) (hx : x.idfree = true) (hK : K (.tup [.lst es, x.norm])) : oZ T σ (.tup [vOf o es.length, x]) K :=
 oZ_tup (k := 2) (be (yS E h1 ho 0) (be (db 2 hx) rfl)) hK
theorem tn {h : Tr AB} {m k : Nat} (hk : m <= k) : ∀ {l r : List AV}, cU (fz T h m) l = some r -> cU (fz T h k) l = some r
 | [], r, e => e
 | a :: l, r, e => by
  unfold cU at e |-
  split at e
  ·rename_i d ds h1 h2
   rw [fW m k _ _ hk h1, tn hk h2]; exact e
  ·cases e
theorem R.lent {f : Nat} {args args' : List AV} {r : AV} {σ : AS} (h1 : T.prim f = none) (h2 : T.ext f = none) (h5 : T.opened f = false) (hi : AV.idfree.idfrees args = false) (hi' : AV.idfree.idfrees args' = true) (hn : AV.norm.norms args' = args') (hfl : r.flat = true) {m : Nat}
  (hz : cU (fz T σ.h m) args = some args') (h : R T f args' r) : Runs T f args σ r σ := by
 obtain ⟨k, hk⟩ := h
 have e := aP k (max k m + 1) (by omega) _ _ _ _ (hk σ)
 refine ⟨max k m + 1, ?_⟩
 unfold aF at e |-
 have hz' := tn (k := max k m + 1) (by omega) hz
 simp only [fv, h1, h2, h5, hi, hi', hn, hz'] at e |-
 split at e
 ·rename_i fn hfn
  split at e
  ·rename_i c hc
   split at e
   ·rename_i r1 σ1 hb
    split at e
    ·rename_i r2 hr
     injection e with e
     simp only [Prod.mk.injEq] at e
     obtain ⟨rfl, _⟩ := e
     simp only [hb, hr, hfl]
    ·cases e
   ·cases e
  ·cases e
 ·cases e
theorem lent1 (E : RowT T t e z by_ ag) (h1 : RowE z ag es) {f : Nat} {r : AV} {σ : AS} {o : Option Nat} (ho : OwnA e σ.h σ.n es o) (p1 : T.prim f = none) (p2 : T.ext f = none) (p3 : T.opened f = false) (hfl : r.flat = true) (hR : R T f [.lst es] r) (hf : AV.idfree.idfrees [.lst es] = true) (hno : AV.norm.norms [.lst es] = [.lst es]) (hz : R T f [.nilz true] r) :
  Runs T f [vOf o es.length] σ r σ := by
 cases o with
 | none => exact hz.runs σ
 | some id => exact R.lent (m := 3) p1 p2 p3 rfl hf hno hfl (be (yS E h1 ho 0) rfl) hR
theorem R.nrm {f : Nat} {args args' : List AV} {r : AV} (h1 : T.prim f = none) (h2 : T.ext f = none) (h5 : T.opened f = false) (hi : AV.idfree.idfrees args = true) (hi' : AV.idfree.idfrees args' = true) (hn : AV.norm.norms args = AV.norm.norms args') (h : R T f args' r) : R T f args r := by
 obtain ⟨k, hk⟩ := h
 cases k with
 | zero => have := hk ⟨.nil, 0⟩; unfold aF at this; cases this
 | succ k =>
  refine ⟨k + 1, fun σ => ?_⟩
  have e := hk σ
  unfold aF at e |-
  simp only [fv, h1, h2, h5, hi, hi', hn] at e |-
  exact e
theorem len_ownA (ht : T.ty t = some (.slice e)) {n : Nat} {o : Option Nat} (ho : OwnA e h n es o) : ak T h .len [t] [vOf o es.length] = some (.i .i64 (es.length : Nat)) := by
 cases o with
 | none =>
  have he : es = [] := ho
  subst he
  exact yQ ht
 | some id => exact lV ht id 0 es.length none
end
theorem R.mkH {T : Tab} {f : Nat} {args : List AV} {r : AV} {fn : Func} {c : Code} (h1 : T.prim f = none) (h2 : fv T f args = none) (h3 : T.fn f = some fn) (h4 : fn.body = some c) (h5 : T.opened f = true) (hm : T.mode f = 3) (h6 : AV.idfree.idfrees args = true) (h7 : AV.norm.norms args = args) {an : AN}
  (hv : bR (av T) T fn c an args ⟨.nil, 0⟩ (fun r1 σ1 => oZ T σ1 r1 (fun r2 => r2 = r))) : R T f args r := by
 obtain ⟨k, r1, σ1, e1, m, r2, e2, rfl⟩ := di hv
 refine ⟨max k m + 1, fun σ => ?_⟩
 have e1' := gO (m := max k m) (aP k (max k m) (Nat.le_max_left _ _)) (Nat.le_max_left _ _) e1
 have e2' := fW m (max k m + 1) _ _ (by omega) e2
 have b : (Nat.beq 3 3 && true) = true := rfl
 unfold aF
 simp only [h1, h2, h3, h4, h5, hm, h6, h7, b, e1', e2']
def lq (P : Prims) (T : Tab) (t : Nat) (a0 : AV) (Q : AV -> AS -> Prop) : Prop :=
 P.oV 4 (af T .eql t true a0 (.nilz true)) fun t4 =>
 P.oI t4 (Q (.nilz true) ⟨Tr.nil, 0⟩)
 (P.oV 5 (dY T t 0 []) fun t5 =>
  P.oM 7 (aI T ⟨Tr.nil, 0⟩ t t t5 a0) fun t7 sx1 =>
  Q t7 sx1)
section
variable {T : Tab} {t e z by_ : Nat} {ag : Bool} {es : List AV}
theorem xa (E : RowT T t e z by_ ag) (h : RowE z ag es) (hne : es ≠ []) (hs : cd es.length by_ = true) (K : AV -> AS -> Prop) :
  lq (av T) T t (.lst es) K = K (.sl 0 0 es.length none) ⟨Tr.nil.put 0 (some (.cells (aJ es) e true)), 1⟩ := by
 obtain ⟨zv, hzv⟩ := Option.isSome_iff_exists.1 E.zr
 obtain ⟨d, hd⟩ : ∃ d, T.ty e = some d := by
  have := E.ag
  cases hq : T.ty e with
  | none => rw [hq] at this; cases this
  | some d => exact ⟨d, rfl⟩
 cases es with
 | nil => exact absurd rfl hne
 | cons a l =>
 have h1 : af T .eql t true (.lst (a :: l)) (.nilz true) = some (.b false) := by
  simp only [af, E.ty, kf, mQ, Option.map_some, Bool.not_true]
 have h2 : dY T t 0 [] = some (.nilz false) := by
  simp only [dY, E.ty, E.sz, hzv, hd, Nat.zero_mul, gy, dF, AV.idfree.idfrees]
  try rfl
 have ap := appA (o := none) (h := Tr.nil) (n := 0) (es := []) E rfl RowE.nil h (by simp) (by rw [List.length_nil, Nat.zero_add]; exact hs)
 have h3 : aI T ⟨Tr.nil, 0⟩ t t (.nilz false) (.lst (a :: l)) = some (.sl 0 0 (a :: l).length none, ⟨Tr.nil.put 0 (some (.cells (aJ (a :: l)) e true)), 1⟩) := by
  have nr := lI (h := Tr.nil) h
  rw [List.length_cons] at hs nr
  unfold aI
  simp only [E.ty, E.sz, E.bytes, hzv, iA, List.length_cons, nr, hs, hP, List.nil_append]
 unfold lq
 dsimp only [av]
 rw [h1, aa, ay, h2, aa, h3, aZ]
theorem vU {f : Nat} {fn : Func} (E : RowT T t e z by_ ag) (h : RowE z ag es) (hne : es ≠ []) (hs : cd es.length by_ = true) (h1 : T.prim f = none) (h2 : fv T f [.lst es] = none) (h3 : T.fn f = some fn) (h4 : fn.body = some (bL fn)) (h5 : T.opened f = true) (hm : T.mode f = 1)
  (hw : ∀ (P : Prims) (a : AV) (Q : AV -> AS -> Prop), lq P T t a Q = bR P T fn (bL fn) fY [a] ⟨.nil, 0⟩ Q) : RA T f [.lst es] es.length (.cells (aJ es) e true) := by
 refine RA.mk (an := fY) h1 h2 h3 h4 h5 hm rfl rfl h.free ?_
 rw [<- hw, xa E h hne hs]
 exact ⟨0, rfl, by simp [Tr.get_put]⟩
theorem sC {α : Type} {enc : α -> AV} {l : List α} {f : Nat} {fn : Func} (E : El T enc t e z by_) (hs : cd l.length by_ = true) (h1 : T.prim f = none) (h2 : T.ext f = some eD) (h3 : T.fn f = some fn) (h4 : fn.body = some (bL fn)) (h5 : T.opened f = true) (hm : T.mode f = 1)
  (hw : ∀ (P : Prims) (a : AV) (Q : AV -> AS -> Prop), lq P T t a Q = bR P T fn (bL fn) fY [a] ⟨.nil, 0⟩ Q) (d n : Nat) (K : AV -> Option AB -> Prop) :
  oA T d f [.lst (l.map enc)] n K = K (cA l n) (wy enc e l) := by
 cases l with
 | nil => exact (R.ext h1 (by unfold fv; rw [h2]; rfl)).eqA d n K
 | cons a l =>
  have := (vU (es := (a :: l).map enc) E.rowT (RowE.mapE E _) (by simp) (by rw [List.length_map]; exact hs) h1 (by unfold fv; rw [h2]; rfl) h3 h4 h5 hm hw).eqA d n K
  rw [this, List.length_map, <- cz]; rfl
theorem vR {α : Type} {enc : α -> AV} {l : List α} {f : Nat} {fn : Func} (E : El T enc t e z by_) (hs : cd l.length by_ = true) (h1 : T.prim f = none) (h2 : T.ext f = some eD) (h3 : T.fn f = some fn) (h4 : fn.body = some (bL fn)) (h5 : T.opened f = true) (hm : T.mode f = 1)
  (hw : ∀ (P : Prims) (a : AV) (Q : AV -> AS -> Prop), lq P T t a Q = bR P T fn (bL fn) fY [a] ⟨.nil, 0⟩ Q) (σ : AS) :
  ∃ σ', (∀ d K, oC T d f [.lst (l.map enc)] σ K = K (cA l σ.n) σ') /\ (∀ j, j < σ.n -> σ'.h.get j = σ.h.get j) /\ σ.n <= σ'.n /\ (l ≠ [] -> σ.n < σ'.n) /\ (∀ encD : α -> AV, RowAt enc encD e σ'.h l σ.n 0) := by
 cases l with
 | nil =>
  exact ⟨σ, fun d K => (R.ext h1 (by unfold fv; rw [h2]; rfl)).eq d σ K, fun j _ => rfl, Nat.le_refl _, fun q => absurd rfl q, fun _ q => absurd rfl q⟩
 | cons a l =>
  have r := vU (es := (a :: l).map enc) E.rowT (RowE.mapE E _) (by simp) (by rw [List.length_map]; exact hs) h1 (by unfold fv; rw [h2]; rfl) h3 h4 h5 hm hw
  refine ⟨⟨σ.h.put σ.n (some (.cells (aJ ((a :: l).map enc)) e true)), σ.n + 1⟩, fun d K => ?_, fun j hj => by dsimp only; rw [Tr.get_put, if_neg (by omega)], Nat.le_succ _, fun _ => Nat.lt_succ_self _, fun encD _ => by dsimp only; rw [Tr.get_put, if_pos rfl, <- cz]; rfl⟩
  rw [r.eqC, List.length_map]; rfl
end
end Go.Proofs.YtmfhmlhaofpeiaaGreatDoor.Ev
