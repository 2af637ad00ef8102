/- Texts of this session's, one behind the other. -/
import Derived.Test.YtmfhmlhaofpeiaaGreatDoorEv1
import Derived.Test.YtmfhmlhaofpeiaaGreatDoorEv2
import Derived.Test.YtmfhmlhaofpeiaaGreatDoorEv3
import Derived.Test.YtmfhmlhaofpeiaaGreatDoorEv4
import Derived.Test.YtmfhmlhaofpeiaaGreatDoorSh
import Derived.Test.YtmfhmlhaofpeiaaGreatDoorEvX
import Derived.Test.YtmfhmlhaofpeiaaGreatDoorEvT
import Derived.Test.YtmfhmlhaofpeiaaGreatDoorEvTy
import Derived.Test.YtmfhmlhaofpeiaaGreatDoorEvF
import Derived.Test.YtmfhmlhaofpeiaaGreatDoorV0
import Derived.Test.YtmfhmlhaofpeiaaGreatDoorOp
import Derived.Test.YtmfhmlhaofpeiaaGreatDoorV6
import Derived.Test.YtmfhmlhaofpeiaaGreatDoorEvG
import Derived.Test.YtmfhmlhaofpeiaaGreatDoorEvLg
import Derived.Test.YtmfhmlhaofpeiaaGreatDoorEvLh
import Derived.Test.YtmfhmlhaofpeiaaGreatDoorEvLi
import Derived.Test.YtmfhmlhaofpeiaaGreatDoorEvFe
import Derived.Test.YtmfhmlhaofpeiaaGreatDoorEvFf
import Derived.Test.YtmfhmlhaofpeiaaGreatDoorEvFd
import Derived.Test.YtmfhmlhaofpeiaaGreatDoorEvFb
import Derived.Test.YtmfhmlhaofpeiaaGreatDoorEvFc
import Derived.Test.YtmfhmlhaofpeiaaGreatDoorW3
namespace Go.Proofs.YtmfhmlhaofpeiaaGreatDoor.Ev
open Go Go.RowKit
set_option linter.unusedSimpArgs false
set_option linter.unusedVariables false
set_option maxRecDepth 100000
theorem gE (v : Val) : fI v = true ↔ scB v = true /\ (v.kind ≠ 4 -> v.list = []) /\ (v.kind ≠ 5 -> v.fields = []) /\ v.list.length <= 64 /\ v.fields.length <= 64 := by
 unfold fI
 simp only [Bool.and_eq_true, Bool.not_eq_true', Bool.and_eq_false_iff, Bool.not_eq_false', decide_eq_true_eq, decide_eq_false_iff_not]
 constructor
 ·rintro ⟨⟨⟨⟨h1, h2⟩, h3⟩, h4⟩, h5⟩
  exact ⟨h1, fun k => List.eq_nil_of_length_eq_zero (by omega), fun k => List.eq_nil_of_length_eq_zero (by omega), h4, h5⟩
 ·rintro ⟨h1, h2, h3, h4, h5⟩
  refine ⟨⟨⟨⟨h1, ?_⟩, ?_⟩, h4⟩, h5⟩
  ·by_cases k : v.kind = 4
   ·exact .inl k
   ·rw [h2 k]; exact .inr (by simp)
  ·by_cases k : v.kind = 5
   ·exact .inl k
   ·rw [h3 k]; exact .inr (by simp)
def UpF (l : List Fld) : Prop := l.Pairwise (fun a b => ltF a b = true)
theorem UpF.ord {l : List Fld} (h : UpF l) : ∀ i, i < l.length -> kr l i = true := by
 intro i hi
 unfold kr
 by_cases h0 : i = 0
 ·rw [decide_eq_true h0, Bool.true_or]
 ·have := (List.pairwise_iff_getElem.1 h) (i - 1) i (by omega) hi (by omega)
  rw [List.getD_eq_getElem?_getD, List.getD_eq_getElem?_getD, List.getElem?_eq_getElem hi, List.getElem?_eq_getElem (show i - 1 < l.length by omega)]
  unfold ltF at this
  simp only [Option.getD_some, this, Bool.or_true]
theorem UpF.of {l : List Fld} (h : ∀ i, i < l.length -> kr l i = true) : UpF l := by
 unfold UpF
 rw [List.pairwise_iff_getElem]
 intro i j hi hj hij
 have := ord_lt h i j hij hj
 rw [List.getD_eq_getElem?_getD, List.getD_eq_getElem?_getD, List.getElem?_eq_getElem hi, List.getElem?_eq_getElem hj] at this
 exact this
theorem UpF.dif {l : List Fld} (h : UpF l) : Dif l := ye h.ord
theorem UpF.srt {l : List Fld} (h : UpF l) : Srt ltF l := List.Pairwise.imp (fun {a b} e => mY _ _ e) h
theorem cM {k : Nat} {v : Val} : aF (k + 1) v = true ↔ fI v = true /\ (∀ x ∈ v.list, aF k x = true) /\ (∀ f ∈ v.fields, nmB f.name = true /\ aF k f.v = true) /\ UpF v.fields := by
 rw [aF]
 simp only [Bool.and_eq_true, List.all_eq_true, List.mem_range]
 constructor
 ·rintro ⟨⟨h1, h2⟩, h3⟩
  refine ⟨h1, h2, fun f hf => ?_, UpF.of (fun i hi => (h3 i hi).1.2)⟩
  obtain ⟨i, hi, rfl⟩ := List.getElem_of_mem hf
  have := h3 i hi
  rw [List.getD_eq_getElem?_getD, List.getElem?_eq_getElem hi] at this
  exact ⟨this.1.1, this.2⟩
 ·rintro ⟨h1, h2, h3, h4⟩
  refine ⟨⟨h1, h2⟩, fun i hi => ?_⟩
  have hm : v.fields.getD i default ∈ v.fields := aS hi
  exact ⟨⟨(h3 _ hm).1, h4.ord i hi⟩, (h3 _ hm).2⟩
theorem ka : ∀ (k : Nat) (v : Val), aF k v = true -> aF (k + 1) v = true
 | 0, v, h => by rw [aF] at h; cases h
 | k + 1, v, h => by
  obtain ⟨h1, h2, h3, h4⟩ := cM.1 h
  exact cM.2 ⟨h1, fun x hx => ka k x (h2 x hx), fun f hf => ⟨(h3 f hf).1, ka k _ (h3 f hf).2⟩, h4⟩
theorem rU : ∀ (q : List XStep) (k : Nat) (v w : Val), aF k v = true -> dS v q = some w -> aF k w = true
 | [], k, v, w, h, hq => by rw [dD] at hq; injection hq with hq; exact hq ▸ h
 | x :: q, k, v, w, h, hq => by
  cases hs : br v x with
  | none => rw [cj hs] at hq; cases hq
  | some u =>
   rw [bJ hs] at hq
   cases k with
   | zero => rw [aF] at h; cases h
   | succ k => exact ka k w (rU q k u w (jp h hs) hq)
theorem scB_F (v : Val) (l : List Fld) : scB (v.withF l) = scB v := rfl
theorem scB_L (v : Val) (l : List Val) : scB (v.withL l) = scB v := rfl
theorem fp (v : Val) (l : List Fld) : (v.withF l).fields = l := rfl
theorem pU (v : Val) (l : List Fld) : (v.withF l).list = v.list := rfl
theorem dT (v : Val) (l : List Val) : (v.withL l).list = l := rfl
theorem lX (v : Val) (l : List Val) : (v.withL l).fields = v.fields := rfl
theorem fN (v : Val) (l : List Fld) : (v.withF l).kind = v.kind := rfl
theorem lF (v : Val) (l : List Val) : (v.withL l).kind = v.kind := rfl
theorem up_set {l : List Fld} {i : Nat} {w : Val} (h : UpF l) (hi : i < l.length) : UpF (l.set i (.mk (l.getD i default).name w)) := by
 unfold UpF at h |-
 rw [List.pairwise_iff_getElem] at h |-
 have e : ∀ (j : Nat) (hj : j < (l.set i (.mk (l.getD i default).name w)).length) (hj' : j < l.length), ((l.set i (.mk (l.getD i default).name w))[j]).name = (l[j]).name := by
  intro j hj hj'
  rw [List.getElem_set]
  split
  ·rename_i q; subst q; rw [List.getD_eq_getElem?_getD, List.getElem?_eq_getElem hi]; rfl
  ·rfl
 intro a b ha hb hab
 have ha' : a < l.length := by rwa [List.length_set] at ha
 have hb' : b < l.length := by rwa [List.length_set] at hb
 have := h a b ha' hb' hab
 unfold ltF at this |-
 rw [e a ha ha', e b hb hb']; exact this
theorem head_F {v : Val} {l : List Fld} (h : fI v = true) (hl : l.length <= v.fields.length) : fI (v.withF l) = true := by
 obtain ⟨h1, h2, h3, h4, h5⟩ := (gE v).1 h
 refine (gE _).2 ⟨by rw [scB_F]; exact h1, h2, fun k => ?_, h4, by rw [fp]; omega⟩
 have := h3 k; rw [this, List.length_nil] at hl
 exact List.eq_nil_of_length_eq_zero (by rw [fp]; omega)
theorem head_L {v : Val} {l : List Val} (h : fI v = true) (hl : l.length <= v.list.length) : fI (v.withL l) = true := by
 obtain ⟨h1, h2, h3, h4, h5⟩ := (gE v).1 h
 refine (gE _).2 ⟨by rw [scB_L]; exact h1, fun k => ?_, h3, by rw [dT]; omega, h5⟩
 have := h2 k; rw [this, List.length_nil] at hl
 exact List.eq_nil_of_length_eq_zero (by rw [dT]; omega)
theorem uP : ∀ (p : List XStep) (k : Nat) (v : Val), aF k v = true -> (dS v p).isSome = true -> aF k (rmV v p) = true
 | [], k, v, h, _ => by rw [rmV]; exact h
 | [x], k, v, h, hg => by
  obtain ⟨h0, w, hs, hw, a1, a2⟩ := cx hg
  cases k with
  | zero => rw [aF] at h; cases h
  | succ k =>
   obtain ⟨h1, h2, h3, h4⟩ := cM.1 h
   rw [jv]
   split
   ·exact cM.2 ⟨head_F h1 (List.length_eraseIdx_le ..), h2, fun f hf => h3 f (gt hf), List.Pairwise.sublist (List.eraseIdx_sublist ..) h4⟩
   ·exact cM.2 ⟨head_L h1 (List.length_eraseIdx_le ..), fun f hf => h2 f (gt hf), h3, h4⟩
 | x :: y :: p, k, v, h, hg => by
  obtain ⟨h0, w, hs, hw, a1, a2⟩ := cx hg
  cases k with
  | zero => rw [aF] at h; cases h
  | succ k =>
   obtain ⟨h1, h2, h3, h4⟩ := cM.1 h
   have ih := uP (y :: p) k w (jp h hs) hw
   rw [gK]
   split
   ·rename_i kx
    obtain ⟨e, hl⟩ := a1 kx
    rw [<- e]
    refine cM.2 ⟨head_F h1 (by rw [List.length_set]; exact Nat.le_refl _), h2, fun f hf => ?_, up_set h4 hl⟩
    rcases List.mem_or_eq_of_mem_set hf with hf | rfl
    ·exact h3 f hf
    ·exact ⟨(h3 _ (aS hl)).1, ih⟩
   ·rename_i kx
    obtain ⟨e, hl⟩ := a2 kx
    rw [<- e]
    refine cM.2 ⟨head_L h1 (by rw [List.length_set]; exact Nat.le_refl _), fun f hf => ?_, h3, h4⟩
    rcases List.mem_or_eq_of_mem_set hf with hf | rfl
    ·exact h2 f hf
    ·exact ih
theorem qo {x : Val} : ∀ {l : List Val}, x ∈ l -> ct x <= bR l
 | a :: l, h => by
  rw [bR]
  rcases List.mem_cons.1 h with rfl | h
  ·omega
  ·have := qo h; omega
theorem qp {x : Fld} : ∀ {l : List Fld}, x ∈ l -> ct x.v <= bX l
 | a :: l, h => by
  rw [bX, kg]
  rcases List.mem_cons.1 h with rfl | h
  ·omega
  ·have := qp h; omega
theorem zW {v w : Val} {x : XStep} (h : br v x = some w) : ct w <= ct v := by
 unfold br at h
 split at h
 ·cases h
 ·rename_i h0
  have hb := gy (v := v) (x := x) (by omega)
  injection h with h; subst h
  rw [dV v]
  split
  ·rename_i k; have := hb.1 k; have := qp (aS (l := v.fields) (show (chI v x).toNat < v.fields.length by omega)); omega
  ·rename_i k; have := hb.2 k; have := qo (aS (l := v.list) (show (chI v x).toNat < v.list.length by omega)); omega
theorem uI : ∀ (q : List XStep) (v w : Val), dS v q = some w -> ct w <= ct v
 | [], v, w, hq => by rw [dD] at hq; injection hq with hq; rw [hq]; exact Nat.le_refl _
 | x :: q, v, w, hq => by
  cases hs : br v x with
  | none => rw [cj hs] at hq; cases hq
  | some u => rw [bJ hs] at hq; exact Nat.le_trans (uI q u w hq) (zW hs)
theorem wO {l : List Val} {i : Nat} {w : Val} (hi : i < l.length) (h : ct w <= ct (l.getD i default)) : bR (l.set i w) <= bR l := by
 have e2 : l = l.take i ++ (l.getD i default :: l.drop (i + 1)) := by rw [<- dc hi, List.take_append_drop]
 have e3 : l.set i w = l.take i ++ (w :: l.drop (i + 1)) := kR hi
 rw [e3, gI, bR]
 conv => rhs; rw [e2, gI, bR]
 omega
theorem wP {l : List Fld} {i : Nat} {w : Fld} (hi : i < l.length) (h : ct w.v <= ct (l.getD i default).v) : bX (l.set i w) <= bX l := by
 have e2 : l = l.take i ++ (l.getD i default :: l.drop (i + 1)) := by rw [<- dc hi, List.take_append_drop]
 have e3 : l.set i w = l.take i ++ (w :: l.drop (i + 1)) := kR hi
 rw [e3, gJ, bX]
 conv => rhs; rw [e2, gJ, bX]
 rw [kg, kg]; omega
theorem zX {l : List Val} {i : Nat} : bR (l.eraseIdx i) <= bR l := by
 by_cases hi : i < l.length
 ·have e2 : l = l.take i ++ (l.getD i default :: l.drop (i + 1)) := by rw [<- dc hi, List.take_append_drop]
  rw [List.eraseIdx_eq_take_drop_succ, gI]
  conv => rhs; rw [e2, gI, bR]
  omega
 ·rw [List.eraseIdx_of_length_le (by omega)]; exact Nat.le_refl _
theorem zY {l : List Fld} {i : Nat} : bX (l.eraseIdx i) <= bX l := by
 by_cases hi : i < l.length
 ·have e2 : l = l.take i ++ (l.getD i default :: l.drop (i + 1)) := by rw [<- dc hi, List.take_append_drop]
  rw [List.eraseIdx_eq_take_drop_succ, gJ]
  conv => rhs; rw [e2, gJ, bX]
  omega
 ·rw [List.eraseIdx_of_length_le (by omega)]; exact Nat.le_refl _
theorem xS : ∀ (p : List XStep) (v : Val), (dS v p).isSome = true -> ct (rmV v p) <= ct v
 | [], v, _ => by rw [rmV]; exact Nat.le_refl _
 | [x], v, hg => by
  rw [jv, dV v]
  split
  ·rw [dV, pU, fp]; have := zY (l := v.fields) (i := (chI v x).toNat); omega
  ·rw [dV, dT, lX]; have := zX (l := v.list) (i := (chI v x).toNat); omega
 | x :: y :: p, v, hg => by
  obtain ⟨h0, w, hs, hw, a1, a2⟩ := cx hg
  have ih := xS (y :: p) w hw
  rw [gK, dV v]
  split
  ·rename_i kx
   obtain ⟨e, hl⟩ := a1 kx
   rw [<- e, dV, pU, fp]
   have := wP (w := .mk (v.fields.getD (chI v x).toNat default).name (rmV w (y :: p))) hl (by rw [<- e]; exact ih)
   omega
  ·rename_i kx
   obtain ⟨e, hl⟩ := a2 kx
   rw [<- e, dV, dT, lX]
   have := wO (w := rmV w (y :: p)) hl (by rw [<- e]; exact ih)
   omega
theorem lf_size (k : Nat) : ∀ (v : Val) (m : Int), SizeOf.sizeOf v <= k -> 0 <= lfV v m -> lfV v m + (ct v : Nat) <= m := by
 induction k with
 | zero => intro v m h; obtain ⟨_, _, _, _, _⟩ := v; simp only [Val.mk.sizeOf_spec] at h; omega
 | succ k ih =>
  intro v m hsz h
  rw [qK] at h |-
  rw [dV]
  have A : ∀ (l : List Val) (m : Int), (∀ x ∈ l, SizeOf.sizeOf x <= k) -> 0 <= cI l m -> cI l m + (bR l : Nat) <= m := by
   intro l
   induction l with
   | nil => intro m _ h; rw [cI] at h |-; rw [bR]; omega
   | cons x l il =>
    intro m hx h
    have h0 := (mz _ _ h).1
    rw [cI, if_pos h0] at h |-
    have h1 := il _ (fun y hy => hx y (List.mem_cons_of_mem _ hy)) h
    have := ih x m (hx x (List.mem_cons_self ..)) (mz _ _ h).1
    rw [bR]; omega
  have B : ∀ (l : List Fld) (m : Int), (∀ x ∈ l, SizeOf.sizeOf x.v <= k) -> 0 <= cR l m -> cR l m + (bX l : Nat) <= m := by
   intro l
   induction l with
   | nil => intro m _ h; rw [cR] at h |-; rw [bX]; omega
   | cons x l il =>
    intro m hx h
    have h0 := (kz _ _ h).1
    rw [cR, if_pos h0] at h |-
    have h1 := il _ (fun y hy => hx y (List.mem_cons_of_mem _ hy)) h
    have := (kz _ _ h).1
    rw [lP] at this h h1 |-
    have := ih x.v (m - (x.name.length : Nat)) (hx x (List.mem_cons_self ..)) this
    rw [bX, kg]; omega
  have hb := (kz _ _ h).1
  have b := B v.fields _ (fun x hx => by have := cr v hx; omega) h
  have a := A v.list _ (fun x hx => by have := dp v hx; omega) hb
  omega
theorem few_size {v : Val} (h : fewV v = true) : ct v <= 2000 := by
 have h0 : 0 <= lfV v 2000 := of_decide_eq_true h
 have := lf_size _ v 2000 (Nat.le_refl _) h0
 omega
theorem rX {n : Nat} (h : n <= 100000) : szW n = (n : Nat) := by unfold szW; rw [lW]; omega
theorem rS {v w : Val} (hv : ee v = true) (hs : ct v <= 100000) (hw : ct w <= ct v) (hl : aF 12 w = true) : ee w = true := by
 unfold ee at hv |-
 rw [Bool.and_eq_true, decide_eq_true_eq, rX hs] at hv
 rw [Bool.and_eq_true, decide_eq_true_eq, rX (by omega)]
 exact ⟨hl, by omega⟩
theorem pm {v u : Val} {s : XStep} (k1 : s.kind_ = 1) (hs : br v s = some u) : v.kind = 5 /\ ∃ A B, v.fields = A ++ Fld.mk s.name_ u :: B /\ A.length = (chI v s).toNat := by
 obtain ⟨h0, w, hw, -, a1, -⟩ := cx (p := []) (v := v) (x := s) (by rw [bJ hs, dD]; rfl)
 rw [hs] at hw; injection hw with hw; subst hw
 obtain ⟨e, hl⟩ := a1 k1
 have k5 : v.kind = 5 := by
  rw [oy k1] at hs
  by_cases h5 : v.kind = 5
  ·exact h5
  ·rw [if_neg h5] at hs; cases hs
 have hc : chI v s = cS (fun f : Fld => f.name == s.name_) v.fields := by unfold chI; rw [if_pos ⟨k1, k5⟩]
 obtain ⟨j, e1, e2, e3, -⟩ := nO (d := default) (show 0 <= cS (fun f : Fld => f.name == s.name_) v.fields by rw [<- hc]; exact h0)
 refine ⟨k5, v.fields.take (chI v s).toNat, v.fields.drop ((chI v s).toNat + 1), ?_, by rw [List.length_take]; omega⟩
 have ej : (chI v s).toNat = j := by rw [hc, e1]; rfl
 have hn : (v.fields.getD (chI v s).toNat default).name = s.name_ := by rw [ej]; simpa using e3
 rw [e, <- hn, zp, <- dc hl, List.take_append_drop]
theorem AE {A B : List Fld} {f : Fld} {i : Nat} (h : A.length = i) : (A ++ f :: B).eraseIdx i = A ++ B := by
 rw [List.eraseIdx_append_of_length_le (by omega), <- h, Nat.sub_self]; rfl
theorem set_midF {A B : List Fld} {f g : Fld} {i : Nat} (h : A.length = i) : (A ++ f :: B).set i g = A ++ g :: B := by
 rw [List.set_append_right _ _ (by omega), <- h, Nat.sub_self]; rfl
theorem zA {A B : List Fld} {f : Fld} (h : Dif (A ++ f :: B)) : (∀ g ∈ A ++ B, g.name ≠ f.name) /\ ∀ g : Fld, g.name = f.name -> Dif (A ++ g :: B) := by
 obtain ⟨h1, h2, h3⟩ := List.pairwise_append.1 h
 obtain ⟨h4, h5⟩ := List.pairwise_cons.1 h2
 refine ⟨fun g hg => ?_, fun g hg => ?_⟩
 ·rcases List.mem_append.1 hg with hg | hg
  ·exact h3 g hg f (List.mem_cons_self ..)
  ·exact (h4 g hg).symm
 ·refine List.pairwise_append.2 ⟨h1, List.pairwise_cons.2 ⟨fun b hb => by rw [hg]; exact h4 b hb, h5⟩, fun a ha b hb => ?_⟩
  rcases List.mem_cons.1 hb with rfl | hb
  ·rw [hg]; exact h3 a ha f (List.mem_cons_self ..)
  ·exact h3 a ha b (List.mem_cons_of_mem _ hb)
theorem yd {w : Val} {A B : List Fld} {nm : List UInt8} (k : w.kind = 5) (hn : ∀ g ∈ A ++ B, g.name ≠ nm) : (w.fields = A ++ B -> fC w nm = A ++ B) /\ ∀ g : Fld, g.name = nm -> w.fields = A ++ g :: B -> fC w nm = A ++ B := by
 have kf : ∀ g : Fld, g ∈ A ++ B -> dC nm g = true := fun g hg => by unfold dC; simp [hn g hg]
 refine ⟨fun e => ?_, fun g hg e => ?_⟩
 ·unfold fC; rw [if_pos k, e]; exact List.filter_eq_self.2 kf
 ·unfold fC; rw [if_pos k, e, List.filter_append, List.filter_cons_of_neg (by unfold dC; simp [hg]), List.filter_eq_self.2 (fun g hg => kf g (List.mem_append_left _ hg)), List.filter_eq_self.2 (fun g hg => kf g (List.mem_append_right _ hg))]
theorem map_eta {k : Nat} {v : Val} (h : aF k v = true) (k5 : v.kind = 5) : v = ci v.fields := by
 cases k with
 | zero => rw [aF] at h; cases h
 | succ k =>
  obtain ⟨h1, -, -, -⟩ := cM.1 h
  obtain ⟨h1, h2, -, -, -⟩ := (gE v).1 h1
  have hl := h2 (by omega)
  unfold scB at h1
  rw [if_neg (by omega), if_neg (by omega), if_neg (by omega), if_pos (by omega)] at h1
  simp only [Bool.and_eq_true, decide_eq_true_eq] at h1
  obtain ⟨hn, hs⟩ := h1
  have hs2 := List.eq_nil_of_length_eq_zero hs
  obtain ⟨a, b, c, d, e⟩ := v
  simp only [Val.kind, Val.n, Val.s, Val.list] at k5 hn hs2 hl
  subst k5; subst hn; subst hs2; subst hl; rfl
theorem list_eta {k : Nat} {v : Val} (h : aF k v = true) (k4 : v.kind = 4) : v = eO v.list := by
 cases k with
 | zero => rw [aF] at h; cases h
 | succ k =>
  obtain ⟨h1, -, -, -⟩ := cM.1 h
  obtain ⟨h1, -, h2, -, -⟩ := (gE v).1 h1
  have hl := h2 (by omega)
  unfold scB at h1
  rw [if_neg (by omega), if_neg (by omega), if_neg (by omega), if_pos (by omega)] at h1
  simp only [Bool.and_eq_true, decide_eq_true_eq] at h1
  obtain ⟨hn, hs⟩ := h1
  have hs2 := List.eq_nil_of_length_eq_zero hs
  obtain ⟨a, b, c, d, e⟩ := v
  simp only [Val.kind, Val.n, Val.s, Val.fields] at k4 hn hs2 hl
  subst k4; subst hn; subst hs2; subst hl; rfl
theorem rP {k : Nat} {v w u : Val} {nm : List UInt8} {A B : List Fld} (h : aF k v = true) (k5 : v.kind = 5) (hf : v.fields = A ++ .mk nm u :: B) (hw : fC w nm = A ++ B) : fa w nm u = v := by
 have hup : UpF v.fields := by
  cases k with
  | zero => rw [aF] at h; cases h
  | succ k => exact (cM.1 h).2.2.2
 have hp : (v.fields).Perm (A ++ B ++ [.mk nm u]) := by
  rw [hf]; exact List.perm_middle.trans (List.perm_append_singleton _ _).symm
 conv => rhs; rw [map_eta h k5]
 unfold fa
 rw [hw, <- nn (hup.dif.perm hp) hp hup.srt]
theorem chI_2 {v : Val} {s : XStep} (n1 : ¬ s.kind_ = 1) (k2 : s.kind_ = 2) (k4 : v.kind = 4) (hl : s.index_ < (v.list.length : Nat)) : chI v s = s.index_ := by unfold chI; rw [if_neg (fun q => n1 q.1), if_pos ⟨k2, k4, hl⟩]
theorem rm_step {k : Nat} {v u : Val} {s t : XStep} {p : List XStep} (hv : aF k v = true) (hk : s.kind_ = 1 ∨ s.kind_ = 2) (h0 : s.kind_ = 2 -> 0 <= s.index_) (hs : br v s = some u) :
  br (rmV v (s :: t :: p)) s = some (rmV u (t :: p)) /\ ¬ wrK (rmV v (s :: t :: p)) s /\ ¬ (s.kind_ = 2 /\ (((rmV v (s :: t :: p)).list.length : Nat) : Int) < s.index_) /\ fm (rmV v (s :: t :: p)) s u = v := by
 obtain ⟨c0, w, hw, -, a1, a2⟩ := cx (p := []) (v := v) (x := s) (by rw [bJ hs, dD]; rfl)
 rw [hs] at hw; injection hw with hw; subst hw
 rw [gK]
 rcases hk with k1 | k2
 ·obtain ⟨k5, A, B, hf, hA⟩ := pm k1 hs
  obtain ⟨e, hl⟩ := a1 k1
  rw [if_pos k1, <- e]
  have hn : (v.fields.getD (chI v s).toNat default).name = s.name_ := by
   rw [List.getD_eq_getElem?_getD, hf, List.getElem?_append_right (by omega), hA, Nat.sub_self]; rfl
  rw [hn]
  have hset : v.fields.set (chI v s).toNat (.mk s.name_ (rmV u (t :: p))) = A ++ .mk s.name_ (rmV u (t :: p)) :: B := by rw [hf]; exact set_midF hA
  rw [hset]
  have hdif : Dif v.fields := (lI hv).1
  rw [hf] at hdif
  obtain ⟨d1, d2⟩ := zA hdif
  refine ⟨?_, ?_, fun q => by omega, ?_⟩
  ·rw [oy k1, if_pos (by rw [fN]; exact k5)]
   refine (gC (d2 (.mk s.name_ (rmV u (t :: p))) rfl)).2 (List.mem_append_right _ (List.mem_cons_self ..))
  ·unfold wrK; rw [fN]; omega
  ·unfold fm; rw [if_pos k1]
   exact rP hv k5 hf ((yd (by rw [fN]; exact k5) d1).2 (.mk s.name_ (rmV u (t :: p))) rfl rfl)
 ·have n1 : ¬ s.kind_ = 1 := by omega
  obtain ⟨e, hl⟩ := a2 n1
  have hs' := hs
  rw [qh k2 (h0 k2)] at hs'
  have k4 : v.kind = 4 /\ s.index_ < (v.list.length : Nat) := by
   by_cases q : v.kind = 4 /\ s.index_ < (v.list.length : Nat)
   ·exact q
   ·rw [if_neg q] at hs'; cases hs'
  have hc : chI v s = s.index_ := by unfold chI; rw [if_neg (fun q => n1 q.1), if_pos ⟨k2, k4⟩]
  rw [if_neg n1, <- e]
  have hlen : ((v.withL (v.list.set (chI v s).toNat (rmV u (t :: p)))).list.length : Nat) = v.list.length := by rw [dT, List.length_set]
  refine ⟨?_, ?_, fun q => by rw [hlen] at q; omega, ?_⟩
  ·rw [qh k2 (h0 k2), hlen, if_pos ⟨by rw [lF]; exact k4.1, k4.2⟩, dT, <- hc, eP hl]
  ·unfold wrK; rw [lF]; omega
  ·unfold fm; rw [if_neg n1]
   have hc2 : chI (v.withL (v.list.set (chI v s).toNat (rmV u (t :: p)))) s = s.index_ := chI_2 n1 k2 (by rw [lF]; exact k4.1) (by have := k4.2; rw [dT, List.length_set]; exact this)
   rw [hc2, if_neg (by omega), dT, hc, List.set_set]
   have : v.list.set s.index_.toNat u = v.list := by
    rw [hc] at e hl
    rw [e, List.getD_eq_getElem?_getD, List.getElem?_eq_getElem hl]
    exact List.set_getElem_self hl
   rw [this]; exact (list_eta hv k4.1).symm
theorem rm_last {k : Nat} {v u : Val} {s : XStep} (hv : aF k v = true) (k1 : s.kind_ = 1) (hs : br v s = some u) :
  br (rmV v [s]) s = none /\ ¬ wrK (rmV v [s]) s /\ fm (rmV v [s]) s u = v := by
 obtain ⟨k5, A, B, hf, hA⟩ := pm k1 hs
 have hdif : Dif v.fields := (lI hv).1
 rw [hf] at hdif
 obtain ⟨d1, d2⟩ := zA hdif
 rw [jv, if_pos k1]
 have her : v.fields.eraseIdx (chI v s).toNat = A ++ B := by rw [hf]; exact AE hA
 rw [her]
 refine ⟨?_, ?_, ?_⟩
 ·rw [oy k1, if_pos (by rw [fN]; exact k5), fp]
  unfold jS
  rw [List.find?_eq_none.2 (fun g hg => by have := d1 g hg; exact fun q => this (beq_iff_eq.1 q))]; rfl
 ·unfold wrK; rw [fN]; omega
 ·unfold fm; rw [if_pos k1]
  exact rP hv k5 hf ((yd (by rw [fN]; exact k5) d1).1 rfl)
def PlainF (p : List XStep) : Prop := (∀ s ∈ p, (s.kind_ = 1 ∨ s.kind_ = 2) /\ (s.kind_ = 2 -> 0 <= s.index_)) /\ ∃ q s, p = q ++ [s] /\ s.kind_ = 1
theorem PlainF.tail {s t : XStep} {p : List XStep} (h : PlainF (s :: t :: p)) : PlainF (t :: p) := by
 obtain ⟨h1, q, a, e, k⟩ := h
 refine ⟨fun b hb => h1 b (List.mem_cons_of_mem _ hb), ?_⟩
 cases q with
 | nil => rw [List.nil_append] at e; injection e with e1 e2; cases e2
 | cons b q => rw [List.cons_append] at e; injection e with e1 e2; exact ⟨q, a, e2, k⟩
theorem PlainF.one {s : XStep} (h : PlainF [s]) : s.kind_ = 1 := by
 obtain ⟨h1, q, a, e, k⟩ := h
 cases q with
 | nil => rw [List.nil_append] at e; injection e with e1 e2; rw [e1]; exact k
 | cons b q => rw [List.cons_append] at e; injection e with e1 e2; cases q <;> cases e2
theorem get_rm : ∀ (p : List XStep) (k : Nat) (v x : Val), PlainF p -> aF k v = true -> dS v p = some x -> dS (rmV v p) p = none /\ dX (rmV v p) p x = .ok v
 | [], k, v, x, h, _, _ => by obtain ⟨_, q, s, e, _⟩ := h; cases q <;> cases e
 | [s], k, v, x, h, hv, hg => by
  cases hs : br v s with
  | none => rw [cj hs] at hg; cases hg
  | some u =>
   rw [bJ hs, dD] at hg; injection hg with hg; subst hg
   obtain ⟨g1, g2, g3⟩ := rm_last hv h.one hs
   have k1 := h.one
   exact ⟨cj g1, by rw [pE g2 (fun q => by omega) (iM _ _) (fun q => by omega), g3]⟩
 | s :: t :: p, k, v, x, h, hv, hg => by
  cases hs : br v s with
  | none => rw [cj hs] at hg; cases hg
  | some u =>
   rw [bJ hs] at hg
   have hk := h.1 s (List.mem_cons_self ..)
   obtain ⟨g1, g2, g3, g4⟩ := rm_step (t := t) (p := p) hv hk.1 hk.2 hs
   cases k with
   | zero => rw [aF] at hv; cases hv
   | succ k =>
    have ih := get_rm (t :: p) k u x h.tail (jp hv hs) hg
    have ho : gP (rmV v (s :: t :: p)) s = rmV u (t :: p) := by
     have g1' := g1
     unfold br at g1'
     split at g1'
     ·cases g1'
     ·rename_i h0
      unfold gP; rw [if_pos (by omega)]; injection g1'
    exact ⟨by rw [bJ g1]; exact ih.1, by rw [pE g2 g3 (ho ▸ ih.2) (fun q => by omega), g4]⟩
theorem Af {p : List XStep} (h1 : dw p = true) (h2 : lL p = true) (h3 : 0 < p.length) (h4 : (p.getD (p.length - 1) default).kind_ = 1) : PlainF p := by
 refine ⟨fun s hs => ?_, p.dropLast, p.getD (p.length - 1) default, ?_, h4⟩
 ·have a := dy ((jx h1).2 s hs)
  have b := uY h2 s hs
  exact ⟨by omega, fun k => (a.2.2.2.2 k).1⟩
 ·have hne : p ≠ [] := fun q => by rw [q] at h3; cases h3
  have : p.getD (p.length - 1) default = p.getLast hne := by
   rw [List.getD_eq_getElem?_getD, List.getElem?_eq_getElem (by omega), List.getLast_eq_getElem]; rfl
  rw [this, List.dropLast_concat_getLast]
theorem law_PathRemoves (v : Val) (p : List XStep) (ov : okV v) (op : p.length * 48 <= 140737488351232 /\ ∀ x ∈ p, bz x) : R T0 10 [ak v, .lst (p.map am)] (.b true) := by
 have hp : p.length <= 140737488351232 := by have := op.1; omega
 refine r10 _ _ (by rw [ax]; rfl) (by rw [ax]; rfl) ?_
 unfold w10
 dsimp only [av]
 rw [bu]
 simp only [Nat.zero_add]
 have g0 : (Tr.nil.put 0 (some (.cells (ak v).cells 35 false)) : Tr AB).get 0 = some (.cells (ak v).cells 35 false) := ah _ _ _
 generalize (Tr.nil.put 0 (some (.cells (ak v).cells 35 false)) : Tr AB) = h at g0 |-
 rw [du g0, aa, e22 ov, cN, aa]
 cases h1 : fewV v with
 | false => rw [Bool.not_false, fJ, be, aa, fJ, be, aa, vO, be, aa, fJ, be, aa, fJ, be, aa, aD, e12, jW]
 | true =>
 rw [Bool.not_true, lw, e11 hp op.2, cN, aa]
 dsimp only
 rw [bY, aa]
 cases h2 : ub p with
 | false => rw [Bool.not_false, fJ, be, aa, vO, be, aa, fJ, be, aa, fJ, be, aa, aD, e12, jW]
 | true =>
 have hl := fewB_len h2
 rw [Bool.not_true, lw, dK, aa, bZ, aa, List.length_map]
 dsimp only
 rw [bY, aa]
 by_cases h3 : ((p.length : Nat) : Int) = 0
 ·rw [decide_eq_true h3, vO, be, aa, fJ, be, aa, fJ, be, aa, aD, e12, jW]
 have h3' : 0 < p.length := by omega
 have hne : p ≠ [] := fun q => by rw [q] at h3'; cases h3'
 have i1 : ((p.length : Nat) : Int) - 1 = ((p.length - 1 : Nat) : Int) := by omega
 have ia := vE (enc := am) (l := p) (k := .i64) (n := ((p.length - 1 : Nat) : Int)) (by omega) (by omega) bw
 rw [Int.toNat_natCast] at ia
 rw [decide_eq_false h3, gff_8, dK, aa, bB, List.length_map, cL (by omega) (by omega), aa, i1, ia, aa, oX, aa, fS, cC, aa, eb, aa]
 dsimp only
 rw [bY, aa]
 by_cases h4 : (p.getD (p.length - 1) default).kind_ = 1
 case neg => rw [decide_eq_true h4, fJ, be, aa, fJ, be, aa, aD, e12, jW]
 rw [decide_eq_false (fun q => q h4), lw, e31 hp, cN, aa]
 dsimp only
 rw [bY, aa]
 cases h5 : lL p with
 | false => rw [Bool.not_false, fJ, be, aa, aD, e12, jW]
 | true =>
 rw [Bool.not_true, lw, du g0, aa, e30 ov, cN, aa]
 dsimp only
 rw [bY, aa]
 cases h6 : ee v with
 | false => rw [Bool.not_false, aD, e12, jW]
 | true =>
 have sv := fewV_sm ov h1
 have hsz := few_size h1
 rw [Bool.not_true, aA, du g0, aa, e23 sv hp op.2]
 rcases qU v p with ⟨x, hr, hb, hg⟩ | ⟨hr, hn⟩
 ·
  have sx := yX sv hg
  have hvl : aF 12 v = true := by unfold ee at h6; rw [Bool.and_eq_true] at h6; exact h6.1
  have hgs : (dS v p).isSome = true := by rw [hg]; rfl
  have hpf := Af hb h5 h3' h4
  obtain ⟨hgone, hput⟩ := get_rm p 12 v x hpf hvl hg
  have sw := rmV_sm p.length p v (Nat.le_refl _) sv hgs
  have hwv := rS h6 (by omega) (xS p v hgs) (uP p 12 v hvl hgs)
  have hxv := rS h6 (by omega) (uI p v x hg) (rU p 12 v x hvl hg)
  have hrm : rmO v p = some (rmV v p) := by unfold rmO; rw [if_pos ⟨hb, hgs, hne⟩]
  have hset : rJ (rmV v p) p x = .ok v := xV ⟨hb, hwv, hxv⟩ hput h6
  have hgr : qV (rmV v p) p = .tup [ak default, .b false] := by unfold qV; rw [if_pos hb, hgone]; rfl
  rw [hr, ex0, aa, ex1, aa, bu, dM rfl (ah _ _ _), aH]
  dsimp only
  have b0 := ((ae (h.put 1 (some (.cells [.i .i64 0, .i .i64 0, .s [], .nilz true, .nilz true] 35 false))) (some (.cells (ak x).cells 35 false)) (show 0 ≠ 1 by omega)).trans (ae h _ (show 0 ≠ 1 by omega))).trans g0
  have b1 := ah (h.put 1 (some (.cells [.i .i64 0, .i .i64 0, .s [], .nilz true, .nilz true] 35 false))) 1 (some (.cells (ak x).cells 35 false))
  generalize (h.put 1 (some (.cells [.i .i64 0, .i .i64 0, .s [], .nilz true, .nilz true] 35 false))).put 1 (some (.cells (ak x).cells 35 false)) = H at b0 b1 |-
  rw [du b0, aa, e25 sv (by omega) op.2, hrm]
  show oV 57 (aI 0 (.tup [ak (rmV v p), .b true])) _
  rw [ex0, aa, show aI 1 (gtR (some (rmV v p))) = some (.b true) from rfl, aa, bu, dM rfl (ah _ _ _), aH]
  dsimp only
  simp only [Nat.reduceAdd]
  have c0 := ((ae (H.put 2 (some (.cells [.i .i64 0, .i .i64 0, .s [], .nilz true, .nilz true] 35 false))) (some (.cells (ak (rmV v p)).cells 35 false)) (show 0 ≠ 2 by omega)).trans (ae H _ (show 0 ≠ 2 by omega))).trans b0
  have c1 := ((ae (H.put 2 (some (.cells [.i .i64 0, .i .i64 0, .s [], .nilz true, .nilz true] 35 false))) (some (.cells (ak (rmV v p)).cells 35 false)) (show 1 ≠ 2 by omega)).trans (ae H _ (show 1 ≠ 2 by omega))).trans b1
  have c2 := ah (H.put 2 (some (.cells [.i .i64 0, .i .i64 0, .s [], .nilz true, .nilz true] 35 false))) 2 (some (.cells (ak (rmV v p)).cells 35 false))
  generalize (H.put 2 (some (.cells [.i .i64 0, .i .i64 0, .s [], .nilz true, .nilz true] 35 false))).put 2 (some (.cells (ak (rmV v p)).cells 35 false)) = G at c0 c1 c2 |-
  rw [th, aa, show (!(true == true)) = false from rfl, aA, cN, aa, Bool.not_true, aA, du c2, aa, e23 sw hp op.2, hgr, ex0, aa, ex1, aa, bu, dM rfl (ah _ _ _), aH]
  dsimp only
  simp only [Nat.reduceAdd]
  have d0 := ((ae (G.put 3 (some (.cells [.i .i64 0, .i .i64 0, .s [], .nilz true, .nilz true] 35 false))) (some (.cells (ak default).cells 35 false)) (show 0 ≠ 3 by omega)).trans (ae G _ (show 0 ≠ 3 by omega))).trans c0
  have d1 := ((ae (G.put 3 (some (.cells [.i .i64 0, .i .i64 0, .s [], .nilz true, .nilz true] 35 false))) (some (.cells (ak default).cells 35 false)) (show 1 ≠ 3 by omega)).trans (ae G _ (show 1 ≠ 3 by omega))).trans c1
  have d2 := ((ae (G.put 3 (some (.cells [.i .i64 0, .i .i64 0, .s [], .nilz true, .nilz true] 35 false))) (some (.cells (ak default).cells 35 false)) (show 2 ≠ 3 by omega)).trans (ae G _ (show 2 ≠ 3 by omega))).trans c2
  generalize (G.put 3 (some (.cells [.i .i64 0, .i .i64 0, .s [], .nilz true, .nilz true] 35 false))).put 3 (some (.cells (ak default).cells 35 false)) = F at d0 d1 d2 |-
  rw [du d2, aa, du d1, aa, e28 sw sx hp op.2, hset]
  show oV 76 (aI 0 (.tup [ak v, .i .i64 0])) _
  rw [ex0, aa, show aI 1 (prA (.ok v)) = some (.i .i64 0) from rfl, aa, bu, dM rfl (ah _ _ _), aH]
  dsimp only
  simp only [Nat.reduceAdd]
  have f0 := ((ae (F.put 4 (some (.cells [.i .i64 0, .i .i64 0, .s [], .nilz true, .nilz true] 35 false))) (some (.cells (ak v).cells 35 false)) (show 0 ≠ 4 by omega)).trans (ae F _ (show 0 ≠ 4 by omega))).trans d0
  have f4 := ah (F.put 4 (some (.cells [.i .i64 0, .i .i64 0, .s [], .nilz true, .nilz true] 35 false))) 4 (some (.cells (ak v).cells 35 false))
  generalize (F.put 4 (some (.cells [.i .i64 0, .i .i64 0, .s [], .nilz true, .nilz true] 35 false))).put 4 (some (.cells (ak v).cells 35 false)) = E at f0 f4 |-
  rw [cN, aa, Bool.not_false, gtt_2, bZ, aa, decide_eq_true rfl]
  dsimp only
  rw [be, aa, ja, du f4, aa, du f0, aa, e27 ov]
  dsimp only
  rw [be, aa, mJ, e12]
  dsimp only
  rw [be, aa, jW]
 ·
  have hrm : rmO v p = none := by unfold rmO; rw [if_neg (fun q => hn ⟨q.1, q.2.1⟩)]
  rw [hr, ex0, aa, ex1, aa, bu, dM rfl (ah _ _ _), aH]
  dsimp only
  have b0 := ((ae (h.put 1 (some (.cells [.i .i64 0, .i .i64 0, .s [], .nilz true, .nilz true] 35 false))) (some (.cells (ak default).cells 35 false)) (show 0 ≠ 1 by omega)).trans (ae h _ (show 0 ≠ 1 by omega))).trans g0
  generalize (h.put 1 (some (.cells [.i .i64 0, .i .i64 0, .s [], .nilz true, .nilz true] 35 false))).put 1 (some (.cells (ak default).cells 35 false)) = H at b0 |-
  rw [du b0, aa, e25 sv (by omega) op.2, hrm]
  show oV 57 (aI 0 (.tup [ak default, .b false])) _
  rw [ex0, aa, show aI 1 (gtR none) = some (.b false) from rfl, aa, bu, dM rfl (ah _ _ _), aH, th, aa, show (!(false == false)) = false from rfl, aA, cN, aa, Bool.not_false, aD, e12, jW]
end Go.Proofs.YtmfhmlhaofpeiaaGreatDoor.Ev
