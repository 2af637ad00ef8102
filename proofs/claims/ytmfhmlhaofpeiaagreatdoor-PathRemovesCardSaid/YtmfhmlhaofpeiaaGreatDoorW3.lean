/- Texts of this session's, one behind the other. -/
import Derived.Test.YtmfhmlhaofpeiaaGreatDoorEvFe
import Derived.Test.YtmfhmlhaofpeiaaGreatDoorEvFf
import Derived.Test.YtmfhmlhaofpeiaaGreatDoorEvLi
import Derived.Test.YtmfhmlhaofpeiaaGreatDoorEv1
import Derived.Test.YtmfhmlhaofpeiaaGreatDoorEv2
import Derived.Test.YtmfhmlhaofpeiaaGreatDoorEv3
import Derived.Test.YtmfhmlhaofpeiaaGreatDoorEv4
import Derived.Test.YtmfhmlhaofpeiaaGreatDoorSh
import Derived.Test.YtmfhmlhaofpeiaaGreatDoorEvX
import Derived.Test.YtmfhmlhaofpeiaaGreatDoorEvT
import Derived.Test.YtmfhmlhaofpeiaaGreatDoorEvTy
import Derived.Test.YtmfhmlhaofpeiaaGreatDoorEvF
import Derived.Test.YtmfhmlhaofpeiaaGreatDoorV0
import Derived.Test.YtmfhmlhaofpeiaaGreatDoorOp
import Derived.Test.YtmfhmlhaofpeiaaGreatDoorV6
import Derived.Test.YtmfhmlhaofpeiaaGreatDoorEvG
import Derived.Test.YtmfhmlhaofpeiaaGreatDoorEvLg
import Derived.Test.YtmfhmlhaofpeiaaGreatDoorEvLh
import Derived.Test.YtmfhmlhaofpeiaaGreatDoorEvFd
import Derived.Test.YtmfhmlhaofpeiaaGreatDoorEvFb
import Derived.Test.YtmfhmlhaofpeiaaGreatDoorEvFc
import Derived.Test.YtmfhmlhaofpeiaaGreatDoorW2
namespace Go.Proofs.YtmfhmlhaofpeiaaGreatDoor.Ev
open Go Go.RowKit
set_option linter.unusedSimpArgs false
set_option linter.unusedVariables false
set_option maxRecDepth 100000
section
variable {α : Type} {lt : α -> α -> Bool}
structure OrdL (lt : α -> α -> Bool) : Prop where
 asym : ∀ x y, lt x y = true -> lt y x = false
 trans : ∀ x y z, lt y x = false -> lt z y = false -> lt z x = false
def Srt (lt : α -> α -> Bool) (l : List α) : Prop := l.Pairwise (fun x y => lt y x = false)
theorem Srt.left {A B : List α} (h : Srt lt (A ++ B)) : Srt lt A := (List.pairwise_append.1 h).1
theorem Srt.right {A B : List α} (h : Srt lt (A ++ B)) : Srt lt B := (List.pairwise_append.1 h).2.1
theorem Srt.cross {A B : List α} (h : Srt lt (A ++ B)) : ∀ x ∈ A, ∀ y ∈ B, lt y x = false := (List.pairwise_append.1 h).2.2
def jX (lt : α -> α -> Bool) (L R : List α) : Prop := ∀ L' x y R', L = L' ++ [x] -> R = y :: R' -> lt y x = false
theorem xW (O : OrdL lt) (x : α) : lt x x = false := by
 cases h : lt x x
 ·rfl
 ·have := O.asym x x h; rw [this] at h; cases h
theorem last_ge (O : OrdL lt) {L : List α} {x : α} (h : Srt lt (L ++ [x])) : ∀ u ∈ L ++ [x], lt x u = false := by
 intro u hu
 rcases List.mem_append.1 hu with hu | hu
 ·exact h.cross u hu x (List.mem_singleton.2 rfl)
 ·rw [List.mem_singleton.1 hu]; exact xW O x
theorem first_le (O : OrdL lt) {R : List α} {y : α} (h : Srt lt (y :: R)) : ∀ u ∈ y :: R, lt u y = false := by
 intro u hu
 rcases List.mem_cons.1 hu with rfl | hu
 ·exact xW O u
 ·exact (List.pairwise_cons.1 h).1 u hu
theorem mv (O : OrdL lt) {L R : List α} (hL : Srt lt L) (hR : Srt lt R) (m : jX lt L R) : ∀ u ∈ L, ∀ w ∈ R, lt w u = false := by
 intro u hu w hw
 obtain ⟨L', x, rfl⟩ : ∃ L' x, L = L' ++ [x] := by
  rcases List.eq_nil_or_concat L with rfl | ⟨L', x, rfl⟩
  ·cases hu
  ·exact ⟨L', x, by simp⟩
 cases R with
 | nil => cases hw
 | cons y R' =>
  have h1 := last_ge O hL u hu
  have h2 := first_le O hR w hw
  have h3 := m L' x y R' rfl rfl
  exact O.trans u x w h1 (O.trans x y w h3 h2)
theorem glue (O : OrdL lt) {L R : List α} (hL : Srt lt L) (hR : Srt lt R) (m : jX lt L R) : Srt lt (L ++ R) :=
 List.pairwise_append.2 ⟨hL, hR, mv O hL hR m⟩
theorem glue_all {L R : List α} (hL : Srt lt L) (hR : Srt lt R) (m : ∀ u ∈ L, ∀ w ∈ R, lt w u = false) : Srt lt (L ++ R) :=
 List.pairwise_append.2 ⟨hL, hR, m⟩
theorem halves (O : OrdL lt) {A1 A2 B1 B2 : List α} (hA : Srt lt (A1 ++ A2)) (hB : Srt lt (B1 ++ B2)) (m1 : jX lt A1 B2) (m2 : jX lt B1 A2) :
  ∀ u ∈ A1 ++ B1, ∀ w ∈ A2 ++ B2, lt w u = false := by
 intro u hu w hw
 rcases List.mem_append.1 hu with hu | hu <;> rcases List.mem_append.1 hw with hw | hw
 ·exact hA.cross u hu w hw
 ·exact mv O hA.left hB.right m1 u hu w hw
 ·exact mv O hB.left hA.right m2 u hu w hw
 ·exact hB.cross u hu w hw
theorem into (O : OrdL lt) {L R : List α} {x : α} (h : Srt lt (L ++ R)) (m1 : jX lt L [x]) (m2 : jX lt [x] R) : Srt lt (L ++ [x] ++ R) := by
 have h1 : Srt lt (L ++ [x]) := glue O h.left (List.pairwise_singleton _ _) m1
 refine List.pairwise_append.2 ⟨h1, h.right, fun u hu w hw => ?_⟩
 rcases List.mem_append.1 hu with hu | hu
 ·exact h.cross u hu w hw
 ·rw [List.mem_singleton.1 hu]
  exact mv O (List.pairwise_singleton _ _) h.right m2 x (List.mem_singleton.2 rfl) w hw
theorem rI {L L' R : List α} (h : ∀ u ∈ L, ∀ w ∈ R, lt w u = false) (p : L'.Perm L) : ∀ u ∈ L', ∀ w ∈ R, lt w u = false := fun u hu w hw => h u (p.mem_iff.1 hu) w hw
theorem qj {L R R' : List α} (h : ∀ u ∈ L, ∀ w ∈ R, lt w u = false) (p : R'.Perm R) : ∀ u ∈ L, ∀ w ∈ R', lt w u = false := fun u hu w hw => h u hu w (p.mem_iff.1 hw)
theorem qi : ∀ {l l' : List α}, Srt lt l -> Srt lt l' -> l.Perm l' -> (∀ x ∈ l, ∀ y ∈ l, lt x y = false -> lt y x = false -> x = y) -> l = l'
 | [], l', _, _, p, _ => by
  have := p.length_eq
  cases l' with
  | nil => rfl
  | cons a l' => cases this
 | x :: l, l', h, h', p, d => by
  cases l' with
  | nil => have := p.length_eq; cases this
  | cons y l' =>
   have hx := List.pairwise_cons.1 h
   have hy := List.pairwise_cons.1 h'
   have e : x = y := by
    have my : y ∈ x :: l := p.mem_iff.2 (List.mem_cons_self ..)
    have mx : x ∈ y :: l' := p.mem_iff.1 (List.mem_cons_self ..)
    rcases List.mem_cons.1 my with e | my'
    ·exact e.symm
    ·rcases List.mem_cons.1 mx with e | mx'
     ·exact e
     ·exact d x (List.mem_cons_self ..) y my (hy.1 x mx') (hx.1 y my')
   subst e
   rw [qi hx.2 hy.2 (List.Perm.cons_inv p) (fun a ha b hb => d a (List.mem_cons_of_mem _ ha) b (List.mem_cons_of_mem _ hb))]
end
theorem Runs.ex {T : Tab} {f : Nat} {args : List AV} {σ : AS} {fn : Func} {c : Code} {Q : AV -> AS -> Prop} (h1 : T.prim f = none) (h2 : fU T f args = none) (h3 : T.fn f = some fn) (h4 : fn.body = some c) (h5 : T.opened f = true) (h6 : T.mode f = 0) {an : AN}
  (hv : bQ (av T) T fn c an args σ Q) : ∃ r σ', Runs T f args σ r σ' /\ Q r σ' := by
 obtain ⟨k, r1, σ1, e1, hq⟩ := dx hv
 refine ⟨r1, σ1, ⟨k + 1, ?_⟩, hq⟩
 unfold aE
 simp only [h1, h2, h3, h4, h5, h6, e1]
theorem mY : ∀ (a b : List UInt8), Op.bytesLess a b = true -> Op.bytesLess b a = false
 | [], [], h => by simp [Op.bytesLess] at h
 | [], _ :: _, _ => by simp [Op.bytesLess]
 | _ :: _, [], h => by simp [Op.bytesLess] at h
 | x :: a, y :: b, h => by
  have ih := mY a b
  simp only [Op.bytesLess] at h |-
  rcases Nat.lt_trichotomy x.toNat y.toNat with q | q | q
  ·have h1 : x < y := q
   have h2 : ¬ y < x := fun h => absurd (show y.toNat < x.toNat from h) (by omega)
   have h3 : (y == x) = false := by simp; rintro rfl; omega
   simp [h2, h3]
  ·obtain rfl : x = y := UInt8.toNat_inj.1 q
   have h2 : ¬ x < x := fun h => absurd (show x.toNat < x.toNat from h) (by omega)
   simp [h2] at h |-; exact ih h
  ·have h2 : ¬ x < y := fun h => absurd (show x.toNat < y.toNat from h) (by omega)
   have h3 : (x == y) = false := by simp; rintro rfl; omega
   simp [h2, h3] at h
theorem bl_nt : ∀ (a b c : List UInt8), Op.bytesLess b a = false -> Op.bytesLess c b = false -> Op.bytesLess c a = false
 | [], _, c, _, _ => by cases c <;> simp [Op.bytesLess]
 | _ :: _, [], _, h, _ => by simp [Op.bytesLess] at h
 | _ :: _, _ :: _, [], _, h => by simp [Op.bytesLess] at h
 | x :: a, y :: b, z :: c, h1, h2 => by
  have ih := bl_nt a b c
  simp only [Op.bytesLess] at h1 h2 |-
  have l1 : ¬ y.toNat < x.toNat := fun q => by have : y < x := q; simp [this] at h1
  have l2 : ¬ z.toNat < y.toNat := fun q => by have : z < y := q; simp [this] at h2
  have n1 : ¬ z < x := fun h => absurd (show z.toNat < x.toNat from h) (by omega)
  by_cases e : z.toNat = x.toNat
  ·have e1 : z = x := UInt8.toNat_inj.1 e
   have e2 : y = x := UInt8.toNat_inj.1 (by omega)
   subst e1; subst e2
   have n2 : ¬ y < y := fun h => absurd (show y.toNat < y.toNat from h) (by omega)
   simp [n2] at h1 h2 |-; exact ih h1 h2
  ·have n3 : (z == x) = false := by simp; rintro rfl; exact e rfl
   simp [n1, n3]
def ltF (a b : Fld) : Bool := Op.bytesLess a.name b.name
theorem ordF : OrdL ltF := ⟨fun x y => mY _ _, fun x y z h1 h2 => bl_nt _ _ _ h1 h2⟩
def ordI (x y : Bool) : Int := if x = true then -1 else if y = true then 1 else 0
def px (a b : List UInt8) : Int := ordI (Op.bytesLess a b) (Op.bytesLess b a)
theorem zF : ∀ (a b : List UInt8), Lib.compareBytes a b = px a b
 | [], [] => rfl
 | [], _ :: _ => rfl
 | _ :: _, [] => rfl
 | x :: a, y :: b => by
  have ih := zF a b
  unfold Lib.compareBytes
  unfold px ordI at ih |-
  simp only [Op.bytesLess]
  rcases Nat.lt_trichotomy x.toNat y.toNat with q | q | q
  ·have h1 : x < y := q
   simp [h1]
  ·obtain rfl : x = y := UInt8.toNat_inj.1 q
   have h2 : ¬ x < x := fun h => absurd (show x.toNat < x.toNat from h) (by omega)
   simp [h2, ih]
  ·have h1 : y < x := q
   have h2 : ¬ x < y := fun h => absurd (show x.toNat < y.toNat from h) (by omega)
   have h3 : (x == y) = false := by simp; rintro rfl; omega
   simp [h1, h2, h3]
theorem cmp_lt (a b : Fld) : decide (px a.name b.name < 0) = ltF a b := by
 unfold px ordI ltF
 cases h : Op.bytesLess a.name b.name
 ·cases Op.bytesLess b.name a.name <;> rfl
 ·rfl
theorem c138 (a b : List UInt8) : R T0 138 [.s a, .s b] (.i .i64 (px a b)) := by
 rw [<- zF]
 have hp : T0.prim 138 = some kW := by kernel_rfl
 exact ⟨1, fun σ => by unfold aE; simp only [hp, kW]⟩
theorem e138 {a b : List UInt8} {d : Nat} {σ : AS} {K : AV -> AS -> Prop} : oC T0 d 138 [.s a, .s b] σ K = K (.i .i64 (px a b)) σ := (c138 a b).eq d σ K
theorem c121 (a b : List UInt8) : R T0 121 [.s a, .s b] (.i .i64 (px a b)) := by
 refine r121 _ _ rfl rfl ?_
 unfold w121
 dsimp only [av]
 rw [e138, pu]
theorem e121 {a b : List UInt8} {d : Nat} {σ : AS} {K : AV -> AS -> Prop} : oC T0 d 121 [.s a, .s b] σ K = K (.i .i64 (px a b)) σ := (c121 a b).eq d σ K
theorem c106 (a b : List UInt8) : R T0 106 [.s a, .s b] (.i .i64 (px a b)) := by
 refine r106 _ _ rfl rfl ?_
 unfold w106
 dsimp only [av]
 rw [e121, pu]
theorem e106 {a b : List UInt8} {d : Nat} {σ : AS} {K : AV -> AS -> Prop} : oC T0 d 106 [.s a, .s b] σ K = K (.i .i64 (px a b)) σ := (c106 a b).eq d σ K
theorem c105 (a b : Fld) : R T0 105 [ay a, ay b] (.i .i64 (px a.name b.name)) := by
 refine r105 _ _ (by rw [bh, bh, ax, ax]; rfl) (by rw [bh, bh, ax, ax]; rfl) ?_
 unfold w105
 dsimp only [av]
 simp (disch := first | omega | assumption | (intros; simp only [dl3]; try omega)) only [vb4, ne_eq, vb1, bx, e106]
theorem e105 {a b : Fld} {d : Nat} {σ : AS} {K : AV -> AS -> Prop} : oF T0 d (.fn 105 [] []) [ay a, ay b] σ K = K (.i .i64 (px a.name b.name)) σ := by
 rw [lv]; exact (c105 a b).eq d σ K
theorem xT : oP T0 (.fn 105 [] []) = true := by kernel_rfl
def cD (h : Tr AB) (id : Nat) (l : List Fld) : Prop := h.get id = some (.cells (aw ay l) 52 true)
section
variable {h : Tr AB} {id N i : Nat} {l U V : List Fld} {x y z : Fld}
theorem jT (hi : i < N) : ai T0 33 (.sl id 0 N none) (.i .i64 (i : Nat)) = some (.ptr id (i * (5 + 1))) := by
 have ht : T0.ty 33 = some (.slice 52) := elF.ty
 have hz : T0.sz 52 = some (5 + 1) := elF.sz
 simp only [ai, ht, hz, Int.toNat_natCast, Nat.zero_add]
 rw [if_pos (by omega)]
theorem rl (hg : cD h id l) (hi : i < l.length) : ac T0 h 52 (.ptr id (i * (5 + 1))) = some (ay (l.getD i default)) := by
 have := RowAt.load elF bq (j := i) (h := h) (l := l) (id := id) (encD := ay) (fun hne => by rw [gS]; exact hg) hi
 exact this
theorem rs (hg : cD h id l) (hi : i < l.length) : ba T0 h 52 (.ptr id (i * (5 + 1))) (ay y) = some (id, .cells (aw ay (l.set i y)) 52 true) :=
 fu uB hg (bq y) (mA y) (ki (k := 0) bq hi (cf _ _ (by rw [bq, bq])))
theorem gi {W : List Fld} : (U ++ y :: W).getD U.length default = y := by simp [List.getD_eq_getElem?_getD]
theorem nT : (U ++ y :: x :: V).getD (U.length + 1) default = x := by simp [List.getD_eq_getElem?_getD]
theorem kS {W : List Fld} : (U ++ y :: W).set U.length z = U ++ z :: W := by simp
theorem qq : (U ++ y :: x :: V).set (U.length + 1) z = U ++ y :: z :: V := by simp
end
theorem x136 (a0 a1 a2 a3 : AV) {σ : AS} {Q : AV -> AS -> Prop} (h : w136 (av T0) a0 a1 a2 a3 σ Q) : ∃ r σ', Runs T0 136 [a0, a1, a2, a3] σ r σ' /\ Q r σ' :=
 Runs.ex (by kernel_rfl) (by kernel_rfl) (show T0.fn 136 = some Tryz.f136 by kernel_rfl) (by kernel_rfl) (by kernel_rfl) (by kernel_rfl) (by rw [w136_eq] at h; exact h)
def um (h : Tr AB) (n id : Nat) (r : AV) (σ' : AS) (P : List Fld -> Prop) : Prop := r = .tup [] /\ σ'.n = n /\ (∀ j, j ≠ id -> σ'.h.get j = h.get j) /\ ∃ l', P l' /\ cD σ'.h id l'
theorem tA : type_of% (And.intro @aC (And.intro @cL (And.intro @cJ (And.intro @jT (And.intro @xT (And.intro @fE (And.intro @e105 (And.intro @cmp_lt (And.intro @aD @aA))))))))) := And.intro @aC (And.intro @cL (And.intro @cJ (And.intro @jT (And.intro @xT (And.intro @fE (And.intro @e105 (And.intro @cmp_lt (And.intro @aD @aA))))))))
theorem c136 {h : Tr AB} {n id N : Nat} (P A S : List Fld) (hN : N = (P ++ A ++ S).length) (hN2 : N <= 1000000) (hg : cD h id (P ++ A ++ S)) :
  ∃ r σ', Runs T0 136 [.sl id 0 N none, .i .i64 (P.length : Nat), .i .i64 ((P.length + A.length : Nat) : Int), .fn 105 [] []] ⟨h, n⟩ r σ' /\ um h n id r σ' (fun l' => ∃ A', l' = P ++ A' ++ S /\ A'.Perm A /\ Srt ltF A') := by
 refine x136 _ _ _ _ ?_
 unfold w136
 dsimp only [av]
 rw [List.length_append, List.length_append] at hN
 have e1 : ((P.length : Nat) : Int) + 1 = ((P.length + 1 : Nat) : Int) := by omega
 rw [aC, aa, cL (by omega) (by omega), e1]
 cases A with
 | nil =>
  refine ij (X := Unit) (fun _ => .sl id 0 N none) (fun _ => .fn 105 [] []) (fun _ => .i .i64 (P.length : Nat)) (fun _ => .i .i64 ((P.length + ([] : List Fld).length : Nat) : Int)) (fun _ => .i .i64 ((P.length + 1 : Nat) : Int)) (fun _ σ => σ = ⟨h, n⟩) (fun _ => 0) ?_ () _ rfl
  rintro R _ σ rfl hR
  rw [List.length_nil, dl, aa, decide_eq_false (by omega), aA]
  exact ⟨rfl, rfl, fun j _ => rfl, _, ⟨[], rfl, List.Perm.refl _, List.Pairwise.nil⟩, hg⟩
 | cons a A =>
  rw [List.length_cons] at hN
  refine ij (X := List Fld × List Fld) (fun _ => .sl id 0 N none) (fun _ => .fn 105 [] []) (fun _ => .i .i64 (P.length : Nat)) (fun _ => .i .i64 ((P.length + (a :: A).length : Nat) : Int)) (fun x => .i .i64 ((P.length + x.1.length : Nat) : Int))
   (fun x σ => σ.n = n /\ (∀ j, j ≠ id -> σ.h.get j = h.get j) /\ x.1.length + x.2.length = A.length + 1 /\ (x.1 ++ x.2).Perm (a :: A) /\ Srt ltF x.1 /\ cD σ.h id (P ++ x.1 ++ x.2 ++ S)) (fun x => x.2.length) ?_ ([a], A) _
   ⟨rfl, fun j _ => rfl, by simp; omega, List.Perm.refl _, List.pairwise_singleton _ _, by rw [List.append_assoc P]; exact hg⟩
  rintro R ⟨A1, A2⟩ σ ⟨hn, hfr, hlen, hp, hs, hr⟩ hR
  dsimp only at hn hlen hp hs hr hR |-
  rw [List.length_cons] at hR |-
  cases A2 with
  | nil =>
   rw [List.length_nil] at hlen
   rw [List.append_nil] at hp hr
   rw [dl, aa, decide_eq_false (by omega), aA]
   exact ⟨rfl, hn, hfr, _, ⟨A1, rfl, hp, hs⟩, hr⟩
  | cons x A2 =>
   rw [List.length_cons] at hlen
   rw [dl, aa, decide_eq_true (by omega), aD]
   refine vo (X := List Fld × List Fld) (fun _ => .sl id 0 N none) (fun _ => .fn 105 [] []) (fun _ => .i .i64 (P.length : Nat)) (fun _ => .i .i64 ((P.length + (A.length + 1) : Nat) : Int)) (fun _ => .i .i64 ((P.length + A1.length : Nat) : Int)) (fun y => .i .i64 ((P.length + y.1.length : Nat) : Int))
    (fun y σ => σ.n = n /\ (∀ j, j ≠ id -> σ.h.get j = h.get j) /\ y.1 ++ y.2 = A1 /\ jX ltF [x] y.2 /\ cD σ.h id (P ++ y.1 ++ x :: (y.2 ++ A2 ++ S))) (fun y => y.1.length) ?_ (A1, []) _
    ⟨hn, hfr, List.append_nil _, fun L' u w R' _ q => (by cases q), by simpa using hr⟩
   clear hn hfr hr
   rintro R2 ⟨L, Rr⟩ σ ⟨hn, hfr, hLR, hm, hr⟩ hR2
   dsimp only at hLR hm hr hR2 |-
   have hl1 : L.length + Rr.length = A1.length := by rw [<- hLR, List.length_append]
   have hLs : Srt ltF (L ++ Rr) := by rw [hLR]; exact hs
   have e2 : ((P.length + A1.length : Nat) : Int) + 1 = ((P.length + (A1.length + 1) : Nat) : Int) := by omega
   have done : jX ltF L [x] -> R (.sl id 0 N none) (.fn 105 [] []) (.i .i64 (P.length : Nat)) (.i .i64 ((P.length + (A.length + 1) : Nat) : Int)) (.i .i64 ((P.length + (A1.length + 1) : Nat) : Int)) σ := fun m1 => by
    have hso := into ordF hLs m1 hm
    have := hR (L ++ [x] ++ Rr, A2) σ ⟨hn, hfr, by simp; omega, ?_, hso, by simpa using hr⟩ (by dsimp only; rw [List.length_cons]; omega)
    ·rw [show (L ++ [x] ++ Rr).length = A1.length + 1 by simp; omega] at this; exact this
    ·refine List.Perm.trans ?_ hp
     rw [<- hLR]
     simp only [List.append_assoc, List.singleton_append, List.cons_append]
     refine List.Perm.append_left L ?_
     exact (List.perm_middle (l₁ := Rr) (l₂ := A2) (a := x)).symm
   rcases List.eq_nil_or_concat L with rfl | ⟨L', y, rfl⟩
   ·simp (disch := first | omega | assumption | (intros; simp only [dl3]; try omega)) only [vb0, ne_eq, aZ, iF, aC, bB, vb7, qR, tY, gff_12, gtf_12, tZ, gvv_12, gnt_12, gnf_12, List.length_nil, Nat.add_zero, cW, e2]
    exact done (fun L' u w R' q _ => by simp at q)
   ·simp only [List.concat_eq_append] at hLR hm hr hR2 hl1 hLs done |-
    obtain ⟨W, hW⟩ : ∃ W, W = Rr ++ A2 ++ S := ⟨_, rfl⟩
    obtain ⟨U, hU⟩ : ∃ U, U = P ++ L' := ⟨_, rfl⟩
    have hUl : U.length = P.length + L'.length := by rw [hU, List.length_append]
    have hr' : cD σ.h id (U ++ y :: x :: W) := by rw [hU, hW]; simpa using hr
    rw [List.length_append, List.length_singleton] at hl1 |-
    have hlw : (U ++ y :: x :: W).length = N := by rw [hW]; simp only [List.length_append, List.length_cons]; omega
    have e3 : ((P.length + (L'.length + 1) : Nat) : Int) - 1 = ((U.length : Nat) : Int) := by omega
    have e4 : ((P.length + (L'.length + 1) : Nat) : Int) = ((U.length + 1 : Nat) : Int) := by omega
    have ld1 : ac T0 σ.h 52 (.ptr id ((U.length + 1) * (5 + 1))) = some (ay x) := by rw [rl hr' (by omega), nT]
    have ld0 : ac T0 σ.h 52 (.ptr id (U.length * (5 + 1))) = some (ay y) := by rw [rl hr' (by omega), gi]
    have e5 : ((U.length + 1 : Nat) : Int) - 1 = ((U.length : Nat) : Int) := by omega
    rw [e4]
    cases hc : ltF x y
    ·simp (disch := first | omega | assumption | (intros; simp only [dl3]; try omega)) only [cm, cy, bB, tA, cW, be, bY, tY, tZ, bI, e5, ld1, ld0, hc, e2]
     exact done (fun M u w R' q q2 => by
      injection q2 with q2 q3
      have := List.append_inj' q rfl
      have h2 := this.2
      injection h2 with h2
      rw [<- h2, <- q2]; exact hc)
    ·have s1 : ba T0 σ.h 52 (.ptr id ((U.length + 1) * (5 + 1))) (ay y) = some (id, .cells (aw ay (U ++ y :: y :: W)) 52 true) := by rw [rs hr' (by omega), qq]
     have hr2 : cD (σ.h.put id (some (.cells (aw ay (U ++ y :: y :: W)) 52 true))) id (U ++ y :: y :: W) := ah _ _ _
     have s2 : ba T0 (σ.h.put id (some (.cells (aw ay (U ++ y :: y :: W)) 52 true))) 52 (.ptr id (U.length * (5 + 1))) (ay x) = some (id, .cells (aw ay (U ++ x :: y :: W)) 52 true) := by rw [rs hr2 (by simp), kS]
     simp (disch := first | omega | assumption | (intros; simp only [dl3]; try omega)) only [cm, cy, bB, tA, cW, be, bY, tY, tZ, bI, e5, ld1, ld0, hc, s1]
     rw [eN rfl rfl]
     try simp (disch := first | omega | assumption | (intros; simp only [dl3]; try omega)) only [aa, jT]
     rw [kv rfl, s2, bI, eN rfl rfl, eD]
     try simp (disch := first | omega | assumption | (intros; simp only [dl3]; try omega)) only [cm, cy, bB, tA, cW, be, bY, tY, tZ, bI, e5]
     have := hR2 (L', y :: Rr) ⟨(σ.h.put id (some (.cells (aw ay (U ++ y :: y :: W)) 52 true))).put id (some (.cells (aw ay (U ++ x :: y :: W)) 52 true)), σ.n⟩ ⟨hn, fun j hj => by dsimp only; rw [ae _ _ hj, ae _ _ hj]; exact hfr j hj, by rw [<- hLR]; simp, fun M u w R' q q2 => by
      injection q2 with q2 q3
      have := List.append_inj' (show [] ++ [x] = M ++ [u] from q) rfl
      have h2 := this.2
      injection h2 with h2
      rw [<- h2, <- q2]; exact ordF.asym _ _ hc, by
      have : P ++ L' ++ x :: (y :: Rr ++ A2 ++ S) = U ++ x :: y :: W := by rw [hU, hW]; simp
      dsimp only; rw [this]; exact ah _ _ _⟩ (by dsimp only; rw [List.length_append, List.length_singleton]; omega)
     dsimp only at this
     rw [<- hUl] at this
     exact this
theorem x147 (a0 a1 a2 a3 a4 : AV) {σ : AS} {Q : AV -> AS -> Prop} (h : w147 (av T0) a0 a1 a2 a3 a4 σ Q) : ∃ r σ', Runs T0 147 [a0, a1, a2, a3, a4] σ r σ' /\ Q r σ' :=
 Runs.ex (by kernel_rfl) (by kernel_rfl) (show T0.fn 147 = some Tryz.f147 by kernel_rfl) (by kernel_rfl) (by kernel_rfl) (by kernel_rfl) (by rw [w147_eq] at h; exact h)
theorem x144 (a0 a1 a2 a3 a4 : AV) {σ : AS} {Q : AV -> AS -> Prop} (h : w144 (av T0) a0 a1 a2 a3 a4 σ Q) : ∃ r σ', Runs T0 144 [a0, a1, a2, a3, a4] σ r σ' /\ Q r σ' :=
 Runs.ex (by kernel_rfl) (by kernel_rfl) (show T0.fn 144 = some Tryz.f144 by kernel_rfl) (by kernel_rfl) (by kernel_rfl) (by kernel_rfl) (by rw [w144_eq] at h; exact h)
section
variable {U V W : List Fld} {x y z : Fld}
theorem xo : U ++ x :: (V ++ y :: W) = (U ++ x :: V) ++ y :: W := by simp
theorem zw : (U ++ x :: V).length = U.length + 1 + V.length := by simp; omega
theorem getD_far : (U ++ x :: (V ++ y :: W)).getD (U.length + 1 + V.length) default = y := by rw [xo, <- zw (x := x)]; exact gi
theorem set_far : (U ++ x :: (V ++ y :: W)).set (U.length + 1 + V.length) z = U ++ x :: (V ++ z :: W) := by rw [xo, <- zw (x := x), kS, xo]
end
theorem c147 {h : Tr AB} {n id N : Nat} (P A M B S : List Fld) (hAB : A.length = B.length) (hN : N = (P ++ A ++ M ++ B ++ S).length) (hN2 : N <= 1000000) (hg : cD h id (P ++ A ++ M ++ B ++ S)) :
  ∃ r σ', Runs T0 147 [.sl id 0 N none, .i .i64 (P.length : Nat), .i .i64 ((P.length + A.length + M.length : Nat) : Int), .i .i64 (A.length : Nat), .fn 105 [] []] ⟨h, n⟩ r σ' /\ um h n id r σ' (fun l' => l' = P ++ B ++ M ++ A ++ S) := by
 refine x147 _ _ _ _ _ ?_
 unfold w147
 dsimp only [av]
 simp only [List.length_append] at hN
 refine ij (X := List Fld × List Fld × List Fld × List Fld) (fun _ => .i .i64 (P.length : Nat)) (fun _ => .sl id 0 N none) (fun _ => .i .i64 ((P.length + A.length + M.length : Nat) : Int)) (fun _ => .i .i64 (A.length : Nat)) (fun x => .i .i64 (x.1.length : Nat))
  (fun x σ => σ.n = n /\ (∀ j, j ≠ id -> σ.h.get j = h.get j) /\ A = x.1 ++ x.2.1 /\ B = x.2.2.1 ++ x.2.2.2 /\ x.1.length = x.2.2.1.length /\ cD σ.h id (P ++ (x.2.2.1 ++ x.2.1) ++ M ++ (x.1 ++ x.2.2.2) ++ S)) (fun x => x.2.1.length) ?_ ([], A, [], B) _
  ⟨rfl, fun j _ => rfl, rfl, rfl, rfl, hg⟩
 rintro R ⟨A1, A2, B1, B2⟩ σ ⟨hn, hfr, hA, hB, hl, hr⟩ hR
 dsimp only at hA hB hl hr hR |-
 have lA := congrArg List.length hA
 have lB := congrArg List.length hB
 rw [List.length_append] at lA lB
 cases A2 with
 | nil =>
  rw [List.length_nil] at lA
  have hB2 : B2 = [] := List.eq_nil_of_length_eq_zero (by omega)
  subst hB2
  rw [List.append_nil] at hA hB
  rw [List.append_nil, List.append_nil] at hr
  rw [dl, aa, decide_eq_false (by omega), aA]
  exact ⟨rfl, hn, hfr, _, rfl, by rw [hA, hB]; exact hr⟩
 | cons x A2 =>
  cases B2 with
  | nil => rw [List.length_cons, List.length_nil] at *; omega
  | cons y B2 =>
   rw [List.length_cons] at lA lB
   obtain ⟨U, hU⟩ : ∃ U, U = P ++ B1 := ⟨_, rfl⟩
   obtain ⟨V, hV⟩ : ∃ V, V = A2 ++ M ++ A1 := ⟨_, rfl⟩
   obtain ⟨W, hW⟩ : ∃ W, W = B2 ++ S := ⟨_, rfl⟩
   have hr' : cD σ.h id (U ++ x :: (V ++ y :: W)) := by rw [hU, hV, hW]; simpa using hr
   have hUl : U.length = P.length + B1.length := by rw [hU, List.length_append]
   have hVl : V.length = A2.length + M.length + A1.length := by rw [hV, List.length_append, List.length_append]
   have hWl : W.length = B2.length + S.length := by rw [hW, List.length_append]
   have hl0 : (U ++ x :: (V ++ y :: W)).length = N := by simp only [List.length_append, List.length_cons]; omega
   have i1 : ((P.length : Nat) : Int) + (A1.length : Nat) = ((U.length : Nat) : Int) := by omega
   have i2 : ((P.length + A.length + M.length : Nat) : Int) + (A1.length : Nat) = ((U.length + 1 + V.length : Nat) : Int) := by omega
   have d1 : ac T0 σ.h 52 (.ptr id (U.length * (5 + 1))) = some (ay x) := by rw [rl hr' (by omega), gi]
   have d2 : ac T0 σ.h 52 (.ptr id ((U.length + 1 + V.length) * (5 + 1))) = some (ay y) := by rw [rl hr' (by omega), getD_far]
   have s1 : ba T0 σ.h 52 (.ptr id (U.length * (5 + 1))) (ay y) = some (id, .cells (aw ay (U ++ y :: (V ++ y :: W))) 52 true) := by rw [rs hr' (by omega), kS]
   have hr2 : cD (σ.h.put id (some (.cells (aw ay (U ++ y :: (V ++ y :: W))) 52 true))) id (U ++ y :: (V ++ y :: W)) := ah _ _ _
   have s2 : ba T0 (σ.h.put id (some (.cells (aw ay (U ++ y :: (V ++ y :: W))) 52 true))) 52 (.ptr id ((U.length + 1 + V.length) * (5 + 1))) (ay x) = some (id, .cells (aw ay (U ++ y :: (V ++ x :: W))) 52 true) := by
    rw [rs hr2 (by simp only [List.length_append, List.length_cons]; omega), set_far]
   simp (disch := first | omega | assumption | (intros; simp only [dl2]; try omega)) only [cm, aC, cL, cJ, cW, aD, i1, i2, jT, d1, d2, s1, bI]
   rw [eN rfl rfl]
   try simp (disch := first | omega | assumption | (intros; simp only [dl2]; try omega)) only [aa, jT]
   rw [kv rfl, s2, bI, eN rfl rfl, eD]
   have e1 : ((A1.length : Nat) : Int) + 1 = ((A1.length + 1 : Nat) : Int) := by omega
   try simp (disch := first | omega | assumption | (intros; simp only [dl2]; try omega)) only [aa, aC, cL, e1]
   have := hR (A1 ++ [x], A2, B1 ++ [y], B2) ⟨(σ.h.put id (some (.cells (aw ay (U ++ y :: (V ++ y :: W))) 52 true))).put id (some (.cells (aw ay (U ++ y :: (V ++ x :: W))) 52 true)), σ.n⟩
    ⟨hn, fun j hj => by dsimp only; rw [ae _ _ hj, ae _ _ hj]; exact hfr j hj, by rw [hA]; simp, by rw [hB]; simp, by simp; omega, by
     have : P ++ (B1 ++ [y] ++ A2) ++ M ++ (A1 ++ [x] ++ B2) ++ S = U ++ y :: (V ++ x :: W) := by rw [hU, hV, hW]; simp
     dsimp only; rw [this]; exact ah _ _ _⟩ (by dsimp only; rw [List.length_cons]; omega)
   dsimp only at this
   rw [List.length_append, List.length_singleton] at this
   exact this
theorem nD {l : List Fld} (h : l ≠ []) : 0 < l.length := by
 cases l with
 | nil => exact absurd rfl h
 | cons a l => simp
theorem c144 {h : Tr AB} {n id N : Nat} (P A B S : List Fld) (hA : A ≠ []) (hB : B ≠ []) (hN : N = (P ++ A ++ B ++ S).length) (hN2 : N <= 1000000) (hg : cD h id (P ++ A ++ B ++ S)) :
  ∃ r σ', Runs T0 144 [.sl id 0 N none, .i .i64 (P.length : Nat), .i .i64 ((P.length + A.length : Nat) : Int), .i .i64 ((P.length + A.length + B.length : Nat) : Int), .fn 105 [] []] ⟨h, n⟩ r σ' /\ um h n id r σ' (fun l' => l' = P ++ B ++ A ++ S) := by
 refine x144 _ _ _ _ _ ?_
 unfold w144
 dsimp only [av]
 have hN' := hN
 simp only [List.length_append] at hN
 have i1 : ((P.length + A.length : Nat) : Int) - (P.length : Nat) = ((A.length : Nat) : Int) := by omega
 have i2 : ((P.length + A.length + B.length : Nat) : Int) - ((P.length + A.length : Nat) : Int) = ((B.length : Nat) : Int) := by omega
 simp (disch := first | omega | assumption | (intros; simp only [dl2]; try omega)) only [aa, bB, cL, i1, i2]
 refine ij (X := List Fld × List Fld × List Fld × List Fld) (fun _ => .fn 105 [] []) (fun x => .i .i64 (x.2.1.length : Nat)) (fun _ => .i .i64 ((P.length + A.length : Nat) : Int)) (fun _ => .sl id 0 N none) (fun x => .i .i64 (x.2.2.1.length : Nat))
  (fun x σ => σ.n = n /\ (∀ j, j ≠ id -> σ.h.get j = h.get j) /\ x.2.1 ≠ [] /\ x.2.2.1 ≠ [] /\ x.1.length + x.2.1.length = P.length + A.length /\ x.1 ++ x.2.2.1 ++ x.2.1 ++ x.2.2.2 = P ++ B ++ A ++ S /\ cD σ.h id (x.1 ++ x.2.1 ++ x.2.2.1 ++ x.2.2.2)) (fun x => x.2.1.length + x.2.2.1.length) ?_ (P, A, B, S) _
  ⟨rfl, fun j _ => rfl, hA, hB, rfl, rfl, hg⟩
 rintro R ⟨P1, X, Y, S1⟩ ⟨h1, n1⟩ ⟨hn, hfr, hX, hY, hl, hgoal, hr⟩ hR
 dsimp only at hn hfr hX hY hl hgoal hr hR |-
 subst hn
 have hx := nD hX
 have hy := nD hY
 have hlen := congrArg List.length hgoal
 simp only [List.length_append] at hlen
 have j1 : ((P.length + A.length : Nat) : Int) - (X.length : Nat) = ((P1.length : Nat) : Int) := by omega
 rcases Nat.lt_trichotomy X.length Y.length with q | q | q
 ·
  obtain ⟨Y1, Y2, rfl, hY2⟩ : ∃ Y1 Y2, Y = Y1 ++ Y2 /\ Y2.length = X.length := ⟨Y.take (Y.length - X.length), Y.drop (Y.length - X.length), (List.take_append_drop _ _).symm, by rw [List.length_drop]; omega⟩
  rw [List.length_append] at q hy hlen hR |-
  obtain ⟨r, σ', hrun, hr1, hr2, hr3, l', rfl, hr4⟩ := c147 (h := h1) (n := n1) (id := id) (N := N) P1 X Y1 Y2 S1 hY2.symm (by simp only [List.length_append]; omega) hN2 (by simpa using hr)
  subst hr1
  have j2 : ((P.length + A.length : Nat) : Int) + ((Y1.length + Y2.length : Nat) : Int) - (X.length : Nat) = ((P1.length + X.length + Y1.length : Nat) : Int) := by omega
  have j3 : ((Y1.length + Y2.length : Nat) : Int) - (X.length : Nat) = ((Y1.length : Nat) : Int) := by omega
  have w1 : IntKind.wrap .i64 (((P.length + A.length : Nat) : Int) + ((Y1.length + Y2.length : Nat) : Int)) = ((P.length + A.length : Nat) : Int) + ((Y1.length + Y2.length : Nat) : Int) := cL (by omega) (by omega)
  have ne : decide (((X.length : Nat) : Int) ≠ ((Y1.length + Y2.length : Nat) : Int)) = true := decide_eq_true (by omega)
  simp (disch := first | omega | assumption | (intros; simp only [dl2]; try omega)) only [aa, eb, ne, cy, bB, aC, w1, cL, cW, aD, aA, j1, j2, j3, hrun.eq]
  have := hR (P1, Y2, Y1, X ++ S1) σ' ⟨hr2, fun j hj => (hr3 j hj).trans (hfr j hj), fun (e : Y2 = []) => by rw [e, List.length_nil] at hY2; omega, fun (e : Y1 = []) => by rw [e, List.length_nil] at q; omega, by dsimp only; omega, by dsimp only; rw [<- hgoal]; simp, by simpa using hr4⟩ (by dsimp only; omega)
  dsimp only at this
  rw [hY2] at this
  exact this
 ·
  obtain ⟨r, σ', hrun, hr1, hr2, hr3, l', rfl, hr4⟩ := c147 (h := h1) (n := n1) (id := id) (N := N) P1 X [] Y S1 q (by simp only [List.length_append, List.length_nil]; omega) hN2 (by simpa using hr)
  subst hr1
  rw [List.length_nil, Nat.add_zero, hl] at hrun
  have ne : decide (((X.length : Nat) : Int) ≠ (Y.length : Nat)) = false := decide_eq_false (fun h => h (by omega))
  simp (disch := first | omega | assumption | (intros; simp only [dl2]; try omega)) only [aa, eb, ne, bB, cL, aA, j1, hrun.eq]
  exact ⟨rfl, hr2, fun j hj => (hr3 j hj).trans (hfr j hj), _, rfl, by rw [<- hgoal]; simpa using hr4⟩
 ·
  obtain ⟨X1, X2, rfl, hX1⟩ : ∃ X1 X2, X = X1 ++ X2 /\ X1.length = Y.length := ⟨X.take Y.length, X.drop Y.length, (List.take_append_drop _ _).symm, by rw [List.length_take]; omega⟩
  rw [List.length_append] at q hx hlen hR hl j1 |-
  obtain ⟨r, σ', hrun, hr1, hr2, hr3, l', rfl, hr4⟩ := c147 (h := h1) (n := n1) (id := id) (N := N) P1 X1 X2 Y S1 hX1 (by simp only [List.length_append]; omega) hN2 (by simpa using hr)
  subst hr1
  rw [show P1.length + X1.length + X2.length = P.length + A.length by omega, hX1] at hrun
  have j3 : ((X1.length + X2.length : Nat) : Int) - (Y.length : Nat) = ((X2.length : Nat) : Int) := by omega
  have ne : decide (((X1.length + X2.length : Nat) : Int) ≠ (Y.length : Nat)) = true := decide_eq_true (by omega)
  simp (disch := first | omega | assumption | (intros; simp only [dl2]; try omega)) only [aa, eb, ne, cy, bB, cL, cJ, aD, j1, j3, hrun.eq]
  have := hR (P1 ++ Y, X2, X1, S1) σ' ⟨hr2, fun j hj => (hr3 j hj).trans (hfr j hj), fun (e : X2 = []) => by rw [e, List.length_nil] at q; omega, fun (e : X1 = []) => by rw [e, List.length_nil] at hX1; omega, by dsimp only; rw [List.length_append]; omega, by dsimp only; rw [<- hgoal]; simp, by simpa using hr4⟩ (by dsimp only; omega)
  dsimp only at this
  rw [hX1] at this
  exact this
theorem x137 (a0 a1 a2 a3 a4 : AV) {σ : AS} {Q : AV -> AS -> Prop} (h : w137 (av T0) a0 a1 a2 a3 a4 σ Q) : ∃ r σ', Runs T0 137 [a0, a1, a2, a3, a4] σ r σ' /\ Q r σ' :=
 Runs.ex (by kernel_rfl) (by kernel_rfl) (show T0.fn 137 = some Tryz.f137 by kernel_rfl) (by kernel_rfl) (by kernel_rfl) (by kernel_rfl) (by rw [w137_eq] at h; exact h)
theorem cvA {h : Tr AB} (n : Int) : cV T0 h 3 137 (.i .i64 n) = some (.i .u64 (IntKind.wrap .u64 n)) := by kernel_rfl
theorem cvB {h : Tr AB} (n : Int) : cV T0 h 137 3 (.i .u64 n) = some (.i .i64 (IntKind.wrap .i64 n)) := by kernel_rfl
theorem wru {x : Nat} (hx : x <= 9000000) : IntKind.wrap .u64 (x : Nat) = (x : Nat) := by
 unfold IntKind.wrap; simp [IntKind.bits, IntKind.signed]; omega
theorem wQ (x : Nat) : af T0 .shr 137 true (.i .u64 (x : Nat)) (.i .u64 1) = some (.i .u64 ((x / 2 : Nat) : Int)) := by
 have : af T0 .shr 137 true (.i .u64 (x : Nat)) (.i .u64 1) = some (.i .u64 (((x : Nat) : Int).fdiv 2)) := by kernel_rfl
 have e : ((x : Nat) : Int).fdiv 2 = ((x / 2 : Nat) : Int) := by rw [Int.fdiv_eq_ediv_of_nonneg _ (by omega)]; omega
 rw [this, e]
theorem nF {L R : List Fld} {i : Nat} (hi : i < L.length) (h : ∀ y R', R = y :: R' -> ltF y (L.getD i default) = false) : jX ltF (L.take (i + 1)) R := by
 intro L' x y R' h1 h2
 rw [dF hi] at h1
 have := (List.append_inj' h1 rfl).2
 injection this with this
 rw [<- this]; exact h y R' h2
theorem nG {L R : List Fld} {i : Nat} (hi : i < R.length) (h : ∀ L' x, L = L' ++ [x] -> ltF (R.getD i default) x = false) : jX ltF L (R.drop i) := by
 intro L' x y R' h1 h2
 rw [dc hi] at h2
 injection h2 with h2 h3
 rw [<- h2]; exact h L' x h1
theorem pJ {R : List Fld} : jX ltF [] R := fun L' u w R' q _ => by simp at q
theorem pI {L : List Fld} : jX ltF L [] := fun L' u w R' _ q => by cases q
theorem pN {U V W : List Fld} {i : Nat} (hi : i < V.length) : (U ++ V ++ W).getD (U.length + i) default = V.getD i default := by
 simp only [List.getD_eq_getElem?_getD, List.append_assoc]
 rw [List.getElem?_append_right (by omega), Nat.add_sub_cancel_left, List.getElem?_append_left hi]
theorem c137_a {h : Tr AB} {n id N : Nat} (P B S : List Fld) (x : Fld) (hB : Srt ltF B) (hN : N = (P ++ [x] ++ B ++ S).length) (hN2 : N <= 1000000) (hg : cD h id (P ++ [x] ++ B ++ S)) :
  ∃ r σ', Runs T0 137 [.sl id 0 N none, .i .i64 (P.length : Nat), .i .i64 ((P.length + 1 : Nat) : Int), .i .i64 ((P.length + 1 + B.length : Nat) : Int), .fn 105 [] []] ⟨h, n⟩ r σ' /\ um h n id r σ' (fun l' => ∃ C, l' = P ++ C ++ S /\ C.Perm ([x] ++ B) /\ Srt ltF C) := by
 refine x137 _ _ _ _ _ ?_
 unfold w137
 dsimp only [av]
 simp only [List.length_append, List.length_singleton] at hN
 have i1 : ((P.length + 1 : Nat) : Int) - (P.length : Nat) = 1 := by omega
 rw [bB, aa, cL (by omega) (by omega), i1, bZ, aa, decide_eq_true rfl, aD]
 refine ij (X := Nat × Nat) (fun _ => .sl id 0 N none) (fun y => .i .i64 ((P.length + 1 + y.1 : Nat) : Int)) (fun _ => .i .i64 (P.length : Nat)) (fun _ => .fn 105 [] []) (fun y => .i .i64 ((P.length + 1 + y.2 : Nat) : Int))
  (fun y σ => σ = ⟨h, n⟩ /\ y.1 <= y.2 /\ y.2 <= B.length /\ jX ltF (B.take y.1) [x] /\ jX ltF [x] (B.drop y.2)) (fun y => y.2 - y.1) ?_ (0, B.length) _
  ⟨rfl, Nat.zero_le _, Nat.le_refl _, pJ, by dsimp only; rw [List.drop_length]; exact pI⟩
 rintro R ⟨lo, hi⟩ σ ⟨rfl, h1, h2, m1, m2⟩ hR
 dsimp only at h1 h2 m1 m2 hR |-
 have hx : (P ++ [x] ++ B ++ S).getD P.length default = x := by rw [List.append_assoc P, List.append_assoc P]; exact gi
 have ldx : ac T0 h 52 (.ptr id (P.length * (5 + 1))) = some (ay x) := by rw [rl hg (by simp), hx]
 by_cases q : lo < hi
 ·obtain ⟨mi, hmi⟩ : ∃ mi, mi = (lo + hi) / 2 := ⟨_, rfl⟩
  have b1 : lo <= mi /\ mi < hi := by omega
  have i2 : ((P.length + 1 + lo : Nat) : Int) + ((P.length + 1 + hi : Nat) : Int) = ((2 * P.length + 2 + lo + hi : Nat) : Int) := by omega
  have i3 : (2 * P.length + 2 + lo + hi) / 2 = P.length + 1 + mi := by omega
  have ldm : ac T0 h 52 (.ptr id ((P.length + 1 + mi) * (5 + 1))) = some (ay (B.getD mi default)) := by
   rw [rl hg (by simp; omega)]
   have := pN (U := P ++ [x]) (V := B) (W := S) (i := mi) (by omega)
   rw [List.length_append, List.length_singleton] at this
   rw [this]
  have i4 : ((P.length + 1 + mi : Nat) : Int) + 1 = ((P.length + 1 + (mi + 1) : Nat) : Int) := by omega
  cases hc : ltF (B.getD mi default) x
  ·simp (disch := first | omega | assumption | (intros; simp only [dl2]; try omega)) only [cm, tA, i2, cvA, wru, wQ, i3, cvB, ldm, ldx, hc]
   exact hR (lo, mi) _ ⟨rfl, b1.1, by dsimp only; omega, m1, nG (by omega) (fun L' u e => by
    have := (List.append_inj' (show [] ++ [x] = L' ++ [u] from e) rfl).2
    injection this with this
    rw [<- this]; exact hc)⟩ (by dsimp only; omega)
  ·simp (disch := first | omega | assumption | (intros; simp only [dl2]; try omega)) only [cm, tA, i2, cvA, wru, wQ, i3, cvB, ldm, ldx, hc, i4]
   exact hR (mi + 1, hi) _ ⟨rfl, by dsimp only; omega, h2, nF (by omega) (fun y R' e => by injection e with e1 e2; rw [<- e1]; exact ordF.asym _ _ hc), m2⟩ (by dsimp only; omega)
 ·obtain rfl : lo = hi := by omega
  rw [dl, aa, decide_eq_false (by omega), aA]
  clear hR
  refine fL (X := Nat) (fun _ => .sl id 0 N none) (fun _ => .i .i64 ((P.length + 1 + lo : Nat) : Int)) (fun c => .i .i64 ((P.length + c : Nat) : Int))
   (fun c σ => σ.n = n /\ (∀ j, j ≠ id -> σ.h.get j = h.get j) /\ c <= lo /\ cD σ.h id (P ++ B.take c ++ x :: (B.drop c ++ S))) (fun c => lo - c) ?_ 0 _
   ⟨rfl, fun j _ => rfl, Nat.zero_le _, by rw [List.take_zero, List.drop_zero]; simpa using hg⟩
  rintro R c ⟨h1', n1⟩ ⟨hn, hfr, hc, hr⟩ hR
  dsimp only at hn hfr hr hR |-
  subst hn
  have i5 : ((P.length + 1 + lo : Nat) : Int) - 1 = ((P.length + lo : Nat) : Int) := by omega
  by_cases q2 : c < lo
  ·have hcB : c < B.length := by omega
   obtain ⟨y, hy⟩ : ∃ y, y = B.getD c default := ⟨_, rfl⟩
   obtain ⟨U, hU⟩ : ∃ U, U = P ++ B.take c := ⟨_, rfl⟩
   obtain ⟨W, hW⟩ : ∃ W, W = B.drop (c + 1) ++ S := ⟨_, rfl⟩
   have hUl : U.length = P.length + c := by rw [hU, List.length_append, List.length_take]; omega
   have hWl : W.length = B.length - (c + 1) + S.length := by rw [hW, List.length_append, List.length_drop]
   have hr' : cD h1' id (U ++ x :: y :: W) := by rw [hU, hy, hW]; rw [dc hcB] at hr; simpa using hr
   have ll : (U ++ x :: y :: W).length = N := by simp only [List.length_append, List.length_cons]; omega
   have d0 : ac T0 h1' 52 (.ptr id (U.length * (5 + 1))) = some (ay x) := by rw [rl hr' (by omega), gi]
   have d1 : ac T0 h1' 52 (.ptr id ((U.length + 1) * (5 + 1))) = some (ay y) := by rw [rl hr' (by omega), nT]
   have s1 : ba T0 h1' 52 (.ptr id (U.length * (5 + 1))) (ay y) = some (id, .cells (aw ay (U ++ y :: y :: W)) 52 true) := by rw [rs hr' (by omega), kS]
   have hr2 : cD (h1'.put id (some (.cells (aw ay (U ++ y :: y :: W)) 52 true))) id (U ++ y :: y :: W) := ah _ _ _
   have s2 : ba T0 (h1'.put id (some (.cells (aw ay (U ++ y :: y :: W)) 52 true))) 52 (.ptr id ((U.length + 1) * (5 + 1))) (ay x) = some (id, .cells (aw ay (U ++ y :: x :: W)) 52 true) := by rw [rs hr2 (by simp), qq]
   have i6 : ((U.length : Nat) : Int) + 1 = ((U.length + 1 : Nat) : Int) := by omega
   have i7 : decide (((U.length : Nat) : Int) < ((P.length + lo : Nat) : Int)) = true := decide_eq_true (by omega)
   rw [<- hUl]
   simp (disch := first | omega | assumption | (intros; simp only [dl2]; try omega)) only [cm, bB, cL, i5, i7, aD, aC, i6, jT, d0, d1, s1, bI]
   rw [eN rfl rfl]
   try simp (disch := first | omega | assumption | (intros; simp only [dl2]; try omega)) only [aa, jT]
   rw [kv rfl, s2, bI, eN rfl rfl, eD]
   try simp (disch := first | omega | assumption | (intros; simp only [dl2]; try omega)) only [aa, aC, cL, i6]
   have := hR (c + 1) ⟨(h1'.put id (some (.cells (aw ay (U ++ y :: y :: W)) 52 true))).put id (some (.cells (aw ay (U ++ y :: x :: W)) 52 true)), n1⟩
    ⟨rfl, fun j hj => by dsimp only; rw [ae _ _ hj, ae _ _ hj]; exact hfr j hj, by omega, by
     have : P ++ B.take (c + 1) ++ x :: (B.drop (c + 1) ++ S) = U ++ y :: x :: W := by rw [hU, hy, hW, dF hcB]; simp
     dsimp only; rw [this]; exact ah _ _ _⟩ (by omega)
   rw [show P.length + (c + 1) = U.length + 1 by omega] at this
   exact this
  ·obtain rfl : c = lo := by omega
   rw [bB, aa, cL (by omega) (by omega), i5, dl, aa, decide_eq_false (by omega), aA]
   refine ⟨rfl, rfl, hfr, _, ⟨B.take c ++ [x] ++ B.drop c, rfl, ?_, into ordF (by rw [List.take_append_drop]; exact hB) m1 m2⟩, by simpa using hr⟩
   have := List.perm_middle (l₁ := B.take c) (l₂ := B.drop c) (a := x)
   rw [List.take_append_drop] at this
   simpa using this
theorem c137_b {h : Tr AB} {n id N : Nat} (P A S : List Fld) (x : Fld) (hA : Srt ltF A) (h1A : A.length ≠ 1) (hN : N = (P ++ A ++ [x] ++ S).length) (hN2 : N <= 1000000) (hg : cD h id (P ++ A ++ [x] ++ S)) :
  ∃ r σ', Runs T0 137 [.sl id 0 N none, .i .i64 (P.length : Nat), .i .i64 ((P.length + A.length : Nat) : Int), .i .i64 ((P.length + A.length + 1 : Nat) : Int), .fn 105 [] []] ⟨h, n⟩ r σ' /\ um h n id r σ' (fun l' => ∃ C, l' = P ++ C ++ S /\ C.Perm (A ++ [x]) /\ Srt ltF C) := by
 refine x137 _ _ _ _ _ ?_
 unfold w137
 dsimp only [av]
 simp only [List.length_append, List.length_singleton] at hN
 have i0 : ((P.length + A.length : Nat) : Int) - (P.length : Nat) = ((A.length : Nat) : Int) := by omega
 have i1 : ((P.length + A.length + 1 : Nat) : Int) - ((P.length + A.length : Nat) : Int) = 1 := by omega
 rw [bB, aa, cL (by omega) (by omega), i0, bZ, aa, decide_eq_false (by omega), aA]
 rw [bB, aa, cL (by omega) (by omega), i1, bZ, aa, decide_eq_true rfl, aD]
 refine ij (X := Nat × Nat) (fun _ => .sl id 0 N none) (fun y => .i .i64 ((P.length + y.1 : Nat) : Int)) (fun _ => .i .i64 ((P.length + A.length : Nat) : Int)) (fun _ => .fn 105 [] []) (fun y => .i .i64 ((P.length + y.2 : Nat) : Int))
  (fun y σ => σ = ⟨h, n⟩ /\ y.1 <= y.2 /\ y.2 <= A.length /\ jX ltF (A.take y.1) [x] /\ jX ltF [x] (A.drop y.2)) (fun y => y.2 - y.1) ?_ (0, A.length) _
  ⟨rfl, Nat.zero_le _, Nat.le_refl _, pJ, by dsimp only; rw [List.drop_length]; exact pI⟩
 rintro R ⟨lo, hi⟩ σ ⟨rfl, h1, h2, m1, m2⟩ hR
 dsimp only at h1 h2 m1 m2 hR |-
 have hx : (P ++ A ++ [x] ++ S).getD (P.length + A.length) default = x := by
  rw [<- List.length_append, List.append_assoc (P ++ A)]; exact gi
 have ldx : ac T0 h 52 (.ptr id ((P.length + A.length) * (5 + 1))) = some (ay x) := by rw [rl hg (by simp), hx]
 by_cases q : lo < hi
 ·obtain ⟨mi, hmi⟩ : ∃ mi, mi = (lo + hi) / 2 := ⟨_, rfl⟩
  have b1 : lo <= mi /\ mi < hi := by omega
  have i2 : ((P.length + lo : Nat) : Int) + ((P.length + hi : Nat) : Int) = ((2 * P.length + lo + hi : Nat) : Int) := by omega
  have i3 : (2 * P.length + lo + hi) / 2 = P.length + mi := by omega
  have ldm : ac T0 h 52 (.ptr id ((P.length + mi) * (5 + 1))) = some (ay (A.getD mi default)) := by
   rw [rl hg (by simp; omega)]
   have := pN (U := P) (V := A) (W := [x] ++ S) (i := mi) (by omega)
   rw [<- this]; congr 2; simp
  have i4 : ((P.length + mi : Nat) : Int) + 1 = ((P.length + (mi + 1) : Nat) : Int) := by omega
  cases hc : ltF x (A.getD mi default)
  ·simp (disch := first | omega | assumption | (intros; simp only [dl2]; try omega)) only [cm, tA, i2, cvA, wru, wQ, i3, cvB, ldm, ldx, hc, cN, Bool.not_false, Bool.not_true, i4]
   exact hR (mi + 1, hi) _ ⟨rfl, by dsimp only; omega, h2, nF (by omega) (fun y R' e => by injection e with e1 e2; rw [<- e1]; exact hc), m2⟩ (by dsimp only; omega)
  ·simp (disch := first | omega | assumption | (intros; simp only [dl2]; try omega)) only [cm, tA, i2, cvA, wru, wQ, i3, cvB, ldm, ldx, hc, cN, Bool.not_false, Bool.not_true]
   exact hR (lo, mi) _ ⟨rfl, b1.1, by dsimp only; omega, m1, nG (by omega) (fun L' u e => by
    have := (List.append_inj' (show [] ++ [x] = L' ++ [u] from e) rfl).2
    injection this with this
    rw [<- this]; exact ordF.asym _ _ hc)⟩ (by dsimp only; omega)
 ·obtain rfl : lo = hi := by omega
  rw [dl, aa, decide_eq_false (by omega), aA]
  clear hR
  refine fL (X := Nat) (fun _ => .sl id 0 N none) (fun _ => .i .i64 ((P.length + lo : Nat) : Int)) (fun c => .i .i64 ((P.length + c : Nat) : Int))
   (fun c σ => σ.n = n /\ (∀ j, j ≠ id -> σ.h.get j = h.get j) /\ lo <= c /\ c <= A.length /\ cD σ.h id (P ++ A.take c ++ x :: (A.drop c ++ S))) (fun c => c - lo) ?_ A.length _
   ⟨rfl, fun j _ => rfl, h2, Nat.le_refl _, by rw [List.take_length, List.drop_length]; simpa using hg⟩
  rintro R c ⟨h1', n1⟩ ⟨hn, hfr, hc, hc2, hr⟩ hR
  dsimp only at hn hfr hr hR |-
  subst hn
  by_cases q2 : lo < c
  ·obtain ⟨c, rfl⟩ : ∃ d, c = d + 1 := ⟨c - 1, by omega⟩
   have hcA : c < A.length := by omega
   obtain ⟨y, hy⟩ : ∃ y, y = A.getD c default := ⟨_, rfl⟩
   obtain ⟨U, hU⟩ : ∃ U, U = P ++ A.take c := ⟨_, rfl⟩
   obtain ⟨W, hW⟩ : ∃ W, W = A.drop (c + 1) ++ S := ⟨_, rfl⟩
   have hUl : U.length = P.length + c := by rw [hU, List.length_append, List.length_take]; omega
   have hWl : W.length = A.length - (c + 1) + S.length := by rw [hW, List.length_append, List.length_drop]
   have hr' : cD h1' id (U ++ y :: x :: W) := by rw [hU, hy, hW]; rw [dF hcA] at hr; simpa using hr
   have ll : (U ++ y :: x :: W).length = N := by simp only [List.length_append, List.length_cons]; omega
   have d0 : ac T0 h1' 52 (.ptr id (U.length * (5 + 1))) = some (ay y) := by rw [rl hr' (by omega), gi]
   have d1 : ac T0 h1' 52 (.ptr id ((U.length + 1) * (5 + 1))) = some (ay x) := by rw [rl hr' (by omega), nT]
   have s1 : ba T0 h1' 52 (.ptr id ((U.length + 1) * (5 + 1))) (ay y) = some (id, .cells (aw ay (U ++ y :: y :: W)) 52 true) := by rw [rs hr' (by omega), qq]
   have hr2 : cD (h1'.put id (some (.cells (aw ay (U ++ y :: y :: W)) 52 true))) id (U ++ y :: y :: W) := ah _ _ _
   have s2 : ba T0 (h1'.put id (some (.cells (aw ay (U ++ y :: y :: W)) 52 true))) 52 (.ptr id (U.length * (5 + 1))) (ay x) = some (id, .cells (aw ay (U ++ x :: y :: W)) 52 true) := by rw [rs hr2 (by simp), kS]
   have i6 : ((U.length + 1 : Nat) : Int) - 1 = ((U.length : Nat) : Int) := by omega
   have i7 : decide (((P.length + lo : Nat) : Int) < ((U.length + 1 : Nat) : Int)) = true := decide_eq_true (by omega)
   rw [show P.length + (c + 1) = U.length + 1 by omega]
   simp (disch := first | omega | assumption | (intros; simp only [dl2]; try omega)) only [aa, cy, i7, aD, bB, cL, i6, jT, d0, d1, s1, bI]
   rw [eN rfl rfl]
   try simp (disch := first | omega | assumption | (intros; simp only [dl2]; try omega)) only [aa, jT]
   rw [kv rfl, s2, bI, eN rfl rfl, eD]
   try simp (disch := first | omega | assumption | (intros; simp only [dl2]; try omega)) only [aa, bB, cL, i6]
   have := hR c ⟨(h1'.put id (some (.cells (aw ay (U ++ y :: y :: W)) 52 true))).put id (some (.cells (aw ay (U ++ x :: y :: W)) 52 true)), n1⟩
    ⟨rfl, fun j hj => by dsimp only; rw [ae _ _ hj, ae _ _ hj]; exact hfr j hj, by omega, by omega, by
     have : P ++ A.take c ++ x :: (A.drop c ++ S) = U ++ x :: y :: W := by rw [hU, hy, hW, dc hcA]; simp
     dsimp only; rw [this]; exact ah _ _ _⟩ (by omega)
   rw [<- hUl] at this
   exact this
  ·obtain rfl : c = lo := by omega
   rw [cy, aa, decide_eq_false (by omega), aA]
   refine ⟨rfl, rfl, hfr, _, ⟨A.take c ++ [x] ++ A.drop c, rfl, ?_, into ordF (by rw [List.take_append_drop]; exact hA) m1 m2⟩, by simpa using hr⟩
   have := List.perm_middle (l₁ := A.take c) (l₂ := A.drop c) (a := x)
   rw [List.take_append_drop] at this
   refine List.Perm.trans (by simpa using this) ?_
   exact (List.perm_append_singleton x A).symm
theorem c137 (k : Nat) : ∀ (P A B S : List Fld) (h : Tr AB) (n id N : Nat), A.length + B.length <= k -> A ≠ [] -> B ≠ [] -> Srt ltF A -> Srt ltF B -> N = (P ++ A ++ B ++ S).length -> N <= 1000000 -> cD h id (P ++ A ++ B ++ S) ->
  ∃ r σ', Runs T0 137 [.sl id 0 N none, .i .i64 (P.length : Nat), .i .i64 ((P.length + A.length : Nat) : Int), .i .i64 ((P.length + A.length + B.length : Nat) : Int), .fn 105 [] []] ⟨h, n⟩ r σ' /\ um h n id r σ' (fun l' => ∃ C, l' = P ++ C ++ S /\ C.Perm (A ++ B) /\ Srt ltF C) := by
 induction k with
 | zero => intro P A B S h n id N hk hA; exact absurd (List.eq_nil_of_length_eq_zero (by omega)) hA
 | succ k ih =>
  intro P A B S h n id N hk hAn hBn hA hB hN hN2 hg
  have pA := nD hAn
  have pB := nD hBn
  by_cases a1 : A.length = 1
  ·obtain ⟨x, rfl⟩ : ∃ x, A = [x] := List.length_eq_one_iff.1 a1
   have := c137_a (n := n) P B S x hB hN hN2 hg
   exact this
  by_cases b1 : B.length = 1
  ·obtain ⟨x, rfl⟩ : ∃ x, B = [x] := List.length_eq_one_iff.1 b1
   exact c137_b (n := n) P A S x hA a1 hN hN2 hg
  refine x137 _ _ _ _ _ ?_
  unfold w137
  dsimp only [av]
  simp only [List.length_append] at hN
  obtain ⟨a, ha⟩ : ∃ a, a = P.length := ⟨_, rfl⟩
  obtain ⟨p, hp⟩ : ∃ p, p = A.length := ⟨_, rfl⟩
  obtain ⟨q, hq⟩ : ∃ q, q = B.length := ⟨_, rfl⟩
  obtain ⟨M, hM⟩ : ∃ M, M = (p + q) / 2 := ⟨_, rfl⟩
  have i0 : ((P.length + A.length : Nat) : Int) - (P.length : Nat) = ((A.length : Nat) : Int) := by omega
  have i1 : ((P.length + A.length + B.length : Nat) : Int) - ((P.length + A.length : Nat) : Int) = ((B.length : Nat) : Int) := by omega
  have i2 : ((P.length : Nat) : Int) + ((P.length + A.length + B.length : Nat) : Int) = ((2 * a + p + q : Nat) : Int) := by omega
  have i3 : (2 * a + p + q) / 2 = a + M := by omega
  have i4 : ((a + M : Nat) : Int) + ((P.length + A.length : Nat) : Int) = ((2 * a + M + p : Nat) : Int) := by omega
  simp (disch := first | omega | assumption | (intros; simp only [dl2]; try omega)) only [aa, bB, aC, bZ, cL, i0, i1, i2, cW, aA, cvA, wru, wQ, i3, cvB, i4]
  obtain ⟨lo0, hi0, hlh⟩ : ∃ lo0 hi0 : Nat, (M < p /\ lo0 = M - q /\ hi0 = M) ∨ (p <= M /\ lo0 = 0 /\ hi0 = p) := by
   by_cases g : M < p
   ·exact ⟨_, _, .inl ⟨g, rfl, rfl⟩⟩
   ·exact ⟨_, _, .inr ⟨by omega, rfl, rfl⟩⟩
  refine join9 (P := fun v0 v1 v2 v3 v4 v5 v6 v7 v8 σ => v0 = .fn 105 [] [] /\ v1 = .i .i64 ((a + p + q : Nat) : Int) /\ v2 = .i .i64 ((a + M : Nat) : Int) /\ v3 = .sl id 0 N none /\ v4 = .i .i64 ((a + lo0 : Nat) : Int) /\ v5 = .i .i64 (a : Nat) /\ v6 = .i .i64 ((a + p : Nat) : Int) /\ v7 = .i .i64 ((2 * a + M + p : Nat) : Int) /\ v8 = .i .i64 ((a + hi0 : Nat) : Int) /\ σ = ⟨h, n⟩) ?_ ?_
  ·intro K hK
   have hK := hK _ _ _ _ _ _ _ _ _ _ ⟨rfl, rfl, rfl, rfl, rfl, rfl, rfl, rfl, rfl, rfl⟩
   rw [ha, hp, hq] at hK
   rcases hlh with ⟨g1, g2, g3⟩ | ⟨g1, g2, g3⟩
   ·have i5 : ((2 * P.length + M + A.length : Nat) : Int) - ((P.length + A.length + B.length : Nat) : Int) = ((P.length + lo0 : Nat) : Int) := by omega
    rw [ha, hp]
    rw [g3] at hK
    simp (disch := first | omega | assumption | (intros; simp only [dl2]; try omega)) only [aa, cy, cJ, aD, bB, cL, i5]
    exact hK
   ·rw [ha, hp]
    rw [g2, g3, Nat.add_zero, hp] at hK
    simp (disch := first | omega | assumption | (intros; simp only [dl2]; try omega)) only [aa, cy, cW, aA]
    exact hK
  ·rintro v0 v1 v2 v3 v4 v5 v6 v7 v8 σ ⟨rfl, rfl, rfl, rfl, rfl, rfl, rfl, rfl, rfl, rfl⟩
   have i6 : ((2 * a + M + p : Nat) : Int) - 1 = ((2 * a + M + p - 1 : Nat) : Int) := by omega
   rw [bB, aa, cL (by omega) (by omega), i6]
   have hl0 : lo0 <= hi0 /\ hi0 <= p /\ hi0 <= M /\ M - lo0 <= q := by omega
   refine loop10 (X := Nat × Nat) (fun _ => .fn 105 [] []) (fun _ => .i .i64 ((a + p + q : Nat) : Int)) (fun _ => .i .i64 ((a + M : Nat) : Int)) (fun _ => .sl id 0 N none) (fun y => .i .i64 ((a + y.1 : Nat) : Int)) (fun _ => .i .i64 (a : Nat)) (fun _ => .i .i64 ((a + p : Nat) : Int)) (fun _ => .i .i64 ((2 * a + M + p : Nat) : Int)) (fun _ => .i .i64 ((2 * a + M + p - 1 : Nat) : Int)) (fun y => .i .i64 ((a + y.2 : Nat) : Int))
    (fun y σ => σ = ⟨h, n⟩ /\ lo0 <= y.1 /\ y.1 <= y.2 /\ y.2 <= hi0 /\ jX ltF (A.take y.1) (B.drop (M - y.1)) /\ jX ltF (B.take (M - y.2)) (A.drop y.2)) (fun y => y.2 - y.1) ?_ (lo0, hi0) _
    ⟨rfl, Nat.le_refl _, hl0.1, Nat.le_refl _, by
     dsimp only
     rcases hlh with ⟨g1, g2, g3⟩ | ⟨g1, g2, g3⟩
     ·rw [List.drop_of_length_le (show B.length <= M - lo0 by omega)]; exact pI
     ·rw [g2, List.take_zero]; exact pJ, by
     dsimp only
     rcases hlh with ⟨g1, g2, g3⟩ | ⟨g1, g2, g3⟩
     ·rw [g3, Nat.sub_self, List.take_zero]; exact pJ
     ·rw [List.drop_of_length_le (show A.length <= hi0 by omega)]; exact pI⟩
   rintro R ⟨lo, hi⟩ σ ⟨rfl, h1, h2, h3, m1, m2⟩ hR
   dsimp only at h1 h2 h3 m1 m2 hR |-
   by_cases hlt : lo < hi
   ·obtain ⟨c, hc⟩ : ∃ c, c = (lo + hi) / 2 := ⟨_, rfl⟩
    have bc : lo <= c /\ c < hi := by omega
    have i7 : ((a + lo : Nat) : Int) + ((a + hi : Nat) : Int) = ((2 * a + lo + hi : Nat) : Int) := by omega
    have i8 : (2 * a + lo + hi) / 2 = a + c := by omega
    obtain ⟨d, hd⟩ : ∃ d, d = M - 1 - c := ⟨_, rfl⟩
    have i9 : ((2 * a + M + p - 1 : Nat) : Int) - ((a + c : Nat) : Int) = ((a + p + d : Nat) : Int) := by omega
    have i10 : ((a + c : Nat) : Int) + 1 = ((a + (c + 1) : Nat) : Int) := by omega
    have ldc : ac T0 h 52 (.ptr id ((a + c) * (5 + 1))) = some (ay (A.getD c default)) := by
     rw [rl hg (by simp; omega), ha]
     have := pN (U := P) (V := A) (W := B ++ S) (i := c) (by omega)
     rw [<- this]; congr 2; simp
    have ldd : ac T0 h 52 (.ptr id ((a + p + d) * (5 + 1))) = some (ay (B.getD d default)) := by
     rw [rl hg (by simp; omega), ha, hp]
     have := pN (U := P ++ A) (V := B) (W := S) (i := d) (by omega)
     rw [List.length_append] at this
     rw [<- this]
    cases hcmp : ltF (B.getD d default) (A.getD c default)
    ·simp (disch := first | omega | assumption | (intros; simp only [dl2]; try omega)) only [cm, tA, bB, i7, cvA, wru, wQ, i8, cvB, i9, ldc, ldd, hcmp, cN, Bool.not_false, Bool.not_true, i10]
     refine hR (c + 1, hi) _ ⟨rfl, by dsimp only; omega, by dsimp only; omega, h3, ?_, m2⟩ (by dsimp only; omega)
     dsimp only
     refine nF (by omega) (fun y R' e => ?_)
     rw [show M - (c + 1) = d by omega, dc (show d < B.length by omega)] at e
     injection e with e1 e2
     rw [<- e1]; exact hcmp
    ·simp (disch := first | omega | assumption | (intros; simp only [dl2]; try omega)) only [cm, tA, bB, i7, cvA, wru, wQ, i8, cvB, i9, ldc, ldd, hcmp, cN, Bool.not_false, Bool.not_true]
     refine hR (lo, c) _ ⟨rfl, h1, bc.1, by dsimp only; omega, m1, ?_⟩ (by dsimp only; omega)
     dsimp only
     refine nG (by omega) (fun L' x e => ?_)
     rw [show M - c = d + 1 by omega, dF (show d < B.length by omega)] at e
     have := (List.append_inj' e rfl).2
     injection this with this
     rw [<- this]; exact ordF.asym _ _ hcmp
   ·obtain rfl : lo = hi := by omega
    rw [dl, aa, decide_eq_false (by omega), aA]
    clear hR
    obtain ⟨s, hs⟩ : ∃ s, s = lo := ⟨_, rfl⟩
    rw [<- hs] at m1 m2 h1 h3 |-
    obtain ⟨A1, hA1⟩ : ∃ l, l = A.take s := ⟨_, rfl⟩
    obtain ⟨A2, hA2⟩ : ∃ l, l = A.drop s := ⟨_, rfl⟩
    obtain ⟨B1, hB1⟩ : ∃ l, l = B.take (M - s) := ⟨_, rfl⟩
    obtain ⟨B2, hB2⟩ : ∃ l, l = B.drop (M - s) := ⟨_, rfl⟩
    have sA : A = A1 ++ A2 := by rw [hA1, hA2, List.take_append_drop]
    have sB : B = B1 ++ B2 := by rw [hB1, hB2, List.take_append_drop]
    have lA1 : A1.length = s := by rw [hA1, List.length_take]; omega
    have lA2 : A2.length = p - s := by rw [hA2, List.length_drop, <- hp]
    have lB1 : B1.length = M - s := by rw [hB1, List.length_take]; omega
    have lB2 : B2.length = q - (M - s) := by rw [hB2, List.length_drop, <- hq]
    rw [<- hA1, <- hB2] at m1
    rw [<- hB1, <- hA2] at m2
    have hA' : Srt ltF (A1 ++ A2) := by rw [<- sA]; exact hA
    have hB' : Srt ltF (B1 ++ B2) := by rw [<- sB]; exact hB
    have hall := halves ordF hA' hB' m1 m2
    have hg' : cD h id (P ++ A1 ++ A2 ++ (B1 ++ B2) ++ S) := by
     have : P ++ A1 ++ A2 ++ (B1 ++ B2) ++ S = P ++ A ++ B ++ S := by rw [sA, sB]; simp
     rw [this]; exact hg
    have j0 : ((2 * a + M + p : Nat) : Int) - ((a + s : Nat) : Int) = ((a + p + (M - s) : Nat) : Int) := by omega
    rw [bB, aa, cL (by omega) (by omega), j0]
    refine join7 (P := fun v0 v1 v2 v3 v4 v5 v6 σ => v0 = .fn 105 [] [] /\ v1 = .i .i64 ((a + p + q : Nat) : Int) /\ v2 = .i .i64 ((a + p + (M - s) : Nat) : Int) /\ v3 = .i .i64 ((a + M : Nat) : Int) /\ v4 = .sl id 0 N none /\ v5 = .i .i64 ((a + s : Nat) : Int) /\ v6 = .i .i64 (a : Nat) /\ σ.n = n /\ (∀ j, j ≠ id -> σ.h.get j = h.get j) /\ cD σ.h id (P ++ A1 ++ B1 ++ (A2 ++ B2 ++ S))) ?_ ?_
    ·intro K hK
     by_cases g1 : s < p
     ·by_cases g2 : s < M
      ·obtain ⟨r, σ', hrun, hr1, hr2, hr3, l', rfl, hr4⟩ := c144 (n := n) (N := N) (P ++ A1) A2 B1 (B2 ++ S) (fun e => by rw [e, List.length_nil] at lA2; omega) (fun e => by rw [e, List.length_nil] at lB1; omega) (by simp only [List.length_append]; omega) hN2 (by simpa using hg')
       rw [List.length_append, <- ha, lA1, lA2, lB1, show a + s + (p - s) = a + p by omega] at hrun
       subst hr1
       simp (disch := first | omega | assumption | (intros; simp only [dl2]; try omega)) only [cm, cJ, ja, be, aD, hrun.eq]
       exact hK _ _ _ _ _ _ _ _ ⟨rfl, rfl, rfl, rfl, rfl, rfl, rfl, hr2, hr3, by simpa using hr4⟩
      ·have e : B1 = [] := List.eq_nil_of_length_eq_zero (by omega)
       simp (disch := first | omega | assumption | (intros; simp only [dl2]; try omega)) only [cm, cJ, cW, ja, be, aA]
       exact hK _ _ _ _ _ _ _ _ ⟨rfl, rfl, rfl, rfl, rfl, rfl, rfl, rfl, fun j _ => rfl, by rw [e] at hg' |-; simpa using hg'⟩
     ·have e : A2 = [] := List.eq_nil_of_length_eq_zero (by omega)
      simp (disch := first | omega | assumption | (intros; simp only [dl2]; try omega)) only [cm, cW, mL, bY, aA]
      exact hK _ _ _ _ _ _ _ _ ⟨rfl, rfl, rfl, rfl, rfl, rfl, rfl, rfl, fun j _ => rfl, by rw [e] at hg' |-; simpa using hg'⟩
    ·rintro v0 v1 v2 v3 v4 v5 v6 ⟨h1', n1⟩ ⟨rfl, rfl, rfl, rfl, rfl, rfl, rfl, hn1, hf1, hr1⟩
     dsimp only at hn1 hf1 hr1
     subst hn1
     refine join5 (P := fun v0 v1 v2 v3 v4 σ => v0 = .fn 105 [] [] /\ v1 = .i .i64 ((a + p + q : Nat) : Int) /\ v2 = .i .i64 ((a + p + (M - s) : Nat) : Int) /\ v3 = .i .i64 ((a + M : Nat) : Int) /\ v4 = .sl id 0 N none /\ σ.n = n1 /\ (∀ j, j ≠ id -> σ.h.get j = h.get j) /\ ∃ C1, C1.Perm (A1 ++ B1) /\ Srt ltF C1 /\ cD σ.h id (P ++ C1 ++ (A2 ++ B2 ++ S))) ?_ ?_
     ·intro K hK
      by_cases g1 : 0 < s
      ·by_cases g2 : s < M
       ·obtain ⟨r, σ', hrun, hr1', hr2, hr3, l', ⟨C1, rfl, hr5, hr6⟩, hr4⟩ := ih P A1 B1 (A2 ++ B2 ++ S) h1' n1 id N (by omega) (fun e => by rw [e, List.length_nil] at lA1; omega) (fun e => by rw [e, List.length_nil] at lB1; omega) hA'.left hB'.left (by simp only [List.length_append]; omega) hN2 (by simpa using hr1)
        rw [<- ha, lA1, lB1, show a + s + (M - s) = a + M by omega] at hrun
        subst hr1'
        simp (disch := first | omega | assumption | (intros; simp only [dl2]; try omega)) only [cm, cJ, ja, be, aD, hrun.eq]
        exact hK _ _ _ _ _ _ ⟨rfl, rfl, rfl, rfl, rfl, hr2, fun j hj => (hr3 j hj).trans (hf1 j hj), C1, hr5, hr6, hr4⟩
       ·have e : B1 = [] := List.eq_nil_of_length_eq_zero (by omega)
        simp (disch := first | omega | assumption | (intros; simp only [dl2]; try omega)) only [cm, cJ, cW, ja, be, aA]
        exact hK _ _ _ _ _ _ ⟨rfl, rfl, rfl, rfl, rfl, rfl, hf1, A1 ++ B1, List.Perm.refl _, by rw [e, List.append_nil]; exact hA'.left, by simpa using hr1⟩
      ·have e : A1 = [] := List.eq_nil_of_length_eq_zero (by omega)
       simp (disch := first | omega | assumption | (intros; simp only [dl2]; try omega)) only [cm, cW, mL, bY, aA]
       exact hK _ _ _ _ _ _ ⟨rfl, rfl, rfl, rfl, rfl, rfl, hf1, A1 ++ B1, List.Perm.refl _, by rw [e, List.nil_append]; exact hB'.left, by simpa using hr1⟩
     ·rintro v0 v1 v2 v3 v4 ⟨h2', n2⟩ ⟨rfl, rfl, rfl, rfl, rfl, hn2, hf2, C1, hC1, hC1s, hr2⟩
      dsimp only at hn2 hf2 hr2
      subst hn2
      have lC1 : C1.length = M := by have := hC1.length_eq; rw [List.length_append] at this; omega
      have fin : ∀ (C2 : List Fld) (h3 : Tr AB), (∀ j, j ≠ id -> h3.get j = h.get j) -> C2.Perm (A2 ++ B2) -> Srt ltF C2 -> cD h3 id (P ++ C1 ++ C2 ++ S) -> um h n2 id (.tup []) ⟨h3, n2⟩ (fun l' => ∃ C, l' = P ++ C ++ S /\ C.Perm (A ++ B) /\ Srt ltF C) := fun C2 h3 hf3 hC2 hC2s hr3 => by
       refine ⟨rfl, rfl, hf3, _, ⟨C1 ++ C2, rfl, ?_, ?_⟩, by simpa using hr3⟩
       ·refine (List.Perm.append hC1 hC2).trans ?_
        rw [sA, sB]
        simp only [List.append_assoc]
        refine List.Perm.append_left A1 ?_
        rw [<- List.append_assoc, <- List.append_assoc]
        exact List.Perm.append_right B2 List.perm_append_comm
       ·exact glue_all hC1s hC2s (qj (rI hall hC1) hC2)
      by_cases g1 : s < p
      ·by_cases g2 : p - s < p + q - M
       ·obtain ⟨r, σ', hrun, hr1', hr2', hr3, l', ⟨C2, rfl, hr5, hr6⟩, hr4⟩ := ih (P ++ C1) A2 B2 S h2' n2 id N (by omega) (fun e => by rw [e, List.length_nil] at lA2; omega) (fun e => by rw [e, List.length_nil] at lB2; omega) hA'.right hB'.right (by simp only [List.length_append]; omega) hN2 (by simpa using hr2)
        rw [List.length_append, <- ha, lC1, lA2, lB2, show a + M + (p - s) = a + p + (M - s) by omega, show a + p + (M - s) + (q - (M - s)) = a + p + q by omega] at hrun
        subst hr1'
        simp (disch := first | omega | assumption | (intros; simp only [dl2]; try omega)) only [cm, cJ, ja, be, aD, hrun.eq]
        obtain ⟨h4, n4⟩ := σ'
        dsimp only at hr2' hr3 hr4
        subst hr2'
        exact fin C2 h4 (fun j hj => (hr3 j hj).trans (hf2 j hj)) hr5 hr6 hr4
       ·have e : B2 = [] := List.eq_nil_of_length_eq_zero (by omega)
        simp (disch := first | omega | assumption | (intros; simp only [dl2]; try omega)) only [cm, cJ, cW, ja, be, aA]
        exact fin (A2 ++ B2) h2' hf2 (List.Perm.refl _) (by rw [e, List.append_nil]; exact hA'.right) (by simpa using hr2)
      ·have e : A2 = [] := List.eq_nil_of_length_eq_zero (by omega)
       simp (disch := first | omega | assumption | (intros; simp only [dl2]; try omega)) only [cm, cW, mL, bY, aA]
       exact fin (A2 ++ B2) h2' hf2 (List.Perm.refl _) (by rw [e, List.nil_append]; exact hB'.right) (by simpa using hr2)
theorem x120 (a0 a1 a2 : AV) {σ : AS} {Q : AV -> AS -> Prop} (h : w120 (av T0) a0 a1 a2 σ Q) : ∃ r σ', Runs T0 120 [a0, a1, a2] σ r σ' /\ Q r σ' :=
 Runs.ex (by kernel_rfl) (by kernel_rfl) (show T0.fn 120 = some Tryz.f120 by kernel_rfl) (by kernel_rfl) (by kernel_rfl) (by kernel_rfl) (by rw [w120_eq] at h; exact h)
theorem x104 (a0 a1 : AV) {σ : AS} {Q : AV -> AS -> Prop} (h : w104 (av T0) a0 a1 σ Q) : ∃ r σ', Runs T0 104 [a0, a1] σ r σ' /\ Q r σ' :=
 Runs.ex (by kernel_rfl) (by kernel_rfl) (show T0.fn 104 = some Tryz.f104 by kernel_rfl) (by kernel_rfl) (by kernel_rfl) (by kernel_rfl) (by rw [w104_eq] at h; exact h)
def rE (bs : Nat) (Ds : List (List Fld)) : Prop := ∀ d ∈ Ds, d.length = bs /\ Srt ltF d
theorem gB {bs : Nat} : ∀ {Ds : List (List Fld)}, rE bs Ds -> Ds.flatten.length = bs * Ds.length
 | [], _ => by simp
 | d :: Ds, h => by
  have h1 := h d (List.mem_cons_self ..)
  have ih := gB (bs := bs) (Ds := Ds) (fun x hx => h x (List.mem_cons_of_mem _ hx))
  rw [List.flatten_cons, List.length_append, ih, h1.1, List.length_cons, Nat.mul_add, Nat.mul_one]; omega
theorem qz {bs : Nat} {Ds : List (List Fld)} {d : List Fld} (h : rE bs Ds) (h1 : d.length = bs) (h2 : Srt ltF d) : rE bs (Ds ++ [d]) := fun x hx => by
 rcases List.mem_append.1 hx with hx | hx
 ·exact h x hx
 ·rw [List.mem_singleton.1 hx]; exact ⟨h1, h2⟩
theorem lj (Ds : List (List Fld)) (d : List Fld) : (Ds ++ [d]).flatten = Ds.flatten ++ d := by simp
theorem c120 {h : Tr AB} {n id N : Nat} (l : List Fld) (hN : N = l.length) (hN2 : N <= 1000000) (hg : cD h id l) :
  ∃ r σ', Runs T0 120 [.sl id 0 N none, .i .i64 (N : Nat), .fn 105 [] []] ⟨h, n⟩ r σ' /\ um h n id r σ' (fun l' => l'.Perm l /\ Srt ltF l') := by
 refine x120 _ _ _ ?_
 unfold w120
 dsimp only [av]
 refine vo (X := List (List Fld) × List Fld) (fun _ => .fn 105 [] []) (fun _ => .i .i64 (N : Nat)) (fun _ => .sl id 0 N none) (fun _ => .i .i64 20) (fun y => .i .i64 ((20 * y.1.length : Nat) : Int)) (fun y => .i .i64 ((20 * y.1.length + 20 : Nat) : Int))
  (fun y σ => σ.n = n /\ (∀ j, j ≠ id -> σ.h.get j = h.get j) /\ rE 20 y.1 /\ (y.1.flatten ++ y.2).Perm l /\ cD σ.h id (y.1.flatten ++ y.2)) (fun y => y.2.length) ?_ ([], l) _
  ⟨rfl, fun j _ => rfl, fun d hd => (by cases hd), List.Perm.refl _, hg⟩
 rintro R ⟨Ds, Rr⟩ ⟨h1, n1⟩ ⟨hn, hf, hD, hp, hr⟩ hR
 dsimp only at hn hf hD hp hr hR |-
 subst hn
 have hl := hp.length_eq
 have hdl := gB hD
 rw [List.length_append] at hl
 by_cases g : 20 <= Rr.length
 ·have e1 : Rr = Rr.take 20 ++ Rr.drop 20 := (List.take_append_drop _ _).symm
  have l20 : (Rr.take 20).length = 20 := by rw [List.length_take]; omega
  obtain ⟨r, σ', hrun, hr1, hr2, hr3, l', ⟨A', rfl, hr5, hr6⟩, hr4⟩ := c136 (h := h1) (n := n1) (id := id) (N := N) Ds.flatten (Rr.take 20) (Rr.drop 20) (by rw [List.append_assoc, <- e1, List.length_append]; omega) hN2 (by rw [List.append_assoc, <- e1]; exact hr)
  rw [hdl, l20] at hrun
  subst hr1
  have i1 : ((20 * Ds.length + 20 : Nat) : Int) + 20 = ((20 * Ds.length + 20 + 20 : Nat) : Int) := by omega
  simp (disch := first | omega | assumption | (intros; simp only [dl2]; try omega)) only [aa, gX, cJ, aD, hrun.eq, aC, cL, i1]
  have hA : A'.length = 20 := by rw [hr5.length_eq, l20]
  have := hR (Ds ++ [A'], Rr.drop 20) σ' ⟨hr2, fun j hj => (hr3 j hj).trans (hf j hj), qz hD hA hr6, by
    dsimp only
    rw [lj, List.append_assoc]
    refine List.Perm.trans (List.Perm.append_left _ ?_) hp
    conv => rhs; rw [e1]
    exact List.Perm.append_right _ hr5, by dsimp only; rw [lj]; exact hr4⟩ (by dsimp only; rw [List.length_drop]; omega)
  dsimp only at this
  rw [List.length_append, List.length_singleton, show 20 * (Ds.length + 1) = 20 * Ds.length + 20 by omega] at this
  exact this
 ·obtain ⟨r, σ', hrun, hr1, hr2, hr3, l', ⟨A', rfl, hr5, hr6⟩, hr4⟩ := c136 (h := h1) (n := n1) (id := id) (N := N) Ds.flatten Rr [] (by rw [List.append_nil, List.length_append]; omega) hN2 (by rw [List.append_nil]; exact hr)
  rw [hdl, show 20 * Ds.length + Rr.length = N by omega] at hrun
  subst hr1
  rw [gX, aa, decide_eq_false (by omega), aA, hrun.eq]
  clear hR
  refine kw (X := Nat × List (List Fld) × List Fld) (fun _ => .fn 105 [] []) (fun _ => .i .i64 (N : Nat)) (fun _ => .sl id 0 N none) (fun y => .i .i64 (y.1 : Nat))
   (fun y σ => σ.n = n1 /\ (∀ j, j ≠ id -> σ.h.get j = h.get j) /\ 20 <= y.1 /\ y.1 <= 4000000 /\ rE y.1 y.2.1 /\ Srt ltF y.2.2 /\ y.2.2.length < y.1 /\ (y.2.1.flatten ++ y.2.2).Perm l /\ cD σ.h id (y.2.1.flatten ++ y.2.2)) (fun y => 4000000 - y.1) ?_ (20, Ds, A') _
   ⟨hr2, fun j hj => (hr3 j hj).trans (hf j hj), Nat.le_refl _, by dsimp only; omega, hD, hr6, by dsimp only; rw [hr5.length_eq]; omega, (List.Perm.append_left _ hr5).trans hp, by simpa using hr4⟩
  clear hr hr2 hr3 hr4 hr5 hr6 hrun hp hl hdl hD hf g
  rintro R ⟨bs, Ds, L⟩ ⟨h2, n2⟩ ⟨hn, hf, hb1, hb2, hD, hL, hLl, hp, hr⟩ hR
  dsimp only at hn hf hb1 hb2 hD hL hLl hp hr hR |-
  subst hn
  have hl := hp.length_eq
  have hdl := gB hD
  rw [List.length_append, hdl] at hl
  by_cases g : bs < N
  ·have i1 : (2 : Int) * (bs : Nat) = ((2 * bs : Nat) : Int) := by omega
   simp (disch := first | omega | assumption | (intros; simp only [dl2]; try omega)) only [cm, cJ, aD, mZ, cL, i1]
   refine vo (X := List (List Fld) × List (List Fld)) (fun _ => .fn 105 [] []) (fun _ => .i .i64 (N : Nat)) (fun _ => .sl id 0 N none) (fun _ => .i .i64 (bs : Nat)) (fun y => .i .i64 ((2 * bs * y.1.length : Nat) : Int)) (fun y => .i .i64 ((2 * bs + 2 * bs * y.1.length : Nat) : Int))
    (fun y σ => σ.n = n2 /\ (∀ j, j ≠ id -> σ.h.get j = h.get j) /\ rE (2 * bs) y.1 /\ rE bs y.2 /\ (y.1.flatten ++ (y.2.flatten ++ L)).Perm l /\ cD σ.h id (y.1.flatten ++ (y.2.flatten ++ L))) (fun y => y.2.length) ?_ ([], Ds) ⟨h2, n2⟩
    ⟨rfl, hf, fun d hd => (by cases hd), hD, hp, hr⟩
   clear hp hr hl hdl hD hf
   rintro R2 ⟨Dn, Td⟩ ⟨h3, n3⟩ ⟨hn3, hf, hDn, hTd, hp, hr⟩ hR2
   dsimp only at hn3 hf hDn hTd hp hr hR2 |-
   subst hn3
   have hl := hp.length_eq
   have l1 := gB hDn
   have l2 := gB hTd
   rw [List.length_append, List.length_append, l1, l2] at hl
   obtain ⟨u, hu⟩ : ∃ u, u = 2 * bs * Dn.length := ⟨_, rfl⟩
   rw [<- hu] at l1 hl |-
   have i3 : ((u : Nat) : Int) + (bs : Nat) = ((u + bs : Nat) : Int) := by omega
   have i4 : ((bs : Nat) : Int) * 2 = ((2 * bs : Nat) : Int) := by omega
   match Td, hTd, hp, hr, hR2, l2, hl with
   | [], hTd, hp, hr, hR2, l2, hl =>
    rw [List.length_nil, Nat.mul_zero, Nat.zero_add] at hl
    simp (disch := first | omega | assumption | (intros; simp only [dl2]; try omega)) only [cm, gX, cW, aA, aC, cL, i3, dj, mZ, i4]
    have := hR (2 * bs, Dn, L) ⟨h3, n3⟩ ⟨rfl, hf, by dsimp only; omega, by dsimp only; omega, hDn, hL, by dsimp only; omega, by simpa using hp, by simpa using hr⟩ (by dsimp only; omega)
    exact this
   | [d], hTd, hp, hr, hR2, l2, hl =>
    rw [List.length_singleton, Nat.mul_one] at hl
    have hd := hTd d (List.mem_cons_self ..)
    by_cases hL0 : L = []
    ·have : L.length = 0 := by rw [hL0]; rfl
     simp (disch := first | omega | assumption | (intros; simp only [dl2]; try omega)) only [cm, gX, cW, aA, aC, cL, i3, dj, mZ, i4]
     have := hR (2 * bs, Dn, d) ⟨h3, n3⟩ ⟨rfl, hf, by dsimp only; omega, by dsimp only; omega, hDn, hd.2, by dsimp only; omega, by rw [hL0] at hp; simpa using hp, by rw [hL0] at hr; simpa using hr⟩ (by dsimp only; omega)
     exact this
    ·have hLp := nD hL0
     have hr' : cD h3 id (Dn.flatten ++ d ++ L ++ []) := by simpa using hr
     obtain ⟨r, σ', hrun, hr1, hr2, hr3, l', ⟨C, rfl, hr5, hr6⟩, hr4⟩ := c137 _ Dn.flatten d L [] h3 n3 id N (Nat.le_refl _) (fun e => by rw [e, List.length_nil] at hd; omega) hL0 hd.2 hL (by simp only [List.length_append, List.length_nil]; omega) hN2 hr'
     rw [l1, hd.1, show u + bs + L.length = N by omega] at hrun
     subst hr1
     simp (disch := first | omega | assumption | (intros; simp only [dl2]; try omega)) only [cm, gX, cW, cJ, aA, aD, aC, cL, i3, dj, mZ, i4, hrun.eq]
     have hCl := hr5.length_eq
     rw [List.length_append] at hCl
     have := hR (2 * bs, Dn, C) σ' ⟨hr2, fun j hj => (hr3 j hj).trans (hf j hj), by dsimp only; omega, by dsimp only; omega, hDn, hr6, by dsimp only; omega, (List.Perm.append_left _ hr5).trans (by simpa using hp), by simpa using hr4⟩ (by dsimp only; omega)
     exact this
   | d1 :: d2 :: Td, hTd, hp, hr, hR2, l2, hl =>
    have hd1 := hTd d1 (List.mem_cons_self ..)
    have hd2 := hTd d2 (List.mem_cons_of_mem _ (List.mem_cons_self ..))
    rw [List.length_cons, List.length_cons, show bs * (Td.length + 1 + 1) = bs * Td.length + 2 * bs by rw [Nat.mul_add, Nat.mul_add]; omega] at hl
    have hTl := gB (bs := bs) (Ds := Td) (fun x hx => hTd x (List.mem_cons_of_mem _ (List.mem_cons_of_mem _ hx)))
    have hr' : cD h3 id (Dn.flatten ++ d1 ++ d2 ++ (Td.flatten ++ L)) := by simpa using hr
    obtain ⟨r, σ', hrun, hr1, hr2, hr3, l', ⟨C, rfl, hr5, hr6⟩, hr4⟩ := c137 _ Dn.flatten d1 d2 (Td.flatten ++ L) h3 n3 id N (Nat.le_refl _) (fun e => by rw [e, List.length_nil] at hd1; omega) (fun e => by rw [e, List.length_nil] at hd2; omega) hd1.2 hd2.2 (by simp only [List.length_append]; omega) hN2 hr'
    rw [l1, hd1.1, hd2.1, show u + bs + bs = 2 * bs + u by omega] at hrun
    subst hr1
    have i5 : ((2 * bs + u : Nat) : Int) + ((2 * bs : Nat) : Int) = ((2 * bs + (2 * bs + u) : Nat) : Int) := by omega
    simp (disch := first | omega | assumption | (intros; simp only [dl2]; try omega)) only [aa, gX, cJ, aD, aC, cL, i3, mZ, i1, i5, hrun.eq]
    have hCl := hr5.length_eq
    rw [List.length_append] at hCl
    have := hR2 (Dn ++ [C], Td) σ' ⟨hr2, fun j hj => (hr3 j hj).trans (hf j hj), qz hDn (by omega) hr6, fun x hx => hTd x (List.mem_cons_of_mem _ (List.mem_cons_of_mem _ hx)), by
      dsimp only
      rw [lj, List.append_assoc]
      refine List.Perm.trans (List.Perm.append_left _ (List.Perm.append_right _ hr5)) ?_
      simpa using hp, by dsimp only; rw [lj]; exact hr4⟩ (by dsimp only; simp only [List.length_cons]; omega)
    dsimp only at this
    rw [List.length_append, List.length_singleton, show 2 * bs * (Dn.length + 1) = 2 * bs + u by rw [Nat.mul_add, <- hu, Nat.mul_one]; omega] at this
    exact this
  ·rw [dl, aa, decide_eq_false (by omega), aA]
   refine ⟨rfl, rfl, hf, _, ⟨hp, ?_⟩, hr⟩
   cases Ds with
   | nil => simpa using hL
   | cons d Ds =>
    have hd := hD d (List.mem_cons_self ..)
    rw [List.length_cons] at hl
    have hz : bs * Ds.length = 0 /\ L.length = 0 := by
     have : bs * (Ds.length + 1) = bs * Ds.length + bs := by rw [Nat.mul_add, Nat.mul_one]
     omega
    have h0 : Ds = [] := List.eq_nil_of_length_eq_zero (by
     rcases Nat.mul_eq_zero.1 hz.1 with e | e
     ·omega
     ·exact e)
    have hL0 : L = [] := List.eq_nil_of_length_eq_zero hz.2
    subst h0; subst hL0
    simpa using hd.2
theorem c104 {h : Tr AB} {n id N : Nat} (l : List Fld) (hN : N = l.length) (hN2 : N <= 1000000) (hg : cD h id l) :
  ∃ r σ', Runs T0 104 [.sl id 0 N none, .fn 105 [] []] ⟨h, n⟩ r σ' /\ um h n id r σ' (fun l' => l'.Perm l /\ Srt ltF l') := by
 refine x104 _ _ ?_
 unfold w104
 dsimp only [av]
 obtain ⟨r, σ', hrun, hl⟩ := c120 (n := n) l hN hN2 hg
 rw [gu elF.ty, aa, hrun.eq]
 exact ⟨rfl, hl.2⟩
theorem c123 (f : Fld) (nm : List UInt8) : R T0 123 [ay f, .iptr [.s nm]] (.b (f.name == nm)) := by
 refine r123 _ _ (by rw [bh, ax]; rfl) (by rw [bh, ax]; rfl) ?_
 unfold w123
 dsimp only [av]
 have q : aJ T0 9 [AV.s nm] = some (.s nm) := mn _ _
 simp (disch := first | omega | assumption | (intros; simp only [dl3]; try omega)) only [vb4, ne_eq, vb8, vb1, bx, ck, q]
theorem c72d (l : List Fld) (nm : List UInt8) (hl : l.length <= 1000000) : R T0 72 [.lst (l.map ay), .fn 123 [] [.iptr [.s nm]]] (.i .i64 (cS (fun f => f.name == nm) l)) := by
 refine r72 _ _ rfl rfl ?_
 unfold w72
 dsimp only [av]
 simp (disch := first | omega | assumption | (intros; simp only [dl3]; try omega)) only [aa, nI, cd]
 refine kw (X := Nat) (fun _ => .lst (l.map ay)) (fun _ => .fn 123 [] [.iptr [.s nm]]) (fun _ => .i .i64 (l.length : Nat)) (fun j => .i .i64 (j : Nat)) (fun j σ => j <= l.length /\ (l.take j).all (fun f => !(f.name == nm)) = true) (fun j => l.length - j) ?_ 0 _ ⟨Nat.zero_le _, rfl⟩
 rintro R j σ ⟨hj, ha⟩ hR
 simp only [cm]
 refine aV (fun h => ?_) (fun h => ?_)
 ·have hj' : j < l.length := by omega
  have e := fun (d : Nat) (σ : AS) (K : AV -> AS -> Prop) => (c123 (l.getD j default) nm).eq d σ K
  cases hs : ((l.getD j default).name == nm)
  ·rw [hs] at e
   simp (disch := first | omega | assumption | (intros; simp only [dl3]; try omega)) only [vb4, ne_eq, aZ, aC, vb1, lv, List.nil_append, List.cons_append, e]
   exact hR (j + 1) _ ⟨by omega, aR (d := default) ha hj' (by rw [hs]; rfl)⟩ (by omega)
  ·rw [hs] at e
   simp (disch := first | omega | assumption | (intros; simp only [dl3]; try omega)) only [vb4, ne_eq, aZ, aC, vb1, lv, List.nil_append, List.cons_append, e]
   rw [jA (q := fun f : Fld => f.name == nm) (d := default) ha hj' hs]
 ·rw [ik (cF ha (by omega)), pu]
theorem fz_cl {h : Tr AB} {j e : Nat} {g : Bool} {nm : List UInt8} (hg : h.get j = some (.cells [.s nm] e g)) (k : Nat) : fz T0 h (k + 3) (.fn 123 [] [.ptr j 0]) = some (.fn 123 [] [.iptr [.s nm]]) := by
 have h1 : fz T0 h (k + 2) (.ptr j 0) = some (.iptr [.s nm]) := by
  unfold fz
  have b : Nat.ble 0 [AV.s nm].length = true := rfl
  have m : di (fz T0 h (k + 1)) [AV.s nm] = some [.s nm] := bj (dn k rfl) rfl
  simp only [AV.idfree, hg, b, List.drop_zero, m, Option.map_some]
 unfold fz
 have i : (AV.fn 123 [] [.ptr j 0]).idfree = false := rfl
 have m1 : di (fz T0 h (k + 2)) [] = some [] := rfl
 have m2 : di (fz T0 h (k + 2)) [AV.ptr j 0] = some [.iptr [.s nm]] := bj h1 Ai
 simp only [i, m1, m2]
theorem l123 {σ : AS} {j e : Nat} {g : Bool} {nm : List UInt8} (hg : σ.h.get j = some (.cells [.s nm] e g)) (f : Fld) {d : Nat} {K : AV -> AS -> Prop} : oF T0 d (.fn 123 [] [.ptr j 0]) [ay f] σ K = K (.b (f.name == nm)) σ := by
 rw [lv]
 have h1 : fz T0 σ.h 2 (.ptr j 0) = some (.iptr [.s nm]) := by
  unfold fz
  have b : Nat.ble 0 [AV.s nm].length = true := rfl
  have m : di (fz T0 σ.h 1) [AV.s nm] = some [.s nm] := bj (dn 0 rfl) rfl
  simp only [AV.idfree, hg, b, List.drop_zero, m, Option.map_some]
 have hF : (ay f).idfree = true := by rw [bh, ax]; rfl
 have hN : (ay f).norm = ay f := by rw [bh, ax]; rfl
 have h2 : fz T0 σ.h 2 (ay f) = some (ay f) := by rw [dn 1 hF, hN]
 exact (R.lent (m := 2) (args' := [ay f, .iptr [.s nm]]) (by kernel_rfl) (by kernel_rfl) (by kernel_rfl) (by rw [bh, ax]; rfl) (by rw [bh, ax]; rfl) (by rw [bh, ax]; rfl) rfl (bj h2 (bj h1 rfl)) (c123 f nm)).eq d K
theorem l72 {σ : AS} {j e : Nat} {g : Bool} {nm : List UInt8} (hg : σ.h.get j = some (.cells [.s nm] e g)) {x : AV} {l : List Fld} (hl : l.length <= 1000000) (hx : fz T0 σ.h 3 x = some (.lst (l.map ay))) {d : Nat} {K : AV -> AS -> Prop} : oC T0 d 72 [x, .fn 123 [] [.ptr j 0]] σ K = K (.i .i64 (cS (fun f => f.name == nm) l)) σ := by
 refine (R.lent (m := 3) (args' := [.lst (l.map ay), .fn 123 [] [.iptr [.s nm]]]) (by kernel_rfl) (by kernel_rfl) (by kernel_rfl) ?_ rfl rfl rfl (bj hx (bj (fz_cl hg 0) rfl)) (c72d l nm hl)).eq d K
 show (x.idfree && (false && true)) = false
 cases x.idfree <;> rfl
theorem x122 (a0 a1 : AV) {σ : AS} {Q : AV -> AS -> Prop} (h : w122 (av T0) a0 a1 σ Q) : ∃ r σ', Runs T0 122 [a0, a1] σ r σ' /\ Q r σ' :=
 Runs.ex (by kernel_rfl) (by kernel_rfl) (show T0.fn 122 = some Tryz.f122 by kernel_rfl) (by kernel_rfl) (by kernel_rfl) (by kernel_rfl) (by rw [w122_eq] at h; exact h)
def tw (Z : List AV) : Prop := AV.idfree.idfrees Z = true /\ ∃ k, Z.length = k * (5 + 1)
def dC (nm : List UInt8) (f : Fld) : Bool := !(f.name == nm)
theorem dlsuf {T : Tab} {α : Type} {enc : α -> AV} {t e z by_ : Nat} {h : Tr AB} {id w N : Nat} (E : El T enc t e z by_) (hw : w < N) : aL T h t (.sl id 0 N none) (some (.i .i64 (w : Nat))) none none = some (.sl id (w * (z + 1)) (N - w) none) := by
 have b1 : eU N N none = some N := rfl
 have b2 : eU N 0 (some (.i .i64 (w : Nat))) = some w := by
  simp only [eU, bnd]; rw [if_pos ⟨by omega, by omega⟩]; simp
 have b : bK N none (some (.i .i64 (w : Nat))) none none = some (w, N, none) := by
  simp only [bK, Option.getD_none, b1, b2]
 refine iv ?_
 unfold cX
 simp only [E.ty, E.sz, b]
 cases w with
 | zero => simp
 | succ w =>
  rw [Nat.ble_eq_true_of_le (show w + 1 + 1 <= N from hw)]
  simp only [Nat.zero_add]
theorem tI (cs : List AV) : ∀ n, (dm cs n).length = n * cs.length
 | 0 => by simp [dm]
 | n + 1 => by rw [dm, List.length_append, tI cs n, Nat.add_mul]; omega
theorem sb {cs : List AV} (h : aO cs = true) : ∀ n, aO (dm cs n) = true
 | 0 => rfl
 | n + 1 => by rw [dm, kM, h, sb h n]; rfl
theorem sd {cs : List AV} (h : AV.idfree.idfrees cs = true) : ∀ n, AV.idfree.idfrees (dm cs n) = true
 | 0 => rfl
 | n + 1 => by rw [dm, eu, h, sd h n]; rfl
theorem c122 {h : Tr AB} {n id j0 e : Nat} {g : Bool} {nm : List UInt8} (l : List Fld) (hlp : 0 < l.length) (hl : l.length <= 1000000) (hid : id < n) (hj0 : j0 < n) (hne : j0 ≠ id) (hg : cD h id l) (hc : h.get j0 = some (.cells [.s nm] e g)) :
  ∃ r σ', Runs T0 122 [.sl id 0 l.length none, .fn 123 [] [.ptr j0 0]] ⟨h, n⟩ r σ' /\ r = .sl id 0 (l.filter (dC nm)).length none /\ n <= σ'.n /\ (∃ Z, tw Z /\ σ'.h.get id = some (.cells (aw ay (l.filter (dC nm)) ++ Z) 52 true)) := by
 refine x122 _ _ ?_
 unfold w122
 dsimp only [av]
 have hx : fz T0 h 3 (.sl id 0 l.length none) = some (.lst (l.map ay)) := by
  have := pP (cap := none) (g := true) (C := []) elF.rowT (RowE.mapE elF l) (h := h) (id := id) (by rw [List.append_nil, <- cg]; exact hg)
  rw [List.length_map] at this; exact this
 rw [l72 (σ := ⟨h, n⟩) hc hl hx]
 by_cases hall : l.all (fun f => !(f.name == nm)) = true
 ·rw [ik hall, bZ, aa, decide_eq_true rfl, aD]
  have hfl : l.filter (dC nm) = l := List.filter_eq_self.2 (fun f hf => List.all_eq_true.1 hall f hf)
  rw [hfl]
  exact ⟨rfl, Nat.le_refl _, [], ⟨rfl, 0, rfl⟩, by rw [List.append_nil]; exact hg⟩
 ·have hlt : l.findIdx (fun f => f.name == nm) < l.length := by
   rw [List.findIdx_lt_length]
   simp only [List.all_eq_true, Bool.not_eq_true'] at hall
   have : ∃ x, ¬ (x ∈ l -> (x.name == nm) = false) := Classical.not_forall.1 hall
   obtain ⟨x, hx⟩ := this
   have h1 : x ∈ l := Classical.byContradiction fun q => hx (fun q2 => absurd q2 q)
   exact ⟨x, h1, by cases hq : (x.name == nm) with | true => rfl | false => exact absurd (fun _ => hq) hx⟩
  obtain ⟨i, hi⟩ : ∃ i, i = l.findIdx (fun f => f.name == nm) := ⟨_, rfl⟩
  rw [<- hi] at hlt
  have hix : cS (fun f : Fld => f.name == nm) l = (i : Nat) := by unfold cS; rw [<- hi, if_pos hlt]
  have hq : (l[i].name == nm) = true := by subst hi; exact List.findIdx_getElem (w := hlt)
  have hbefore : ∀ f ∈ l.take i, dC nm f = true := fun f hf => by
   rw [List.mem_take_iff_getElem] at hf
   obtain ⟨k, hk, rfl⟩ := hf
   have := List.not_of_lt_findIdx (p := fun f : Fld => f.name == nm) (xs := l) (i := k) (by rw [<- hi]; omega)
   unfold dC; simpa using this
  have hsplit : l = l.take i ++ l[i] :: l.drop (i + 1) := by
   conv => lhs; rw [<- List.take_append_drop i l, List.drop_eq_getElem_cons hlt]
  have hfil : l.filter (dC nm) = l.take i ++ (l.drop (i + 1)).filter (dC nm) := by
   conv => lhs; rw [hsplit, List.filter_append, List.filter_cons_of_neg (by unfold dC; rw [hq]; exact Bool.false_ne_true)]
   rw [List.filter_eq_self.2 hbefore]
  have e1 : ((i : Nat) : Int) + 1 = ((i + 1 : Nat) : Int) := by omega
  rw [hix, bZ, aa, decide_eq_false (by omega), aA, aC, aa, cL (by omega) (by omega), e1]
  refine kw (X := (List Fld × List Fld × List Fld) × (Nat × Nat)) (fun x => .i .i64 (x.2.1 : Nat)) (fun _ => .sl id 0 l.length none) (fun _ => .fn 123 [] [.ptr j0 0]) (fun x => .i .i64 (x.2.2 : Nat))
   (fun x σ => x.2.1 = x.1.1.length /\ x.2.2 = x.1.1.length + x.1.2.1.length /\ n <= σ.n /\ x.1.2.1 ≠ [] /\ x.1.1 ++ x.1.2.2.filter (dC nm) = l.filter (dC nm) /\ x.1.1.length + x.1.2.1.length + x.1.2.2.length = l.length /\ cD σ.h id (x.1.1 ++ x.1.2.1 ++ x.1.2.2) /\ σ.h.get j0 = some (.cells [.s nm] e g)) (fun x => x.1.2.2.length) ?_ ((l.take i, [l[i]], l.drop (i + 1)), (i, i + 1)) _
   ⟨by dsimp only; rw [List.length_take]; omega, by dsimp only; rw [List.length_take, List.length_singleton]; omega, Nat.le_refl _, by simp, hfil.symm, by dsimp only; rw [List.length_take, List.length_singleton, List.length_drop]; omega, by
    have : l.take i ++ [l[i]] ++ l.drop (i + 1) = l := by rw [List.append_assoc]; exact hsplit.symm
    dsimp only; rw [this]; exact hg, hc⟩
  clear hx hix hq hbefore hsplit hfil e1 hi hlt hg hc hall
  rintro R ⟨⟨K, G, D⟩, w, jj⟩ ⟨h1, n1⟩ ⟨hw, hj, hn, hG, hf, hl2, hr, hc⟩ hR
  dsimp only at hw hj hn hG hf hl2 hr hc hR |-
  subst hw; subst hj
  have hGl := nD hG
  rw [gu elF.ty, aa, dl, aa]
  cases D with
  | nil =>
   rw [List.length_nil] at hl2
   rw [List.filter_nil, List.append_nil] at hf
   rw [List.append_nil] at hr
   rw [decide_eq_false (by omega), aA, dlsuf elF (by omega), aa]
   obtain ⟨zv, z1, z2⟩ := zr_52
   have zl : zv.cells.length = 5 + 1 := by rw [z2]; rfl
   obtain ⟨m, hm⟩ : ∃ m, l.length - K.length = m + 1 := ⟨l.length - K.length - 1, by omega⟩
   have st : bL (aw ay (K ++ G)) (K.length * (5 + 1)) (dm zv.cells (m + 1)) = some (aw ay K ++ dm zv.cells (m + 1)) := by
    rw [cP, <- bS elF]
    have lg : (dm zv.cells (m + 1)).length = (aw ay G).length := by rw [tI, zl, bS elF, <- hm]; congr 1; omega
    rw [md _ _ _ (by omega), List.drop_of_length_le (by omega), List.append_nil]
   have lf : aO (dm zv.cells (m + 1)) = true := sb (by rw [z2]; rfl) _
   have cl : eA T0 ⟨h1, n1⟩ 33 (.sl id (K.length * (5 + 1)) (l.length - K.length) none) = some (.tup [], ⟨h1.put id (some (.cells (aw ay K ++ dm zv.cells (m + 1)) 52 true)), n1⟩) := by
    rw [hm]
    unfold eA
    have hr2 : h1.get id = some (.cells (aw ay (K ++ G)) 52 true) := hr
    simp only [elF.ty, z1, hr2, lf, st]
   rw [cl, aP, dl22 elF (by omega), aa]
   exact ⟨by rw [hf], hn, dm zv.cells (m + 1), ⟨sd (by rw [z2]; rfl) _, m + 1, by rw [tI, zl]⟩, by rw [<- hf]; exact ah _ _ _⟩
  | cons f D =>
   rw [List.length_cons] at hl2
   have hjn : j0 ≠ n1 := by omega
   have hin : id ≠ n1 := by omega
   have hr0 : cD h1 id ((K ++ G) ++ f :: D) := hr
   have lkg : (K ++ G).length = K.length + G.length := List.length_append
   have ldf : ac T0 h1 52 (.ptr id ((K.length + G.length) * (5 + 1))) = some (ay f) := by
    rw [<- lkg, rl hr0 (by simp only [List.length_append, List.length_cons]; omega), gi]
   have c2 : (⟨(h1.put n1 (some (.cells [.s [], .i .i64 0, .i .i64 0, .s [], .nilz true, .nilz true] 52 false))).put n1 (some (.cells (ay f).cells 52 false)), n1 + 1⟩ : AS).h.get j0 = some (.cells [.s nm] e g) := by dsimp only; rw [ae _ _ hjn, ae _ _ hjn]; exact hc
   have hr3 : cD ((h1.put n1 (some (.cells [.s [], .i .i64 0, .i .i64 0, .s [], .nilz true, .nilz true] 52 false))).put n1 (some (.cells (ay f).cells 52 false))) id (K ++ G ++ f :: D) := by unfold cD; rw [ae _ _ hin, ae _ _ hin]; exact hr
   have ld2 : ac T0 ((h1.put n1 (some (.cells [.s [], .i .i64 0, .i .i64 0, .s [], .nilz true, .nilz true] 52 false))).put n1 (some (.cells (ay f).cells 52 false))) 52 (.ptr n1 0) = some (ay f) := by
    rw [cQ, ah, bN (Nat.zero_le _)]; exact kY f
   have e3 : ((K.length + G.length : Nat) : Int) + 1 = ((K.length + G.length + 1 : Nat) : Int) := by omega
   rw [decide_eq_true (by omega), aD, dj, jT (by omega), aa, ldf, aa, bu, uH, aH]
   dsimp only
   rw [ld2, aa, l123 c2, cN, aa]
   cases hk : (f.name == nm)
   ·obtain ⟨g0, G', rfl⟩ : ∃ g0 G', G = g0 :: G' := by
     cases G with
     | nil => exact absurd rfl hG
     | cons a b => exact ⟨a, b, rfl⟩
    have hr4 : cD ((h1.put n1 (some (.cells [.s [], .i .i64 0, .i .i64 0, .s [], .nilz true, .nilz true] 52 false))).put n1 (some (.cells (ay f).cells 52 false))) id (K ++ g0 :: (G' ++ f :: D)) := by simpa using hr3
    have stf : az T0 ((h1.put n1 (some (.cells [.s [], .i .i64 0, .i .i64 0, .s [], .nilz true, .nilz true] 52 false))).put n1 (some (.cells (ay f).cells 52 false))) 52 (.ptr id (K.length * (5 + 1))) (ay f) = some (((h1.put n1 (some (.cells [.s [], .i .i64 0, .i .i64 0, .s [], .nilz true, .nilz true] 52 false))).put n1 (some (.cells (ay f).cells 52 false))).put id (some (.cells (aw ay (K ++ f :: (G' ++ f :: D))) 52 true))) := by
     have q1 := ki (enc := ay) (y := f) (c := (ay f).cells) (k := 0) bq (l := K ++ g0 :: (G' ++ f :: D)) (i := K.length) (by simp) (cf _ _ (by rw [bq, bq]))
     rw [kS] at q1
     exact em uB hr4 (bq f) (mA f) q1
    rw [List.length_cons] at hl2 |-
    have e4 : ((K.length : Nat) : Int) + 1 = ((K.length + 1 : Nat) : Int) := by omega
    have e5 : ((K.length + (G'.length + 1) : Nat) : Int) + 1 = ((K.length + (G'.length + 1) + 1 : Nat) : Int) := by omega
    rw [Bool.not_false, aD]
    dsimp only
    rw [ld2, aa, jT (by omega), aa, stf, aH, aC, aa, cL (by omega) (by omega), e4, aC, aa, cL (by omega) (by omega), e5]
    have := hR ((K ++ [f], G' ++ [f], D), (K.length + 1, K.length + (G'.length + 1) + 1)) ⟨((h1.put n1 (some (.cells [.s [], .i .i64 0, .i .i64 0, .s [], .nilz true, .nilz true] 52 false))).put n1 (some (.cells (ay f).cells 52 false))).put id (some (.cells (aw ay (K ++ f :: (G' ++ f :: D))) 52 true)), n1 + 1⟩
     ⟨by simp, by simp; omega, by dsimp only; omega, by simp, by rw [<- hf, List.filter_cons_of_pos (by unfold dC; rw [hk]; rfl)]; simp, by simp; omega, by
      have : K ++ [f] ++ (G' ++ [f]) ++ D = K ++ f :: (G' ++ f :: D) := by simp
      dsimp only; rw [this]; exact ah _ _ _, by dsimp only; rw [ae _ _ hne]; exact c2⟩ (by dsimp only; rw [List.length_cons]; omega)
    exact this
   ·rw [Bool.not_true, aA, aC, aa, cL (by omega) (by omega), e3]
    have := hR ((K, G ++ [f], D), (K.length, K.length + G.length + 1)) ⟨(h1.put n1 (some (.cells [.s [], .i .i64 0, .i .i64 0, .s [], .nilz true, .nilz true] 52 false))).put n1 (some (.cells (ay f).cells 52 false)), n1 + 1⟩
     ⟨rfl, by dsimp only; rw [List.length_append, List.length_singleton]; omega, by dsimp only; omega, by simp, by rw [<- hf, List.filter_cons_of_neg (by unfold dC; rw [hk]; exact Bool.false_ne_true)], by dsimp only; rw [List.length_append, List.length_singleton]; omega, by simpa using hr3, c2⟩ (by dsimp only; rw [List.length_cons]; omega)
    exact this
def RowOut (f : Nat) (args : List AV) (l' : List Fld) : Prop := (l' = [] /\ ∃ t, R T0 f args (.nilz t)) ∨ ∃ Z, tw Z /\ RA T0 f args l'.length (.cells (aw ay l' ++ Z) 52 true)
theorem RowOut.mk {f : Nat} {args : List AV} {l' : List Fld} {fn : Func} {c : Code} (h1 : T0.prim f = none) (h2 : fU T0 f args = none) (h3 : T0.fn f = some fn) (h4 : fn.body = some c) (h5 : T0.opened f = true) (hm : T0.mode f = 1) (h6 : AV.idfree.idfrees args = true) (h7 : AV.norm.norms args = args) {an : AN}
  (hv : bQ (av T0) T0 fn c an args ⟨.nil, 0⟩ (fun r1 σ1 => (l' = [] /\ ∃ t, r1 = .nilz t) ∨ ∃ id Z, tw Z /\ r1 = .sl id 0 l'.length none /\ σ1.h.get id = some (.cells (aw ay l' ++ Z) 52 true))) : RowOut f args l' := by
 obtain ⟨k, r1, σ1, e1, hq⟩ := dx hv
 rcases hq with ⟨hl, t, rfl⟩ | ⟨id, Z, hZ, rfl, hg⟩
 ·refine .inl ⟨hl, t, k + 1, fun σ => ?_⟩
  unfold aE
  simp only [h1, h2, h3, h4, h5, hm, h6, h7, e1, kN]
 ·refine .inr ⟨Z, hZ, k + 1, fun σ => ?_⟩
  have hcs : AV.idfree.idfrees (aw ay l' ++ Z) = true := by rw [eu, gb elF, hZ.1]; rfl
  unfold aE
  simp only [h1, h2, h3, h4, h5, hm, h6, h7, e1, kN, hg, hcs]
theorem c122n {σ : AS} {j0 e : Nat} {g b : Bool} {nm : List UInt8} (hc : σ.h.get j0 = some (.cells [.s nm] e g)) : ∃ r σ', Runs T0 122 [.nilz b, .fn 123 [] [.ptr j0 0]] σ r σ' /\ r = .nilz b := by
 refine x122 _ _ ?_
 unfold w122
 dsimp only [av]
 rw [l72 (l := []) hc (by decide) (dn (T := T0) (h := σ.h) 2 (a := .nilz b) rfl)]
 rw [show cS (fun f : Fld => f.name == nm) [] = -1 from rfl, bZ, aa, decide_eq_true rfl, aD]
def fC (v : Val) (nm : List UInt8) : List Fld := if v.kind = 5 then v.fields.filter (dC nm) else []
theorem c108 (v : Val) (nm : List UInt8) (sm : smV v) : RowOut 108 [ak v, .s nm] (fC v nm) := by
 obtain ⟨-, ls, ll, lf, ol, of_⟩ := bU sm
 refine RowOut.mk (an := an108) (by kernel_rfl) (by kernel_rfl) (show T0.fn 108 = some Tryz.f108 by kernel_rfl) (show Tryz.f108.body = some (bO Tryz.f108) by kernel_rfl) (by kernel_rfl) (by kernel_rfl) (by rw [ax]; rfl) (by rw [ax]; rfl) ?_
 rw [<- w108_eq]
 unfold w108
 dsimp only [av]
 rw [bu, bu]
 dsimp only
 simp only [Nat.zero_add, Nat.reduceAdd, cG]
 have b0 : ((Tr.nil.put 0 (some (.cells (ak v).cells 35 false))).put 1 (some (.cells (AV.s nm).cells 9 false)) : Tr AB).get 0 = some (.cells (aK v (.lst (v.list.map ak)) (.lst (v.fields.map ay))) 35 false) := by
  rw [ae _ _ (by decide), ah, ir]
 have b1 : ((Tr.nil.put 0 (some (.cells (ak v).cells 35 false))).put 1 (some (.cells (AV.s nm).cells 9 false)) : Tr AB).get 1 = some (.cells [.s nm] 9 false) := ah _ _ _
 generalize ((Tr.nil.put 0 (some (.cells (ak v).cells 35 false))).put 1 (some (.cells (AV.s nm).cells 9 false)) : Tr AB) = h at b0 b1 |-
 have k0 : ac T0 h 3 (.ptr 0 0) = some (.i .i64 v.kind) := by rw [dk b0 (Nat.zero_le _)]; exact oY _ _
 rw [aa, k0, aa, eb, aa]
 by_cases hk : v.kind = 5
 ·rw [decide_eq_false (fun q => q hk), aA, aa, l4 b0, aa]
  rw [show fC v nm = v.fields.filter (dC nm) from if_pos hk]
  obtain ⟨σ3, q1, q2, q3, q4, q5⟩ := q78 (l := v.fields) (by omega) ⟨h, 2⟩
  dsimp only at q1 q2 q3 q4 q5
  rw [q1]
  have c3 := (q2 1 (by decide)).trans b1
  cases hv : v.fields with
  | nil =>
   obtain ⟨r, σ', hr, rfl⟩ := c122n (b := false) c3
   rw [show bC ([] : List Fld) 2 = .nilz false from rfl, hr.eq]
   exact .inl ⟨rfl, false, rfl⟩
  | cons f fs =>
   rw [<- hv]
   have hpos : 0 < v.fields.length := by rw [hv, List.length_cons]; omega
   have hne : v.fields ≠ [] := fun q => by rw [q] at hpos; cases hpos
   have hrow : cD σ3.h 2 v.fields := by have := q5 ay hne; rw [gS] at this; exact this
   obtain ⟨r, σ', hr, rfl, hn, Z, hZ, hg⟩ := c122 (h := σ3.h) (n := σ3.n) (id := 2) (j0 := 1) v.fields hpos (by omega) (q4 hne) (by omega) (by decide) hrow c3
   rw [fv hpos, (show Runs T0 122 _ σ3 _ σ' from hr).eq]
   exact .inr ⟨2, Z, hZ, rfl, hg⟩
 ·rw [decide_eq_true hk, aD, show fC v nm = [] from if_neg hk]
  exact .inl ⟨rfl, true, rfl⟩
def As (f : Fld) : List Fld -> List Fld
 | [] => [f]
 | g :: l => if ltF g f = true then g :: As f l else f :: g :: l
def np : List Fld -> List Fld
 | [] => []
 | f :: l => As f (np l)
theorem nN (f : Fld) : ∀ l, (As f l).Perm (f :: l)
 | [] => List.Perm.refl _
 | g :: l => by
  rw [As]; split
  ·exact ((nN f l).cons g).trans (List.Perm.swap f g l)
  ·exact List.Perm.refl _
theorem vz (f : Fld) : ∀ l, Srt ltF l -> Srt ltF (As f l)
 | [], _ => List.pairwise_singleton _ _
 | g :: l, h => by
  have h1 := List.pairwise_cons.1 h
  rw [As]; split
  ·rename_i hg
   refine List.pairwise_cons.2 ⟨fun y hy => ?_, vz f l h1.2⟩
   rcases List.mem_cons.1 ((nN f l).mem_iff.1 hy) with rfl | hy
   ·exact ordF.asym _ _ hg
   ·exact h1.1 y hy
  ·rename_i hg
   have hg : ltF g f = false := by simpa using hg
   refine List.pairwise_cons.2 ⟨fun y hy => ?_, h⟩
   rcases List.mem_cons.1 hy with rfl | hy
   ·exact hg
   ·exact ordF.trans f g y hg (h1.1 y hy)
theorem fb : ∀ l, (np l).Perm l
 | [] => List.Perm.refl _
 | f :: l => (nN f _).trans ((fb l).cons f)
theorem qk : ∀ l, Srt ltF (np l)
 | [] => List.Pairwise.nil
 | f :: l => vz f _ (qk l)
theorem srtF_len (l : List Fld) : (np l).length = l.length := (fb l).length_eq
def Dif (l : List Fld) : Prop := l.Pairwise (fun a b => a.name ≠ b.name)
theorem Dif.perm {l l' : List Fld} (h : Dif l) (p : l.Perm l') : Dif l' := (p.pairwise_iff (fun h e => h e.symm)).1 h
theorem Dif.eq {l : List Fld} (h : Dif l) : ∀ x ∈ l, ∀ y ∈ l, x.name = y.name -> x = y := by
 induction l with
 | nil => intro x hx; cases hx
 | cons a l ih =>
  have h1 := List.pairwise_cons.1 h
  intro x hx y hy e
  rcases List.mem_cons.1 hx with p | p <;> rcases List.mem_cons.1 hy with q | q
  ·rw [p, q]
  ·exact absurd (p ▸ e) (h1.1 y q)
  ·exact absurd (q ▸ e.symm) (h1.1 x p)
  ·exact ih h1.2 x p y q e
theorem bl_eq : ∀ (a b : List UInt8), Op.bytesLess a b = false -> Op.bytesLess b a = false -> a = b
 | [], [], _, _ => rfl
 | [], _ :: _, h, _ => by simp [Op.bytesLess] at h
 | _ :: _, [], _, h => by simp [Op.bytesLess] at h
 | x :: a, y :: b, h1, h2 => by
  have ih := bl_eq a b
  simp only [Op.bytesLess] at h1 h2
  rcases Nat.lt_trichotomy x.toNat y.toNat with q | q | q
  ·have h3 : x < y := q
   simp [h3] at h1
  ·obtain rfl : x = y := UInt8.toNat_inj.1 q
   have h3 : ¬ x < x := fun h => absurd (show x.toNat < x.toNat from h) (by omega)
   simp [h3] at h1 h2
   rw [ih h1 h2]
  ·have h3 : y < x := q
   simp [h3] at h2
theorem nn {l l' : List Fld} (hd : Dif l) (p : l'.Perm l) (s : Srt ltF l') : l' = np l :=
 qi s (qk l) (p.trans (fb l).symm) (fun x hx y hy h1 h2 => hd.eq x (p.mem_iff.1 hx) y (p.mem_iff.1 hy) (bl_eq _ _ h1 h2))
theorem c136n {σ : AS} {b : Bool} : ∃ r σ', Runs T0 136 [.nilz b, .i .i64 0, .i .i64 0, .fn 105 [] []] σ r σ' /\ r = .tup [] /\ σ' = σ := by
 refine x136 _ _ _ _ ?_
 unfold w136
 dsimp only [av]
 simp (disch := first | omega | assumption | (intros; simp only [dl2]; try omega)) only [aa, aC, cL]
 refine ij (X := Unit) (fun _ => .nilz b) (fun _ => .fn 105 [] []) (fun _ => .i .i64 0) (fun _ => .i .i64 0) (fun _ => .i .i64 (0 + 1)) (fun _ s => s = σ) (fun _ => 0) ?_ () σ rfl
 rintro R x s rfl hR
 rw [dl, aa, decide_eq_false (by decide), aA]
 first | exact ⟨rfl, rfl⟩ | exact ⟨trivial, rfl⟩ | trivial | simp
theorem c104n {σ : AS} {b : Bool} : ∃ r σ', Runs T0 104 [.nilz b, .fn 105 [] []] σ r σ' /\ r = .tup [] /\ σ' = σ := by
 obtain ⟨r1, s1, h136, rfl, rfl⟩ := c136n (σ := σ) (b := b)
 have h120 : ∃ r σ', Runs T0 120 [.nilz b, .i .i64 0, .fn 105 [] []] s1 r σ' /\ r = .tup [] /\ σ' = s1 := by
  refine x120 _ _ _ ?_
  unfold w120
  dsimp only [av]
  refine vo (X := Unit) (fun _ => .fn 105 [] []) (fun _ => .i .i64 0) (fun _ => .nilz b) (fun _ => .i .i64 20) (fun _ => .i .i64 0) (fun _ => .i .i64 20) (fun _ s => s = s1) (fun _ => 0) ?_ () s1 rfl
  rintro R x s rfl hR
  rw [gX, aa, decide_eq_false (by decide), aA, h136.eq]
  refine kw (X := Unit) (fun _ => .fn 105 [] []) (fun _ => .i .i64 0) (fun _ => .nilz b) (fun _ => .i .i64 20) (fun _ t => t = s) (fun _ => 0) ?_ () s rfl
  rintro R x t rfl hR
  rw [dl, aa, decide_eq_false (by decide), aA]
  exact ⟨rfl, rfl⟩
 obtain ⟨r2, s2, h120, rfl, rfl⟩ := h120
 refine x104 _ _ ?_
 unfold w104
 dsimp only [av]
 have hlen : aj T0 s2.h .len [33] [.nilz b] = some (.i .i64 0) := by simp [aj, elF.ty]
 rw [hlen, aa, h120.eq]
 exact ⟨rfl, rfl⟩
theorem sortV {σ : AS} {id : Nat} (l : List Fld) (hl : l.length <= 1000000) (hg : l ≠ [] -> cD σ.h id l) :
  ∃ σ', (∃ r, Runs T0 104 [bC l id, .fn 105 [] []] σ r σ') /\ σ'.n = σ.n /\ (∀ j, j ≠ id -> σ'.h.get j = σ.h.get j) /\ ∃ l', l'.Perm l /\ Srt ltF l' /\ (l' ≠ [] -> cD σ'.h id l') /\ bC l' id = bC l id := by
 cases hv : l with
 | nil =>
  obtain ⟨r, σ', hr, rfl, rfl⟩ := c104n (σ := σ) (b := false)
  exact ⟨σ', ⟨_, hr⟩, rfl, fun j _ => rfl, [], List.Perm.refl _, List.Pairwise.nil, fun q => absurd rfl q, rfl⟩
 | cons f fs =>
  rw [<- hv]
  have hpos : 0 < l.length := by rw [hv, List.length_cons]; omega
  have hne : l ≠ [] := fun q => by rw [q] at hpos; cases hpos
  obtain ⟨h, n⟩ := σ
  obtain ⟨r, σ', hr, rfl, h2, h3, l', ⟨p, s⟩, h4⟩ := c104 (h := h) (n := n) (id := id) l rfl hl (hg hne)
  have hp' : 0 < l'.length := by rw [p.length_eq]; exact hpos
  exact ⟨σ', ⟨_, by rw [fv hpos]; exact hr⟩, h2, h3, l', p, s, fun _ => h4, by rw [fv hpos, fv hp', p.length_eq]⟩
def ci (l : List Fld) : Val := .mk 5 0 [] [] l
theorem bld5 : bF T0 35 [(0, .i .i64 5)] = some (.agg (aK (ci []) (.nilz true) (.nilz true))) := by kernel_rfl
theorem appFm {h : Tr AB} {n m : Nat} {x : AV} {l l' : List Fld} (o : OwnW 52 m h n (l.map ay) x) (hm : m <= n) (hl : l.length + l'.length <= 1000000) :
  ∃ x' σ', aG T0 ⟨h, n⟩ 33 33 x (.lst (l'.map ay)) = some (x', σ') /\ OwnW 52 m σ'.h σ'.n ((l ++ l').map ay) x' /\ n <= σ'.n /\ ∀ j, j < m -> σ'.h.get j = h.get j := by
 have := appW (h := h) elF.rowT o hm (RowE.mapE elF l) (RowE.mapE elF l') (gH (by decide) (by rw [List.length_map, List.length_map]; exact hl))
 rwa [<- List.map_append] at this
theorem rl9 {h : Tr AB} {id i : Nat} {l : List Fld} (hg : cD h id l) (hi : i < l.length) : ac T0 h 9 (.ptr id (i * (5 + 1))) = some (.s (l.getD i default).name) := by
 have e := mu (enc := ay) (encD := ay) bq hi
 rw [gS] at e
 rw [dk hg (by rw [dW bq]; exact Nat.mul_le_mul_right _ (by omega)), e, bh]
 exact mn _ _
theorem ev_fz {h : Tr AB} (v : Val) : fz T0 h 1 (ak v) = some (ak v) := by
 rw [dn 0 (by rw [ax]; rfl), ax]; rfl
theorem take_sn {l : List Fld} {j : Nat} (hj : j < l.length) : l.take (j + 1) = l.take j ++ [l.getD j default] := by
 rw [List.take_add_one, List.getElem?_eq_getElem hj]; simp [List.getD_eq_getElem?_getD, hj]
theorem flF (l : List Fld) : AV.idfree.idfrees (aM (l.map ay)) = true := by rw [<- cg]; exact gb elF l
theorem smMap {l : List Fld} (hl : l.length <= 100000) (ho : ∀ f ∈ l, smF f) : smV (ci l) := smV.of ⟨show (Lit.int .i64 5).wf = true by decide, show (Lit.int .i64 0).wf = true by decide⟩ (by simp [ci, Val.s]) (by simp [ci, Val.list]) hl (fun x hx => by cases hx) ho
theorem g107 {σ : AS} {m : Nat} {x : AV} {l : List Fld} (o : OwnW 52 m σ.h σ.n (l.map ay) x) (hl : l.length <= 100000) (ho : ∀ f ∈ l, smF f) :
  ∃ σ', Runs T0 107 [.agg (aK (ci []) (.nilz true) x)] σ (ak (ci l)) σ' /\ σ'.n = σ.n /\ ∀ j, j < m -> σ'.h.get j = σ.h.get j := by
 have hr := c107 _ (ci l) (Nat.le_refl _) (smMap hl ho)
 have hz : di (fz T0 σ.h 4) [.agg (aK (ci []) (.nilz true) x)] = some [ak (ci l)] :=
  bj (jd (v := ci []) (l := []) (f := l) (dn 2 (a := .nilz true) rfl) (fzW elF.rowT (RowE.mapE elF l) o)) rfl
 cases hi : AV.idfree.idfrees [.agg (aK (ci []) (.nilz true) x)] with
 | true =>
  refine ⟨σ, R.runs ?_ σ, rfl, fun j _ => rfl⟩
  refine R.nrmH (by kernel_rfl) (by kernel_rfl) (by kernel_rfl) (.inl (by kernel_rfl)) hi (gk _) ?_ hr
  rw [db 3 _ hi] at hz
  exact (Option.some.inj hz).trans (iy _).symm
 | false =>
  obtain ⟨k, hk⟩ := Runs.give (T := T0) (f := 107) (σ := σ) (by kernel_rfl) (by kernel_rfl) (by kernel_rfl) (.inr (by kernel_rfl)) hi (gk _) (iy _) hz hr
  refine ⟨_, hk, rfl, fun j hj => qN ?_ hj⟩
  intro i him
  rw [List.flatMap_cons, List.flatMap_nil, List.append_nil] at him
  cases k with
  | zero => cases him
  | succ k =>
   have hi2 : (AV.agg (aK (ci []) (.nilz true) x)).idfree = false := by
    cases h : (AV.agg (aK (ci []) (.nilz true) x)).idfree
    ·rfl
    ·rw [<- hi]; simp only [AV.idfree.idfrees, h]; rfl
   unfold Go.Proofs.YtmfhmlhaofpeiaaGreatDoor.Ev.rch at him
   rw [hi2] at him
   simp only [aK, List.flatMap_cons, List.flatMap_nil, iL (show (AV.i .i64 (ci []).kind).idfree = true from rfl), iL (show (AV.i .i64 (ci []).n).idfree = true from rfl), iL (show (AV.s (ci []).s).idfree = true from rfl), iL (show (AV.nilz true).idfree = true from rfl), List.nil_append, List.append_nil] at him
   exact o.rch (flF l) k i him
theorem c85 (l : List Fld) (hl : l.length <= 100000) (ho : ∀ f ∈ l, smF f) (hd : Dif l) : R T0 85 [.lst (l.map ay)] (ak (ci (np l))) := by
 refine R.mkG (an := an85) (by kernel_rfl) (by kernel_rfl) (show T0.fn 85 = some Tryz.f85 by kernel_rfl) (show Tryz.f85.body = some (bO Tryz.f85) by kernel_rfl) (by kernel_rfl) (by kernel_rfl) (by show AV.idfree.idfrees [.lst _] = true; rfl) (by rfl) ?_
 rw [<- w85_eq]
 unfold w85
 dsimp only [av]
 rw [bu]
 simp only [Nat.zero_add]
 obtain ⟨σ3, q1, q2, q3, q4, q5⟩ := q78 (l := l) (by omega) ⟨Tr.nil.put 0 (some (.cells [.i .i64 0, .i .i64 0, .s [], .nilz true, .nilz true] 35 false)), 1⟩
 dsimp only at q1 q2 q3 q4 q5
 have g0 := (q2 0 (by decide)).trans (ah _ _ _)
 rw [q1]
 obtain ⟨σ4, ⟨r, hrun⟩, n4, k4, l', p, s, hrow, hv⟩ := sortV (σ := σ3) (id := 1) l (by omega) (fun hne => by have := q5 ay hne; rw [gS] at this; exact this)
 have hl' := p.length_eq
 have hd' : Dif l' := hd.perm p.symm
 have ho' : ∀ f ∈ l', smF f := fun f hf => ho f (p.mem_iff.1 hf)
 have hm1 : l' ≠ [] -> 1 < σ4.n := fun hne => by
  rw [n4]; exact q4 (fun q => hne (List.eq_nil_of_length_eq_zero (by rw [hl', q]; rfl)))
 have hm0 : 1 <= σ4.n := by rw [n4]; exact q3
 have g0 := (k4 0 (by decide)).trans g0
 rw [hrun.eq, <- hv, <- nn hd p s, bld5, aa, bu]
 clear q1 q2 q3 q4 q5 hrun n4 k4 p s hv hd
 obtain ⟨h4, m⟩ := σ4
 dsimp only at g0 hm0 hm1 hrow |-
 rw [oz rfl (ah _ _ _) rfl rfl, aH, iK elF.ty, aa]
 refine vo (X := Nat) (fun _ => .ptr 0 0) (fun _ => .ptr m 0) (fun _ => bC l' 1) (fun _ => bC l' 1) (fun _ => .i .i64 (l'.length : Nat)) (fun j => .i .i64 (j : Nat))
  (fun j σ => j <= l'.length /\ m < σ.n /\ σ.h.get 0 = some (.cells [.i .i64 0, .i .i64 0, .s [], .nilz true, .nilz true] 35 false) /\ (l' ≠ [] -> cD σ.h 1 l') /\ ∃ x, σ.h.get m = some (.cells (aK (ci []) (.nilz true) x) 35 false) /\ OwnW 52 (m + 1) σ.h σ.n ((l'.take j).map ay) x) (fun j => l'.length - j) ?_ 0 _
  ⟨Nat.zero_le _, by dsimp only; omega, ?_, ?_, .nilz true, ah _ _ _, OwnW.none⟩
 ·rintro R j ⟨h, n⟩ ⟨hj, hn, b0, hrow, x, bm, o⟩ hR
  dsimp only at hj hn b0 hrow bm o hR |-
  rw [dl, aa]
  refine aV (fun hlt => ?_) (fun hge => ?_)
  ·have hj' : j < l'.length := by omega
   have hne : l' ≠ [] := fun q => by rw [q] at hj'; cases hj'
   have hm1 := hm1 hne
   have hrow := hrow hne
   have e1 : cD ((h.put n (some (.cells [.s [], .i .i64 0, .i .i64 0, .s [], .nilz true, .nilz true] 52 false))).put n (some (.cells (ay (l'.getD j default)).cells 52 false))) 1 l' := by
    unfold cD; rw [ae _ _ (by omega), ae _ _ (by omega)]; exact hrow
   rw [join6_eq, fw elF.ty elF.sz hj', aa, rl hrow hj', aa, bu, uH, aH]
   have e2 : ((h.put n (some (.cells [.s [], .i .i64 0, .i .i64 0, .s [], .nilz true, .nilz true] 52 false))).put n (some (.cells (ay (l'.getD j default)).cells 52 false))).get m = some (.cells (aK (ci []) (.nilz true) x) 35 false) := by
    rw [ae _ _ (by omega), ae _ _ (by omega)]; exact bm
   have e3 : ((h.put n (some (.cells [.s [], .i .i64 0, .i .i64 0, .s [], .nilz true, .nilz true] 52 false))).put n (some (.cells (ay (l'.getD j default)).cells 52 false))).get 0 = some (.cells [.i .i64 0, .i .i64 0, .s [], .nilz true, .nilz true] 35 false) := by
    rw [ae _ _ (by omega), ae _ _ (by omega)]; exact b0
   have e4 : OwnW 52 (m + 1) ((h.put n (some (.cells [.s [], .i .i64 0, .i .i64 0, .s [], .nilz true, .nilz true] 52 false))).put n (some (.cells (ay (l'.getD j default)).cells 52 false))) (n + 1) ((l'.take j).map ay) x :=
    o.same (fun i _ hi => by rw [ae _ _ (by omega), ae _ _ (by omega)]) (by omega)
   have e5 : ac T0 ((h.put n (some (.cells [.s [], .i .i64 0, .i .i64 0, .s [], .nilz true, .nilz true] 52 false))).put n (some (.cells (ay (l'.getD j default)).cells 52 false))) 52 (.ptr n 0) = some (ay (l'.getD j default)) := by
    rw [cQ, ah, bN (Nat.zero_le _)]; exact kY _
   have e6 : ac T0 ((h.put n (some (.cells [.s [], .i .i64 0, .i .i64 0, .s [], .nilz true, .nilz true] 52 false))).put n (some (.cells (ay (l'.getD j default)).cells 52 false))) 9 (.ptr n (0 + 0)) = some (.s (l'.getD j default).name) := by
    rw [cQ, ah, bN (Nat.zero_le _)]; exact jD _
   generalize ((h.put n (some (.cells [.s [], .i .i64 0, .i .i64 0, .s [], .nilz true, .nilz true] 52 false))).put n (some (.cells (ay (l'.getD j default)).cells 52 false))) = h6 at e1 e2 e3 e4 e5 e6 |-
   have i1 : ((j : Nat) : Int) + 1 = ((j + 1 : Nat) : Int) := by omega
   simp (disch := first | omega | assumption | (intros; simp only [dl2]; try omega)) only [aa, aC, cL, i1, iK elF.ty, bZ]
   have tail : ∀ K : AV -> AV -> AV -> AV -> AV -> AV -> AS -> Prop, (∀ (x' : AV) (σ' : AS), x'.cells = [x'] -> x'.leaf = true -> σ'.h.get m = some (.cells (aK (ci []) (.nilz true) x) 35 false) -> OwnW 52 (m + 1) σ'.h σ'.n ((l'.take (j + 1)).map ay) x' -> n + 1 <= σ'.n -> (∀ i, i < m + 1 -> σ'.h.get i = h6.get i) ->
     K (.ptr 0 0) (.ptr m 0) (bC l' 1) (bC l' 1) (.i .i64 (l'.length : Nat)) (.i .i64 (j : Nat)) ⟨σ'.h.put m (some (.cells (aK (ci []) (.nilz true) x') 35 false)), σ'.n⟩) ->
     (oV 35 (ar 4 (.ptr m 0)) fun t35 => oV 36 (ac T0 h6 33 t35) fun t36 => oV 37 (ac T0 h6 52 (.ptr n 0)) fun t37 => oV 38 (eE T0 33 1 [(0, t37)]) fun t38 =>
      oM 39 (aG T0 ⟨h6, n + 1⟩ 33 33 t36 t38) fun t39 sx10 => oV 40 (ar 4 (.ptr m 0)) fun t40 => oH (az T0 sx10.h 33 t40 t39) sx10 fun sx11 => K (.ptr 0 0) (.ptr m 0) (bC l' 1) (bC l' 1) (.i .i64 (l'.length : Nat)) (.i .i64 (j : Nat)) sx11) := by
    intro K hK
    obtain ⟨x', σ', ha, hw, hn', hk⟩ := appFm (l' := [l'.getD j default]) e4 (by omega) (by rw [List.length_take]; simp only [List.length_cons, List.length_nil]; omega)
    have gm := (hk m (by omega)).trans e2
    rw [cG, aa, Nat.zero_add, l4 e2, aa, e5, aa, pL, aa]
    rw [show aG T0 ⟨h6, n + 1⟩ 33 33 x (.lst [ay (l'.getD j default)]) = some (x', σ') from ha, aP, aa, s4 gm hw.cells hw.leaf, aH]
    refine hK x' σ' hw.cells hw.leaf gm ?_ hn' hk
    rw [show l'.take (j + 1) = l'.take j ++ [l'.getD j default] from take_sn hj']
    exact hw
   have fin : ∀ (x' : AV) (σ' : AS), x'.cells = [x'] -> x'.leaf = true -> σ'.h.get m = some (.cells (aK (ci []) (.nilz true) x) 35 false) -> OwnW 52 (m + 1) σ'.h σ'.n ((l'.take (j + 1)).map ay) x' -> n + 1 <= σ'.n -> (∀ i, i < m + 1 -> σ'.h.get i = h6.get i) ->
     R (.ptr 0 0) (.ptr m 0) (bC l' 1) (bC l' 1) (.i .i64 (l'.length : Nat)) (.i .i64 ((j + 1 : Nat) : Int)) ⟨σ'.h.put m (some (.cells (aK (ci []) (.nilz true) x') 35 false)), σ'.n⟩ := by
    intro x' σ' hc hlf hg hw hn' hk
    refine hR (j + 1) ⟨_, _⟩ ⟨by omega, by dsimp only; omega, ?_, fun _ => ?_, x', ah _ _ _, hw.same (fun i hi _ => ae _ _ (by omega)) (Nat.le_refl _)⟩ (by omega)
    ·dsimp only; rw [ae _ _ (by omega), hk 0 (by omega)]; exact e3
    ·dsimp only; unfold cD; rw [ae _ _ (by omega), hk 1 (by omega)]; exact e1
   by_cases hjl : j + 1 = l'.length
   ·rw [decide_eq_true (by omega), yO]
    simp (disch := first | omega | assumption | (intros; simp only [dl2]; try omega)) only [aa, be, aD]
    exact tail (fun a b c d e f s => R a b c d e (.i .i64 ((j + 1 : Nat) : Int)) s) fin
   ·have hnm : (l'.getD (j + 1) default).name ≠ (l'.getD j default).name := by
     have hjn : j + 1 < l'.length := by omega
     have := List.pairwise_iff_getElem.1 hd' j (j + 1) hj' hjn (by omega)
     simp only [List.getD_eq_getElem?_getD, List.getElem?_eq_getElem hj', List.getElem?_eq_getElem hjn, Option.getD_some]
     exact fun e => this e.symm
    rw [decide_eq_false (by omega), yW]
    simp (disch := first | omega | assumption | (intros; simp only [dl2]; try omega)) only [aa, fw elF.ty elF.sz (show j + 1 < l'.length by omega), cG, rl9 e1 (show j + 1 < l'.length by omega), e6, uj, beq_false_of_ne hnm, Bool.not_false, bY, aD, Nat.add_zero]
    exact tail (fun a b c d e f s => R a b c d e (.i .i64 ((j + 1 : Nat) : Int)) s) fin
  ·clear hR
   have hall : l'.take j = l' := List.take_of_length_le (by omega)
   rw [hall] at o
   rw [l5 bm, aa]
   obtain ⟨σ', hr, hn', hk⟩ := g107 (σ := ⟨h, n⟩) o (by omega) ho'
   rw [hr.eq, dM rfl ((hk 0 (by omega)).trans b0), aH, vu, aa]
   exact ⟨1, _, ev_fz (ci l'), rfl⟩
 ·dsimp only; rw [ae _ _ (by omega), ae _ _ (by omega)]; exact g0
 ·intro hne; have := hm1 hne; dsimp only; unfold cD; rw [ae _ _ (by omega), ae _ _ (by omega)]; exact hrow hne
theorem g85 {σ : AS} {id : Nat} {Z : List AV} {l : List Fld} (hZ : tw Z) (hg : σ.h.get id = some (.cells (aw ay l ++ Z) 52 true)) (hl : l.length <= 100000) (ho : ∀ f ∈ l, smF f) (hd : Dif l) :
  ∃ σ', Runs T0 85 [.sl id 0 l.length none] σ (ak (ci (np l))) σ' /\ σ'.n = σ.n /\ ∀ j, j ≠ id -> σ'.h.get j = σ.h.get j := by
 have hz : di (fz T0 σ.h 3) [.sl id 0 l.length none] = some [.lst (l.map ay)] := by
  have := pP (cap := none) (g := true) (C := Z) elF.rowT (RowE.mapE elF l) (h := σ.h) (id := id) (by rw [<- cg]; exact hg)
  rw [List.length_map] at this
  exact bj this rfl
 obtain ⟨k, hk⟩ := Runs.give (T := T0) (f := 85) (σ := σ) (by kernel_rfl) (by kernel_rfl) (by kernel_rfl) (.inl (by kernel_rfl)) rfl (show AV.idfree.idfrees [.lst (l.map ay)] = true from rfl) rfl hz (c85 l hl ho hd)
 refine ⟨_, hk, rfl, fun j hj => ?_⟩
 dsimp only
 rw [gD, if_neg]
 intro hm
 rw [List.flatMap_cons, List.flatMap_nil, List.append_nil] at hm
 exact hj (tJ hg (by rw [eu, gb elF, hZ.1]; rfl) k j hm)
theorem app1 {h : Tr AB} {n id : Nat} {Z : List AV} {l : List Fld} (f : Fld) (hZ : tw Z) (hg : h.get id = some (.cells (aw ay l ++ Z) 52 true)) (hl : l.length <= 1000000 - 1) :
  ∃ id' σ' Z', aG T0 ⟨h, n⟩ 33 33 (.sl id 0 l.length none) (.lst [ay f]) = some (.sl id' 0 (l.length + 1) none, σ') /\ tw Z' /\ σ'.h.get id' = some (.cells (aw ay (l ++ [f]) ++ Z') 52 true) /\ (id' = id ∨ id' = n) /\ n <= σ'.n /\ ∀ j, j ≠ id -> j ≠ n -> σ'.h.get j = h.get j := by
 obtain ⟨zv, hzv⟩ := Option.isSome_iff_exists.1 elF.rowT.zr
 have nr := mq (h := h) (RowE.mapE elF [f])
 rw [show aM ([f].map ay) = (ay f).cells by rw [<- cg, fQ]] at nr
 have nr : bM h (5 + 1) 1 (.lst [ay f]) = some (ay f).cells := nr
 have hs : cq (l.length + 1) 96 = true := gH (by decide) (by omega)
 have hlf : aO (ay f).cells = true := mA f
 have b1 : Nat.beq 52 52 = true := rfl
 obtain ⟨hZ1, k, hk⟩ := hZ
 have hrl : (aw ay l).length = l.length * (5 + 1) := bS elF l
 cases k with
 | zero =>
  have hZ0 : Z = [] := List.eq_nil_of_length_eq_zero (by omega)
  subst hZ0
  rw [List.append_nil] at hg
  have b2 : Nat.beq (l.length * (5 + 1)) (aw ay l).length = true := by rw [hrl]; exact Nat.beq_refl _
  refine ⟨n, ⟨(h.put id none).put n (some (.cells (aw ay l ++ (ay f).cells) 52 true)), n + 1⟩, [], ?_, ⟨rfl, 0, rfl⟩, ?_, .inr rfl, Nat.le_succ _, fun j h1 h2 => by dsimp only; rw [ae _ _ h2, ae _ _ h1]⟩
  ·unfold aG
   simp only [elF.ty, elF.sz, elF.bytes, hzv, iW, List.length_cons, List.length_nil, Nat.zero_add, nr, hg, hlf, hs, b1, b2]
  ·dsimp only; rw [ah, cP, fQ, List.append_nil]
 | succ k =>
  have b2 : Nat.beq (l.length * (5 + 1)) (aw ay l ++ Z).length = false := by
   cases hb : Nat.beq (l.length * (5 + 1)) (aw ay l ++ Z).length
   ·rfl
   ·have := Nat.eq_of_beq_eq_true hb; rw [List.length_append, hrl, hk] at this; omega
  have st : bL (aw ay l ++ Z) (l.length * (5 + 1)) (ay f).cells = some (aw ay l ++ ((ay f).cells ++ Z.drop (5 + 1))) := by
   rw [<- hrl, show Z.drop (5 + 1) = Z.drop (ay f).cells.length by rw [bq]]
   exact md _ _ _ (by rw [bq, hk]; omega)
  refine ⟨id, ⟨h.put id (some (.cells (aw ay l ++ ((ay f).cells ++ Z.drop (5 + 1))) 52 true)), n⟩, Z.drop (5 + 1), ?_, ⟨jB _ hZ1, k, by rw [List.length_drop, hk]; omega⟩, ?_, .inl rfl, Nat.le_refl _, fun j h1 h2 => ae _ _ h1⟩
  ·unfold aG
   simp only [elF.ty, elF.sz, elF.bytes, hzv, iW, List.length_cons, List.length_nil, Nat.zero_add, nr, hg, hlf, hs, b1, b2, st]
  ·dsimp only; rw [ah, cP, fQ, List.append_assoc]
theorem du {h : Tr AB} {id e : Nat} {g : Bool} {w : Val} (hg : h.get id = some (.cells (ak w).cells e g)) : ac T0 h 35 (.ptr id 0) = some (ak w) := by
 rw [dk hg (Nat.zero_le _)]; exact iV w
def fa (v : Val) (nm : List UInt8) (x : Val) : Val := ci (np (fC v nm ++ [.mk nm x]))
theorem c86 (v : Val) (nm : List UInt8) (x : Val) (sm : smV v) (hn : nm.length <= 100000) (sx : smV x) (hl : (fC v nm).length + 1 <= 100000) (ho : ∀ f ∈ fC v nm, smF f) (hd : Dif (fC v nm ++ [.mk nm x])) : R T0 86 [ak v, .s nm, ak x] (ak (fa v nm x)) := by
 refine r86 _ _ _ (by rw [ax, ax]; rfl) (by rw [ax, ax]; rfl) ?_
 unfold w86
 dsimp only [av]
 rw [bu, bu, bu]
 simp only [Nat.zero_add, Nat.reduceAdd]
 have b0 : (((Tr.nil.put 0 (some (.cells (ak v).cells 35 false))).put 1 (some (.cells (ak x).cells 35 false))).put 2 (some (.cells [.i .i64 0, .i .i64 0, .s [], .nilz true, .nilz true] 35 false)) : Tr AB).get 0 = some (.cells (ak v).cells 35 false) := by
  rw [ae _ _ (by decide), ae _ _ (by decide), ah]
 have b1 : (((Tr.nil.put 0 (some (.cells (ak v).cells 35 false))).put 1 (some (.cells (ak x).cells 35 false))).put 2 (some (.cells [.i .i64 0, .i .i64 0, .s [], .nilz true, .nilz true] 35 false)) : Tr AB).get 1 = some (.cells (ak x).cells 35 false) := by
  rw [ae _ _ (by decide), ah]
 have b2 : (((Tr.nil.put 0 (some (.cells (ak v).cells 35 false))).put 1 (some (.cells (ak x).cells 35 false))).put 2 (some (.cells [.i .i64 0, .i .i64 0, .s [], .nilz true, .nilz true] 35 false)) : Tr AB).get 2 = some (.cells [.i .i64 0, .i .i64 0, .s [], .nilz true, .nilz true] 35 false) := ah _ _ _
 generalize (((Tr.nil.put 0 (some (.cells (ak v).cells 35 false))).put 1 (some (.cells (ak x).cells 35 false))).put 2 (some (.cells [.i .i64 0, .i .i64 0, .s [], .nilz true, .nilz true] 35 false)) : Tr AB) = h at b0 b1 b2 |-
 rw [du b0, aa]
 have ho' : ∀ f ∈ fC v nm ++ [Fld.mk nm x], smF f := fun f hf => by
  rcases List.mem_append.1 hf with hf | hf
  ·exact ho f hf
  ·rw [List.mem_singleton.1 hf]; exact .of hn sx
 have fin : ∀ (t14 : AV) (σ5 : AS), (∃ σ', Runs T0 85 [t14] σ5 (ak (fa v nm x)) σ' /\ σ'.h.get 2 = some (.cells [.i .i64 0, .i .i64 0, .s [], .nilz true, .nilz true] 35 false)) ->
   oC T0 15 85 [t14] σ5 fun t15 sx6 => oD (ba T0 sx6.h 35 (.ptr 2 0) t15) fun i bx1 => oT ((cb sx6.n (ib [[]]) [] [] i []) && (cE [] i [])) (oS ⟨(sx6.h.put i (some bx1)), sx6.n⟩ fun sx7 => oV 6 (ac T0 sx7.h 35 (.ptr 2 0)) fun t6x1 => oZ T0 sx7 t6x1 (fun r2 => r2 = ak (fa v nm x))) := by
  rintro t14 σ5 ⟨σ', hr, h2⟩
  rw [hr.eq, fu ic h2 (bo _) (fX _) (cf _ _ (by rw [bo]; rfl)), bI]
  rw [eN rfl rfl, eD, vu, aa]
  exact ⟨1, _, ev_fz _, rfl⟩
 rcases c108 v nm sm with ⟨he, t, hR⟩ | ⟨Z, hZ, hR⟩
 ·rw [hR.eqA, ny rfl, du b1, aa, bld52, aa, ny rfl, pL, aa, eD]
  obtain ⟨x', σ', ha, hw, hn', hk⟩ := appFm (h := h.put 3 none) (n := 3 + 1) (m := 4) (x := .nilz t) (l := []) (l' := [Fld.mk nm x]) OwnW.none (by decide) (by simp)
  rw [show aG T0 ⟨h.put 3 none, 3 + 1⟩ 33 33 (.nilz t) (.lst [ay (.mk nm x)]) = some (x', σ') from ha, aP]
  refine fin _ _ ?_
  rcases hw with ⟨q, _⟩ | ⟨id, q1, rfl, q2, q3, q4⟩
  ·cases q
  ·obtain ⟨σ2, hr2, _, hk2⟩ := g85 (σ := σ') (id := id) (Z := []) (l := [Fld.mk nm x]) ⟨rfl, 0, rfl⟩ (by rw [List.append_nil, cg]; exact q4) (by simp) (fun f hf => ho' f (List.mem_append_right _ hf)) (List.pairwise_singleton _ _)
   refine ⟨σ2, ?_, ?_⟩
   ·unfold fa; rw [he]; exact hr2
   ·rw [hk2 2 (by omega), hk 2 (by decide), ae _ _ (by decide)]; exact b2
 ·rw [hR.eqA, ny rfl, du b1, aa, bld52, aa, ny rfl, pL, aa, eD]
  obtain ⟨id', σ', Z', ha, hZ', hg', hid, hn', hk⟩ := app1 (h := h.put 3 (some (.cells (aw ay (fC v nm) ++ Z) 52 true))) (n := 3 + 1) (id := 3) (.mk nm x) hZ (ah _ _ _) (by omega)
  rw [ha, aP]
  refine fin _ _ ?_
  obtain ⟨σ2, hr2, _, hk2⟩ := g85 (σ := σ') (id := id') (l := fC v nm ++ [Fld.mk nm x]) hZ' hg' (by rw [List.length_append]; exact hl) ho' hd
  refine ⟨σ2, ?_, ?_⟩
  ·rw [List.length_append] at hr2; exact hr2
  ·rw [hk2 2 (by omega), hk 2 (by decide) (by decide), ae _ _ (by decide)]; exact b2
def eO (l : List Val) : Val := .mk 4 0 [] l []
theorem bld4 (L : List AV) : bF T0 35 [(0, .i .i64 4), (3, .lst L)] = some (.agg [.i .i64 4, .i .i64 0, .s [], .lst L, .nilz true]) := by kernel_rfl
theorem wM {l : List Val} (hl : l.length <= 100000) (ho : ∀ f ∈ l, smV f) : smV (eO l) := smV.of ⟨show (Lit.int .i64 4).wf = true by decide, show (Lit.int .i64 0).wf = true by decide⟩ (by simp [eO, Val.s]) hl (by simp [eO, Val.fields]) ho (fun x hx => by cases hx)
theorem c87 (l : List Val) (hl : l.length <= 100000) (ho : ∀ f ∈ l, smV f) : R T0 87 [.lst (l.map ak)] (ak (eO l)) := by
 refine R.mkG (an := an87) (by kernel_rfl) (by kernel_rfl) (show T0.fn 87 = some Tryz.f87 by kernel_rfl) (show Tryz.f87.body = some (bO Tryz.f87) by kernel_rfl) (by kernel_rfl) (by kernel_rfl) (by show AV.idfree.idfrees [.lst _] = true; rfl) (by rfl) ?_
 rw [<- w87_eq]
 unfold w87
 dsimp only [av]
 have hr : R T0 107 [.agg [.i .i64 4, .i .i64 0, .s [], .lst (l.map ak), .nilz true]] (ak (eO l)) :=
  R.nrmH (by kernel_rfl) (by kernel_rfl) (by kernel_rfl) (.inl (by kernel_rfl)) rfl (gk _) (by rw [ax]; rfl) (c107 _ (eO l) (Nat.le_refl _) (wM hl ho))
 rw [bu]
 simp only [Nat.zero_add]
 rw [bld4, aa, hr.eq, dM rfl (ah _ _ _), aH, vu, aa]
 exact ⟨1, _, ev_fz _, rfl⟩
theorem g87 {σ : AS} {m : Nat} {x : AV} {l : List Val} (o : OwnW 35 m σ.h σ.n (l.map ak) x) (hl : l.length <= 100000) (ho : ∀ f ∈ l, smV f) :
  ∃ σ', Runs T0 87 [x] σ (ak (eO l)) σ' /\ σ'.n = σ.n /\ ∀ j, j < m -> σ'.h.get j = σ.h.get j := by
 have hr := c87 l hl ho
 have hz : di (fz T0 σ.h 3) [x] = some [.lst (l.map ak)] := bj (fzW elV.rowT (RowE.mapE elV l) o) rfl
 rcases o with ⟨he, b, rfl⟩ | ⟨id, q1, rfl, q2, q3, q4⟩
 ·refine ⟨σ, R.runs ?_ σ, rfl, fun j _ => rfl⟩
  rw [he] at hr
  exact R.nrmH (args' := [.lst []]) (by kernel_rfl) (by kernel_rfl) (by kernel_rfl) (.inr (by kernel_rfl)) rfl rfl rfl hr
 ·obtain ⟨k, hk⟩ := Runs.give (T := T0) (f := 87) (σ := σ) (by kernel_rfl) (by kernel_rfl) (by kernel_rfl) (.inl (by kernel_rfl)) rfl (show AV.idfree.idfrees [.lst (l.map ak)] = true from rfl) rfl hz hr
  refine ⟨_, hk, rfl, fun j hj => qN (m := m) ?_ hj⟩
  intro i him
  rw [List.flatMap_cons, List.flatMap_nil, List.append_nil] at him
  rw [tJ q4 (by rw [<- cg]; exact gb elV l) k i him]; exact q2
def othK (v : Val) (nm : List UInt8) (j : Nat) : List Fld := if v.kind = 5 then (v.fields.take j).filter (dC nm) else []
theorem appVm {h : Tr AB} {n m : Nat} {x : AV} {l l' : List Val} (o : OwnW 35 m h n (l.map ak) x) (hm : m <= n) (hl : l.length + l'.length <= 1000000) :
  ∃ x' σ', aG T0 ⟨h, n⟩ 32 32 x (.lst (l'.map ak)) = some (x', σ') /\ OwnW 35 m σ'.h σ'.n ((l ++ l').map ak) x' /\ n <= σ'.n /\ ∀ j, j < m -> σ'.h.get j = h.get j := by
 have := appW (h := h) elV.rowT o hm (RowE.mapE elV l) (RowE.mapE elV l') (gH (by decide) (by rw [List.length_map, List.length_map]; exact hl))
 rwa [<- List.map_append] at this
theorem l0 {h : Tr AB} {v : Val} {A B : AV} {id e : Nat} {g : Bool} (hg : h.get id = some (.cells (aK v A B) e g)) : ac T0 h 3 (.ptr id 0) = some (.i .i64 v.kind) := by rw [dk hg (Nat.zero_le _)]; exact oY _ _
theorem l1 {h : Tr AB} {v : Val} {A B : AV} {id e : Nat} {g : Bool} (hg : h.get id = some (.cells (aK v A B) e g)) : ac T0 h 3 (.ptr id 1) = some (.i .i64 v.n) := by rw [dk hg (show 1 <= 5 by decide)]; exact oY _ _
theorem l2 {h : Tr AB} {v : Val} {A B : AV} {id e : Nat} {g : Bool} (hg : h.get id = some (.cells (aK v A B) e g)) : ac T0 h 9 (.ptr id 2) = some (.s v.s) := by rw [dk hg (show 2 <= 5 by decide)]; exact mn _ _
theorem iaW {h : Tr AB} {m n j : Nat} {x : AV} {l : List Fld} (o : OwnW 52 m h n (l.map ay) x) (hj : j < l.length) : ∃ p off, ai T0 33 x (.i .i64 (j : Nat)) = some (.ptr p off) /\ m <= p /\ p < n /\ ∀ h' : Tr AB, h'.get p = h.get p -> ac T0 h' 52 (.ptr p off) = some (ay (l.getD j default)) /\ ac T0 h' 9 (.ptr p (off + 0)) = some (.s (l.getD j default).name) := by
 rcases o with ⟨he, b, rfl⟩ | ⟨id, q1, rfl, q2, q3, q4⟩
 ·rw [List.map_eq_nil_iff.1 he] at hj; cases hj
 ·rw [<- cg] at q4
  refine ⟨id, j * (5 + 1), ?_, q2, q3, fun h' e => ⟨?_, ?_⟩⟩
  ·rw [List.length_map]; exact jT hj
  ·exact rl (show cD h' id l from e.trans q4) hj
  ·exact rl9 (show cD h' id l from e.trans q4) hj
theorem c85n : R T0 85 [.nilz true] (ak (ci [])) :=
 R.nrmH (args' := [.lst []]) (by kernel_rfl) (by kernel_rfl) (by kernel_rfl) (.inr (by kernel_rfl)) rfl rfl rfl (c85 [] (by simp) (fun f hf => by cases hf) List.Pairwise.nil)
def gn (x : XStep) : Val := if x.kind_ = 3 then ci [.mk x.name_ (lr x.value_)] else ci []
inductive PR where
 | ok (v : Val) : PR
 | er (e : Int) : PR
def gP (v : Val) (s : XStep) : Val := if 0 <= chI v s then (if s.kind_ = 1 then (v.fields.getD (chI v s).toNat default).v else v.list.getD (chI v s).toNat default) else gn s
def fm (v : Val) (s : XStep) (y : Val) : Val := if s.kind_ = 1 then fa v s.name_ y else eO (if chI v s < 0 then v.list ++ [y] else v.list.set (chI v s).toNat y)
def wrK (v : Val) (s : XStep) : Prop := (s.kind_ = 1 /\ v.kind ≠ 5) ∨ (s.kind_ ≠ 1 /\ v.kind ≠ 4)
instance (v : Val) (s : XStep) : Decidable (wrK v s) := by unfold wrK; infer_instance
def dX : Val -> List XStep -> Val -> PR
 | _, [], x => .ok x
 | v, s :: p, x =>
  if wrK v s then .er 6
  else if s.kind_ = 2 /\ ((v.list.length : Nat) : Int) < s.index_ then .er 5
  else match dX (gP v s) p x with
   | .er e => .er e
   | .ok y => if s.kind_ = 3 /\ mtB y s.name_ s.value_ = false then .er 6 else .ok (fm v s y)
theorem iM (v x : Val) : dX v [] x = .ok x := by rw [dX]
theorem fc (v : Val) (s : XStep) (p : List XStep) (x : Val) : dX v (s :: p) x = if wrK v s then .er 6 else if s.kind_ = 2 /\ ((v.list.length : Nat) : Int) < s.index_ then .er 5 else match dX (gP v s) p x with
   | .er e => .er e
   | .ok y => if s.kind_ = 3 /\ mtB y s.name_ s.value_ = false then .er 6 else .ok (fm v s y) := by rw [dX]
theorem putV_wr {v : Val} {s : XStep} {p : List XStep} {x : Val} (h : wrK v s) : dX v (s :: p) x = .er 6 := by rw [fc, if_pos h]
theorem putV_rng {v : Val} {s : XStep} {p : List XStep} {x : Val} (h : ¬ wrK v s) (h2 : s.kind_ = 2 /\ ((v.list.length : Nat) : Int) < s.index_) : dX v (s :: p) x = .er 5 := by rw [fc, if_neg h, if_pos h2]
theorem putV_sub {v : Val} {s : XStep} {p : List XStep} {x : Val} {e : Int} (h : ¬ wrK v s) (h2 : ¬ (s.kind_ = 2 /\ ((v.list.length : Nat) : Int) < s.index_)) (h3 : dX (gP v s) p x = .er e) : dX v (s :: p) x = .er e := by rw [fc, if_neg h, if_neg h2, h3]
theorem putV_mt {v y : Val} {s : XStep} {p : List XStep} {x : Val} (h : ¬ wrK v s) (h2 : ¬ (s.kind_ = 2 /\ ((v.list.length : Nat) : Int) < s.index_)) (h3 : dX (gP v s) p x = .ok y) (h4 : s.kind_ = 3 /\ mtB y s.name_ s.value_ = false) : dX v (s :: p) x = .er 6 := by rw [fc, if_neg h, if_neg h2, h3]; exact if_pos h4
theorem pE {v y : Val} {s : XStep} {p : List XStep} {x : Val} (h : ¬ wrK v s) (h2 : ¬ (s.kind_ = 2 /\ ((v.list.length : Nat) : Int) < s.index_)) (h3 : dX (gP v s) p x = .ok y) (h4 : ¬ (s.kind_ = 3 /\ mtB y s.name_ s.value_ = false)) : dX v (s :: p) x = .ok (fm v s y) := by rw [fc, if_neg h, if_neg h2, h3]; exact if_neg h4
def prA : PR -> AV
 | .ok w => .tup [ak w, .i .i64 0]
 | .er e => .tup [ak default, .i .i64 e]
def Gd (v : Val) : Prop := smV v /\ ∀ q w, dS v q = some w -> Dif w.fields /\ w.list.length <= 64 /\ w.fields.length <= 64
theorem Gd.here {v : Val} (h : Gd v) : Dif v.fields /\ v.list.length <= 64 /\ v.fields.length <= 64 := h.2 [] v (dD v)
theorem Gd.step {v w : Val} {x : XStep} (h : Gd v) (hs : br v x = some w) : Gd w := ⟨gG h.1 hs, fun q u hq => h.2 (x :: q) u (by rw [bJ hs]; exact hq)⟩
theorem gd_leaf {v : Val} (sm : smV v) (hl : v.list = []) (hf : v.fields = []) : Gd v := by
 refine ⟨sm, fun q w hq => ?_⟩
 cases q with
 | nil =>
  rw [dD] at hq; injection hq with hq; subst hq
  rw [hl, hf]; exact ⟨List.Pairwise.nil, Nat.zero_le _, Nat.zero_le _⟩
 | cons x q =>
  exfalso
  have hb := gy (v := v) (x := x)
  cases hs : br v x with
  | none => rw [cj hs] at hq; cases hq
  | some u =>
   unfold br at hs
   split at hs
   ·cases hs
   ·rename_i h0
    have hb := hb (by omega)
    rw [hl, hf, List.length_nil, List.length_nil] at hb
    by_cases k : x.kind_ = 1
    ·have := hb.1 k; omega
    ·have := hb.2 k; omega
theorem smStr {s : List UInt8} (h : s.length <= 100000) : smV (lr s) := smV.of ⟨show (Lit.int .i64 3).wf = true by decide, show (Lit.int .i64 0).wf = true by decide⟩ h (by simp [lr, Val.list]) (by simp [lr, Val.fields]) (fun x h => by cases h) (fun x h => by cases h)
theorem zc {l : List Fld} (hl : l.length <= 1) (ho : ∀ f ∈ l, smF f) (hv : ∀ f ∈ l, f.v.list = [] /\ f.v.fields = []) : Gd (ci l) := by
 refine ⟨smMap (by omega) ho, fun q w hq => ?_⟩
 have e1 : (ci l).fields = l := rfl
 have e2 : (ci l).list = [] := rfl
 cases q with
 | nil =>
  rw [dD] at hq; injection hq with hq; subst hq
  rw [e1, e2]
  refine ⟨?_, Nat.zero_le _, by omega⟩
  match l, hl with
  | [], _ => exact List.Pairwise.nil
  | [a], _ => exact List.pairwise_singleton _ _
 | cons x q =>
  cases hs : br (ci l) x with
  | none => rw [cj hs] at hq; cases hq
  | some u =>
   rw [bJ hs] at hq
   have hb := gy (v := ci l) (x := x)
   unfold br at hs
   rw [e1, e2] at hb hs
   generalize chI (ci l) x = c at hb hs
   split at hs
   ·cases hs
   ·rename_i h0
    have hb := hb (by omega)
    injection hs with hs
    by_cases k : x.kind_ = 1
    ·rw [if_pos k] at hs
     have h1 := hb.1 k
     have hm : l.getD c.toNat default ∈ l := aS (by omega)
     have hl := hv _ hm
     rw [hs] at hl
     exact (gd_leaf (hs ▸ (fO (ho _ hm)).2) hl.1 hl.2).2 q w hq
    ·have := hb.2 k; rw [List.length_nil] at this; omega
theorem vV {s : XStep} (hn : s.name_.length <= 100000) (hv : s.value_.length <= 100000) : Gd (gn s) := by
 unfold gn; split
 ·exact zc (by simp) (fun f hf => by rw [List.mem_singleton.1 hf]; exact .of hn (smStr hv)) (fun f hf => by rw [List.mem_singleton.1 hf]; exact ⟨rfl, rfl⟩)
 ·exact zc (by simp) (fun f hf => by cases hf) (fun f hf => by cases hf)
theorem nU {v : Val} {s : XStep} (h : Gd v) (hn : s.name_.length <= 100000) (hv : s.value_.length <= 100000) : Gd (gP v s) := by
 unfold gP; split
 ·rename_i h0
  refine h.step (x := s) ?_
  unfold br; rw [if_neg (by omega)]
 ·exact vV hn hv
theorem vb (v : Val) (nm : List UInt8) : (fC v nm).length <= v.fields.length := by
 unfold fC; split
 ·exact List.length_filter_le _ _
 ·exact Nat.zero_le _
theorem qB {v : Val} {nm : List UInt8} {f : Fld} (h : f ∈ fC v nm) : f ∈ v.fields /\ f.name ≠ nm := by
 unfold fC at h; split at h
 ·have := List.mem_filter.1 h
  refine ⟨this.1, fun e => ?_⟩
  have h2 := this.2; unfold dC at h2; rw [e] at h2; simp at h2
 ·cases h
theorem qC {v : Val} {nm : List UInt8} {x : Val} (h : Dif v.fields) : Dif (fC v nm ++ [.mk nm x]) := by
 refine List.pairwise_append.2 ⟨?_, List.pairwise_singleton _ _, fun a ha b hb => ?_⟩
 ·unfold fC; split
  ·exact h.sublist List.filter_sublist
  ·exact List.Pairwise.nil
 ·rw [List.mem_singleton.1 hb]; exact (qB ha).2
theorem smWith {v : Val} {nm : List UInt8} {y : Val} (h : Gd v) (hn : nm.length <= 100000) (sy : smV y) : smV (fa v nm y) := by
 have hh := h.here
 have hl := vb v nm
 refine smMap (by rw [srtF_len, List.length_append, List.length_singleton]; omega) (fun f hf => ?_)
 rcases List.mem_append.1 ((fb _).mem_iff.1 hf) with hf | hf
 ·exact (bU h.1).2.2.2.2.2 f (qB hf).1
 ·rw [List.mem_singleton.1 hf]; exact .of hn sy
theorem smNew {v : Val} {s : XStep} {y : Val} (h : Gd v) (hn : s.name_.length <= 100000) (sy : smV y) : smV (fm v s y) := by
 have hh := h.here
 unfold fm; split
 ·exact smWith h hn sy
 ·split
  ·refine wM (by rw [List.length_append, List.length_singleton]; omega) (fun f hf => ?_)
   rcases List.mem_append.1 hf with hf | hf
   ·exact (bU h.1).2.2.2.2.1 f hf
   ·rw [List.mem_singleton.1 hf]; exact sy
  ·refine wM (by rw [List.length_set]; omega) (fun f hf => ?_)
   rcases List.mem_or_eq_of_mem_set hf with hf | rfl
   ·exact (bU h.1).2.2.2.2.1 f hf
   ·exact sy
def stS (s : XStep) : Prop := s.name_.length <= 100000 /\ s.value_.length <= 100000
theorem smPut : ∀ (p : List XStep) (v x y : Val), (∀ s ∈ p, stS s) -> Gd v -> smV x -> dX v p x = .ok y -> smV y
 | [], v, x, y, _, _, sx, h => by rw [iM] at h; injection h with h; rw [<- h]; exact sx
 | s :: p, v, x, y, hp, hv, sx, h => by
  have hs := hp s (List.mem_cons_self ..)
  rw [fc] at h
  split at h
  ·cases h
  ·split at h
   ·cases h
   ·split at h
    ·cases h
    ·rename_i u hu
     have su := smPut p _ x u (fun t ht => hp t (List.mem_cons_of_mem _ ht)) (nU hv hs.1 hs.2) sx hu
     split at h
     ·cases h
     ·injection h with h; rw [<- h]; exact smNew hv hs.1 su
theorem iH {s : XStep} (h : bt s = true) : stS s := by
 have := dy h
 exact ⟨by omega, by omega⟩
theorem bl_trans : ∀ a b c : List UInt8, Op.bytesLess a b = true -> Op.bytesLess b c = true -> Op.bytesLess a c = true := by
 intro a b c h1 h2
 cases hc : Op.bytesLess a c with
 | true => rfl
 | false => rw [bl_nt _ _ _ (mY _ _ h2) hc] at h1; cases h1
theorem ord_lt {l : List Fld} (h : ∀ i, i < l.length -> kr l i = true) : ∀ i j, i < j -> j < l.length -> Op.bytesLess (l.getD i default).name (l.getD j default).name = true := by
 intro i j
 induction j with
 | zero => intro h; omega
 | succ j ih =>
  intro hij hj
  have h1 := h (j + 1) hj
  unfold kr at h1
  rw [decide_eq_false (by omega), Bool.false_or, Nat.add_sub_cancel] at h1
  by_cases e : i = j
  ·rw [e]; exact h1
  ·exact bl_trans _ _ _ (ih (by omega) (by omega)) h1
theorem ye {l : List Fld} (h : ∀ i, i < l.length -> kr l i = true) : Dif l := by
 unfold Dif
 rw [List.pairwise_iff_getElem]
 intro i j hi hj hij e
 have := ord_lt h i j hij hj
 rw [List.getD_eq_getElem?_getD, List.getD_eq_getElem?_getD, List.getElem?_eq_getElem hi, List.getElem?_eq_getElem hj] at this
 simp only [Option.getD_some] at this
 rw [e] at this
 have h2 := mY _ _ this
 rw [h2] at this; cases this
theorem jp {k : Nat} {v w : Val} {x : XStep} (h : aF (k + 1) v = true) (hs : br v x = some w) : aF k w = true := by
 rw [aF] at h
 simp only [Bool.and_eq_true, List.all_eq_true] at h
 obtain ⟨⟨_, h2⟩, h3⟩ := h
 unfold br at hs
 split at hs
 ·cases hs
 ·rename_i h0
  have hb := gy (v := v) (x := x) (by omega)
  injection hs with hs; subst hs
  split
  ·rename_i k; have := hb.1 k
   exact (h3 (chI v x).toNat (List.mem_range.2 (by omega))).2
  ·rename_i k; have := hb.2 k
   exact h2 _ (aS (by omega))
theorem lI {k : Nat} {v : Val} (h : aF k v = true) : Dif v.fields /\ v.list.length <= 64 /\ v.fields.length <= 64 := by
 cases k with
 | zero => rw [aF] at h; cases h
 | succ k =>
  rw [aF] at h
  simp only [Bool.and_eq_true, List.all_eq_true] at h
  obtain ⟨⟨h1, _⟩, h3⟩ := h
  unfold fI at h1
  simp only [Bool.and_eq_true, decide_eq_true_eq] at h1
  exact ⟨ye (fun i hi => (h3 i (List.mem_range.2 hi)).1.2), h1.1.2, h1.2⟩
theorem ux : ∀ (q : List XStep) (k : Nat) (v w : Val), aF k v = true -> dS v q = some w -> ∃ k', aF k' w = true
 | [], k, v, w, h, hq => by rw [dD] at hq; injection hq with hq; exact ⟨k, hq ▸ h⟩
 | x :: q, k, v, w, h, hq => by
  cases hs : br v x with
  | none => rw [cj hs] at hq; cases hq
  | some u =>
   rw [bJ hs] at hq
   cases k with
   | zero => rw [aF] at h; cases h
   | succ k => exact ux q k u w (jp h hs) hq
theorem valid_gd {v : Val} (sm : smV v) (h : ee v = true) : Gd v := by
 unfold ee at h
 rw [Bool.and_eq_true] at h
 refine ⟨sm, fun q w hq => ?_⟩
 obtain ⟨k', hk⟩ := ux q _ v w h.1 hq
 exact lI hk
section
variable {h : Tr AB} {x : XStep} {id e : Nat} {g : Bool}
theorem sk0 (hg : h.get id = some (.cells (am x).cells e g)) : ac T0 h 3 (.ptr id 0) = some (.i .i64 x.kind_) := by rw [dk hg (Nat.zero_le _)]; exact cC x
theorem sk1 (hg : h.get id = some (.cells (am x).cells e g)) : ac T0 h 9 (.ptr id 1) = some (.s x.name_) := by rw [dk hg (show 1 <= 4 by decide)]; exact dE x
theorem sk2 (hg : h.get id = some (.cells (am x).cells e g)) : ac T0 h 3 (.ptr id 2) = some (.i .i64 x.index_) := by rw [dk hg (show 2 <= 4 by decide)]; exact ez x
theorem sk3 (hg : h.get id = some (.cells (am x).cells e g)) : ac T0 h 9 (.ptr id 3) = some (.s x.value_) := by rw [dk hg (show 3 <= 4 by decide)]; exact ew x
theorem skx (hg : h.get id = some (.cells (am x).cells e g)) : ac T0 h 50 (.ptr id 0) = some (am x) := by rw [dk hg (Nat.zero_le _)]; exact iw x
end
theorem own_rowV {h : Tr AB} {n m id : Nat} {l : List Val} (hr : l ≠ [] -> h.get id = some (.cells (aw ak l) 35 true)) (hm : m <= id) (hn : l ≠ [] -> id < n) : OwnW 35 m h n (l.map ak) (bC l id) := by
 cases l with
 | nil => exact .inl ⟨rfl, false, rfl⟩
 | cons a l =>
  refine .inr ⟨id, by simp, by rw [List.length_map]; rfl, hm, hn (by simp), ?_⟩
  rw [hr (by simp), cg]
theorem own_set {h : Tr AB} {n m id i : Nat} {l : List Val} {y : Val} (hr : h.get id = some (.cells (aw ak l) 35 true)) (hi : i < l.length) (hm : m <= id) (hn : id < n) :
  az T0 h 35 (.ptr id (i * (4 + 1))) (ak y) = some (h.put id (some (.cells (aw ak (l.set i y)) 35 true))) /\ OwnW 35 m (h.put id (some (.cells (aw ak (l.set i y)) 35 true))) n ((l.set i y).map ak) (bC l id) := by
 refine ⟨em ic hr (bo y) (fX y) ?_, .inr ⟨id, ?_, ?_, hm, hn, by rw [ah, cg]⟩⟩
 ·have := ki (k := 0) (y := y) (c := (ak y).cells) bo hi (cf _ _ (by rw [bo, bo]))
  exact this
 ·intro e
  have := congrArg List.length e
  rw [List.length_map, List.length_set, List.length_nil] at this; omega
 ·rw [List.length_map, List.length_set]; exact fv (by omega)
theorem ozve {σ : AS} {K : AV -> Prop} {w : Val} {e : Int} : oZ T0 σ (.tup [ak w, .i .i64 e]) K = K (.tup [ak w, .i .i64 e]) := by
 rw [dP (by show AV.idfree.idfrees [ak w, .i .i64 e] = true; rw [ax]; rfl)]
 rw [ax]; rfl
theorem wY {σ : AS} {K : AV -> Prop} {e : Int} : oZ T0 σ (.tup [.agg [.i .i64 0, .i .i64 0, .s [], .nilz true, .nilz true], .i .i64 e]) K = K (.tup [ak default, .i .i64 e]) := dP rfl
theorem tK : ∀ (p : List XStep) (v x : Val) (e : Int), dX v p x = .er e -> e = 5 ∨ e = 6
 | [], v, x, e, h => by rw [iM] at h; cases h
 | s :: p, v, x, e, h => by
  rw [fc] at h
  split at h
  ·injection h with h; exact .inr h.symm
  ·split at h
   ·injection h with h; exact .inl h.symm
   ·split at h
    ·rename_i e' he; injection h with h; rw [<- h]; exact tK p _ x e' he
    ·split at h
     ·injection h with h; exact .inr h.symm
     ·cases h
theorem fresh3 {s : XStep} (k3 : s.kind_ = 3) : fa (ci []) s.name_ (lr s.value_) = gn s := by
 unfold gn; rw [if_pos k3]; rfl
theorem with_e {v y : Val} {nm : List UInt8} (h : Gd v) (hn : nm.length <= 100000) (sy : smV y) {d : Nat} {σ : AS} {K : AV -> AS -> Prop} : oC T0 d 86 [ak v, .s nm, ak y] σ K = K (ak (fa v nm y)) σ := by
 have hh := h.here
 have hl := vb v nm
 exact (c86 v nm y h.1 hn sy (by omega) (fun f hf => (bU h.1).2.2.2.2.2 f (qB hf).1) (qC hh.1)).eq d σ K
theorem gd_map0 : Gd (ci []) := by
 have := vV (s := ⟨1, [], 0, []⟩) (by simp) (by simp)
 exact this
theorem c55 : ∀ (p : List XStep) (v x : Val), (∀ s ∈ p, bt s = true) -> Gd v -> smV x -> R T0 55 [ak v, .lst (p.map am), ak x] (prA (dX v p x))
 | [], v, x, hp, hv, sx => by
  refine r55 _ _ _ (by rw [ax, ax]; rfl) (by rw [ax, ax]; rfl) ?_
  unfold w55
  dsimp only [av]
  rw [bu, bu, bu]
  simp only [Nat.zero_add, Nat.reduceAdd]
  have g1 : (((Tr.nil.put 0 (some (.cells (ak v).cells 35 false))).put 1 (some (.cells (ak x).cells 35 false))).put 2 (some (.cells [.i .i64 0, .i .i64 0, .s [], .nilz true, .nilz true] 35 false)) : Tr AB).get 1 = some (.cells (ak x).cells 35 false) := by
   rw [ae _ _ (by decide), ah]
  have g2 : (((Tr.nil.put 0 (some (.cells (ak v).cells 35 false))).put 1 (some (.cells (ak x).cells 35 false))).put 2 (some (.cells [.i .i64 0, .i .i64 0, .s [], .nilz true, .nilz true] 35 false)) : Tr AB).get 2 = some (.cells [.i .i64 0, .i .i64 0, .s [], .nilz true, .nilz true] 35 false) := ah _ _ _
  generalize (((Tr.nil.put 0 (some (.cells (ak v).cells 35 false))).put 1 (some (.cells (ak x).cells 35 false))).put 2 (some (.cells [.i .i64 0, .i .i64 0, .s [], .nilz true, .nilz true] 35 false)) : Tr AB) = h at g1 g2 |-
  rw [dK, aa, bZ, aa, List.map_nil, List.length_nil, decide_eq_true (by decide), aD, du g1, aa, dM rfl g2, aH, vu, aa, iM]
  rw [ozve]; rfl
 | s :: p, v, x, hp, hv, sx => by
  have hs := hp s (List.mem_cons_self ..)
  have hst := iH hs
  have hk := dy hs
  have sm := hv.1
  have hh := hv.here
  have ih := c55 p (gP v s) x (fun t ht => hp t (List.mem_cons_of_mem _ ht)) (nU hv hst.1 hst.2) sx
  have hsm := smPut p (gP v s) x
  have hsm := fun y => hsm y (fun t ht => iH (hp t (List.mem_cons_of_mem _ ht))) (nU hv hst.1 hst.2) sx
  have her := tK p (gP v s) x
  have hb := gy (v := v) (x := s)
  refine r55 _ _ _ (by rw [ax, ax]; rfl) (by rw [ax, ax]; rfl) ?_
  unfold w55
  dsimp only [av]
  rw [bu, bu, bu]
  simp only [Nat.zero_add, Nat.reduceAdd]
  have g0 : (((Tr.nil.put 0 (some (.cells (ak v).cells 35 false))).put 1 (some (.cells (ak x).cells 35 false))).put 2 (some (.cells [.i .i64 0, .i .i64 0, .s [], .nilz true, .nilz true] 35 false)) : Tr AB).get 0 = some (.cells (aK v (.lst (v.list.map ak)) (.lst (v.fields.map ay))) 35 false) := by
   rw [ae _ _ (by decide), ae _ _ (by decide), ah, ir]
  have g1 : (((Tr.nil.put 0 (some (.cells (ak v).cells 35 false))).put 1 (some (.cells (ak x).cells 35 false))).put 2 (some (.cells [.i .i64 0, .i .i64 0, .s [], .nilz true, .nilz true] 35 false)) : Tr AB).get 1 = some (.cells (ak x).cells 35 false) := by
   rw [ae _ _ (by decide), ah]
  have g2 : (((Tr.nil.put 0 (some (.cells (ak v).cells 35 false))).put 1 (some (.cells (ak x).cells 35 false))).put 2 (some (.cells [.i .i64 0, .i .i64 0, .s [], .nilz true, .nilz true] 35 false)) : Tr AB).get 2 = some (.cells [.i .i64 0, .i .i64 0, .s [], .nilz true, .nilz true] 35 false) := ah _ _ _
  generalize (((Tr.nil.put 0 (some (.cells (ak v).cells 35 false))).put 1 (some (.cells (ak x).cells 35 false))).put 2 (some (.cells [.i .i64 0, .i .i64 0, .s [], .nilz true, .nilz true] 35 false)) : Tr AB) = h at g0 g1 g2 |-
  have q2 : ac T0 h 50 (.iptr (am s).cells) = some (am s) := by rw [fS, dz]
  have st3 : ba T0 (h.put 3 (some (.cells [.i .i64 0, .s [], .i .i64 0, .s []] 50 false))) 50 (.ptr 3 0) (am s) = some (3, .cells (am s).cells 50 false) :=
   fu (by kernel_rfl) (ah _ _ _) rfl rfl (cf _ _ rfl)
  rw [dK, aa, bZ, aa, List.length_map, List.length_cons, decide_eq_false (by omega), aA, qS, aa, q2, aa, slS1c, aa, kv rfl, st3, bI, eN rfl rfl, eD]
  have g0 : ((h.put 3 (some (.cells [.i .i64 0, .s [], .i .i64 0, .s []] 50 false))).put 3 (some (.cells (am s).cells 50 false))).get 0 = some (.cells (aK v (.lst (v.list.map ak)) (.lst (v.fields.map ay))) 35 false) := by
   rw [ae _ _ (by decide), ae _ _ (by decide)]; exact g0
  have g1 : ((h.put 3 (some (.cells [.i .i64 0, .s [], .i .i64 0, .s []] 50 false))).put 3 (some (.cells (am s).cells 50 false))).get 1 = some (.cells (ak x).cells 35 false) := by
   rw [ae _ _ (by decide), ae _ _ (by decide)]; exact g1
  have g2 : ((h.put 3 (some (.cells [.i .i64 0, .s [], .i .i64 0, .s []] 50 false))).put 3 (some (.cells (am s).cells 50 false))).get 2 = some (.cells [.i .i64 0, .i .i64 0, .s [], .nilz true, .nilz true] 35 false) := by
   rw [ae _ _ (by decide), ae _ _ (by decide)]; exact g2
  have g3 : ((h.put 3 (some (.cells [.i .i64 0, .s [], .i .i64 0, .s []] 50 false))).put 3 (some (.cells (am s).cells 50 false))).get 3 = some (.cells (am s).cells 50 false) := ah _ _ _
  generalize ((h.put 3 (some (.cells [.i .i64 0, .s [], .i .i64 0, .s []] 50 false))).put 3 (some (.cells (am s).cells 50 false))) = H at g0 g1 g2 g3 |-
  clear st3 q2
  simp only [cG, Nat.zero_add]
  have L0 := l0 g0
  have S0 := sk0 g3
  have Lv : ac T0 H 35 (.ptr 0 0) = some (ak v) := by rw [l5 g0, ax]; rfl
  have guard : ∀ (A B : AS -> Prop), (wrK v s -> A ⟨H, 4⟩) -> (¬ wrK v s -> B ⟨H, 4⟩) ->
    (oV 25 (some (.ptr 3 0)) fun t25 => oV 26 (ac T0 H 3 t25) fun t26 => oV 27 (af T0 .eql 3 true t26 (.i .i64 1)) fun t27 =>
     oG [29, 30, 31] t27 true (fun (k : C3) => oV 29 (some (.ptr 0 0)) fun t29 => oV 30 (ac T0 H 3 t29) fun t30 => oV 31 (af T0 .neq 3 true t30 (.i .i64 5)) fun t31 => k t29 t30 t31 ⟨H, 4⟩) ⟨H, 4⟩ fun t29 t30 t31 sx5 =>
     oV 32 (au t27 (some t31) (some (.b false))) fun t32 =>
     oG [34, 35, 36, 37] t32 false (fun (k : C4) => oV 34 (some (.ptr 3 0)) fun t34 => oV 35 (ac T0 sx5.h 3 t34) fun t35 => oV 36 (af T0 .neq 3 true t35 (.i .i64 1)) fun t36 => k t34 t35 t36 t36 sx5) sx5 fun t34 t35 t36 t37 sx6 =>
     oG [38, 39, 40, 41] t37 true (fun (k : C4) => oV 38 (some (.ptr 0 0)) fun t38 => oV 39 (ac T0 sx6.h 3 t38) fun t39 => oV 41 (af T0 .neq 3 false t39 (.i .i64 4)) fun t41 => k t38 t39 (.i .i64 4) t41 sx6) sx6 fun t38 t39 t40 t41 sx7 =>
     oG [42] t32 false (fun (k : C1) => oV 42 (au t37 (some t41) (some (.b false))) fun t42 => k t42 sx7) sx7 fun t42 sx8 =>
     oV 43 (au t32 (some (.b true)) (some t42)) fun t43 => oI t43 (A sx8) (B sx8)) := by
   intro A B hA hB
   rw [aa, S0, aa, bZ, aa]
   by_cases k1 : s.kind_ = 1
   ·rw [decide_eq_true k1, ja, aa, L0, aa, eb, aa]
    dsimp only
    rw [be, aa]
    by_cases k5 : v.kind = 5
    ·rw [decide_eq_false (fun q => q k5), sN, aa, S0, aa, eb, aa, decide_eq_false (fun q => q k1)]
     dsimp only
     rw [sM, lx, bY, aa]
     dsimp only
     rw [bY, aa, aA]
     exact hB (by unfold wrK; omega)
    ·rw [decide_eq_true k5, vQ, vG, mK, be, aa, aD]
     exact hA (by unfold wrK; omega)
   ·rw [decide_eq_false k1, mL, bY, aa, sN, aa, S0, aa, eb, aa, decide_eq_true k1]
    dsimp only
    rw [sL, aa, L0, aa, eb, aa]
    dsimp only
    rw [lx, be, aa]
    dsimp only
    rw [bY, aa]
    by_cases k4 : v.kind = 4
    ·rw [decide_eq_false (fun q => q k4), aA]; exact hB (by unfold wrK; omega)
    ·rw [decide_eq_true k4, aD]; exact hA (by unfold wrK; omega)
  refine guard _ _ (fun hw => ?_) (fun hw => ?_)
  ·rw [jh, aa, jI rfl g2, aH, tW, aa, putV_wr hw, wY]; rfl
  clear guard
  dsimp only
  rw [Lv, aa, skx g3, aa, e49 sm, c85n.eq, bu]
  dsimp only
  simp only [Nat.reduceAdd]
  rw [dM rfl (ah _ _ _), aH]
  have a0 : ((H.put 4 (some (.cells [.i .i64 0, .i .i64 0, .s [], .nilz true, .nilz true] 35 false))).put 4 (some (.cells (ak (ci [])).cells 35 false))).get 0 = some (.cells (aK v (.lst (v.list.map ak)) (.lst (v.fields.map ay))) 35 false) := by
   rw [ae _ _ (by decide), ae _ _ (by decide)]; exact g0
  have a1 : ((H.put 4 (some (.cells [.i .i64 0, .i .i64 0, .s [], .nilz true, .nilz true] 35 false))).put 4 (some (.cells (ak (ci [])).cells 35 false))).get 1 = some (.cells (ak x).cells 35 false) := by
   rw [ae _ _ (by decide), ae _ _ (by decide)]; exact g1
  have a2 : ((H.put 4 (some (.cells [.i .i64 0, .i .i64 0, .s [], .nilz true, .nilz true] 35 false))).put 4 (some (.cells (ak (ci [])).cells 35 false))).get 2 = some (.cells [.i .i64 0, .i .i64 0, .s [], .nilz true, .nilz true] 35 false) := by
   rw [ae _ _ (by decide), ae _ _ (by decide)]; exact g2
  have a3 : ((H.put 4 (some (.cells [.i .i64 0, .i .i64 0, .s [], .nilz true, .nilz true] 35 false))).put 4 (some (.cells (ak (ci [])).cells 35 false))).get 3 = some (.cells (am s).cells 50 false) := by
   rw [ae _ _ (by decide), ae _ _ (by decide)]; exact g3
  have a4 : ((H.put 4 (some (.cells [.i .i64 0, .i .i64 0, .s [], .nilz true, .nilz true] 35 false))).put 4 (some (.cells (ak (ci [])).cells 35 false))).get 4 = some (.cells (ak (ci [])).cells 35 false) := ah _ _ _
  clear g0 g1 g2 g3 L0 S0 Lv
  generalize ((H.put 4 (some (.cells [.i .i64 0, .i .i64 0, .s [], .nilz true, .nilz true] 35 false))).put 4 (some (.cells (ak (ci [])).cells 35 false))) = h at a0 a1 a2 a3 a4 |-
  refine join7 (P := fun v0 v1 v2 v3 v4 v5 v6 σ => v0 = .ptr 2 0 /\ v1 = .i .i64 (chI v s) /\ v2 = .ptr 0 0 /\ v3 = .ptr 3 0 /\ v4 = .ptr 1 0 /\ v5 = .lst (p.map am) /\ v6 = .ptr 4 0 /\ 5 <= σ.n /\ σ.h.get 0 = some (.cells (aK v (.lst (v.list.map ak)) (.lst (v.fields.map ay))) 35 false) /\
    σ.h.get 1 = some (.cells (ak x).cells 35 false) /\ σ.h.get 2 = some (.cells [.i .i64 0, .i .i64 0, .s [], .nilz true, .nilz true] 35 false) /\ σ.h.get 3 = some (.cells (am s).cells 50 false) /\ σ.h.get 4 = some (.cells (ak (gP v s)).cells 35 false) /\ ¬ (s.kind_ = 2 /\ ((v.list.length : Nat) : Int) < s.index_)) ?_ ?_
  ·intro k hk'
   have fin : ∀ w : Val, w = gP v s -> ¬ (s.kind_ = 2 /\ ((v.list.length : Nat) : Int) < s.index_) -> k (.ptr 2 0) (.i .i64 (chI v s)) (.ptr 0 0) (.ptr 3 0) (.ptr 1 0) (.lst (p.map am)) (.ptr 4 0) ⟨h.put 4 (some (.cells (ak w).cells 35 false)), 5⟩ := by
    rintro w rfl hr
    refine hk' _ _ _ _ _ _ _ _ ⟨rfl, rfl, rfl, rfl, rfl, rfl, rfl, Nat.le_refl _, ?_, ?_, ?_, ?_, ah _ _ _, hr⟩
    ·dsimp only; rw [ae _ _ (by decide)]; exact a0
    ·dsimp only; rw [ae _ _ (by decide)]; exact a1
    ·dsimp only; rw [ae _ _ (by decide)]; exact a2
    ·dsimp only; rw [ae _ _ (by decide)]; exact a3
   rw [rr, aa]
   by_cases hc : 0 <= chI v s
   ·have hb := hb hc
    have hnr : ¬ (s.kind_ = 2 /\ ((v.list.length : Nat) : Int) < s.index_) := by
     rintro ⟨k2, hl⟩
     have : chI v s = -1 := by unfold chI; rw [if_neg (fun q => by omega), if_neg (fun q => by omega), if_neg (fun q => by omega)]
     omega
    rw [decide_eq_true hc, ja, aa, sk0 a3, aa, bZ, aa]
    dsimp only
    rw [be, aa]
    by_cases k1 : s.kind_ = 1
    ·have hi := hb.1 k1
     rw [decide_eq_true k1, aD, aa, l4 a0, aa, qR hc hi bq, aa, oX, aa, fS, mO, aa, dM (bo _) a4, aH]
     exact fin _ (by unfold gP; rw [if_pos hc, if_pos k1]) hnr
    ·have hi := hb.2 k1
     rw [decide_eq_false k1, aA, aa, aD, aa, l3 a0, aa, sK hc hi bo, aa, fS, iU, aa, dM (bo _) a4, aH]
     exact fin _ (by unfold gP; rw [if_pos hc, if_neg k1]) hnr
   ·have ho : gP v s = gn s := by unfold gP; rw [if_neg hc]
    rw [decide_eq_false hc, mL, bY, aa, aA, aa, aA, aa, sk0 a3, aa, bZ, aa]
    have hsame : h.put 4 (some (.cells (ak (ci [])).cells 35 false)) = h.put 4 (some (.cells (ak (ci [])).cells 35 false)) := rfl
    have fin0 : gn s = ci [] -> ¬ (s.kind_ = 2 /\ ((v.list.length : Nat) : Int) < s.index_) -> k (.ptr 2 0) (.i .i64 (chI v s)) (.ptr 0 0) (.ptr 3 0) (.ptr 1 0) (.lst (p.map am)) (.ptr 4 0) ⟨h, 5⟩ := fun hf hr =>
     hk' _ _ _ _ _ _ _ _ ⟨rfl, rfl, rfl, rfl, rfl, rfl, rfl, Nat.le_refl _, a0, a1, a2, a3, by dsimp only; rw [ho, hf]; exact a4, hr⟩
    by_cases k2 : s.kind_ = 2
    ·rw [decide_eq_true k2, gtt_6, aa, sk2 a3, aa, aa, l3 a0, aa, nJ, aa, cy, aa]
     dsimp only
     rw [be, aa, List.length_map]
     by_cases hl : ((v.list.length : Nat) : Int) < s.index_
     ·rw [decide_eq_true hl, aD, jh, aa, jI rfl a2, aH, tW, aa, putV_rng hw ⟨k2, hl⟩, wY]; rfl
     ·rw [decide_eq_false hl, aA, aa, sk0 a3, aa, bZ, aa, decide_eq_false (by omega), aA]
      exact fin0 (by unfold gn; rw [if_neg (by omega)]) (fun q => hl q.2)
    ·rw [decide_eq_false k2, gft_6, bY, aa, aA, aa, sk0 a3, aa, bZ, aa]
     by_cases k3 : s.kind_ = 3
     ·have st4 : ba T0 h 35 (.ptr 4 0) (ak (gn s)) = some (4, .cells (ak (gn s)).cells 35 false) := fu ic a4 (bo _) (fX _) (cf _ _ (by rw [bo, bo]))
      rw [decide_eq_true k3, aD, du a4, aa, aa, sk1 a3, aa, aa, sk3 a3, aa, e61, with_e gd_map0 hst.1 (smStr hst.2), fresh3 k3, st4, bI, eN rfl rfl, eD]
      exact fin _ ho.symm (fun q => k2 q.1)
     ·rw [decide_eq_false k3, aA]
      exact fin0 (by unfold gn; rw [if_neg k3]) (fun q => k2 q.1)
  clear a0 a1 a2 a3 a4
  rintro _ _ _ _ _ _ _ ⟨H, n⟩ ⟨rfl, rfl, rfl, rfl, rfl, rfl, rfl, hn, a0, a1, a2, a3, a4, hr⟩
  dsimp only at hn a0 a1 a2 a3 a4 |-
  rw [du a4, aa, du a1, aa, ih.eq]
  cases hp : dX (gP v s) p x with
  | er e =>
   have he := her e hp
   have c2 := ((ae (H.put n (some (.cells [.i .i64 0, .i .i64 0, .s [], .nilz true, .nilz true] 35 false))) (some (.cells (ak default).cells 35 false)) (show 2 ≠ n by omega)).trans (ae H _ (show 2 ≠ n by omega))).trans a2
   show oV 100 (aI 0 (.tup [ak default, .i .i64 e])) _
   rw [ex0, aa, show aI 1 (prA (.er e)) = some (.i .i64 e) from rfl, aa, bu, dM rfl (ah _ _ _), aH, eb, aa, decide_eq_true (by omega), aD, jh, aa, jI rfl c2, aH, tW, aa, putV_sub hw hr hp, wY]; rfl
  | ok y =>
   have sy := hsm y hp
   show oV 100 (aI 0 (.tup [ak y, .i .i64 0])) _
   rw [ex0, aa, show aI 1 (prA (.ok y)) = some (.i .i64 0) from rfl, aa, bu, dM rfl (ah _ _ _), aH, eb, aa, decide_eq_false (by decide), aA]
   dsimp only
   have b0 := ((ae (H.put n (some (.cells [.i .i64 0, .i .i64 0, .s [], .nilz true, .nilz true] 35 false))) (some (.cells (ak y).cells 35 false)) (show 0 ≠ n by omega)).trans (ae H _ (show 0 ≠ n by omega))).trans a0
   have b2 := ((ae (H.put n (some (.cells [.i .i64 0, .i .i64 0, .s [], .nilz true, .nilz true] 35 false))) (some (.cells (ak y).cells 35 false)) (show 2 ≠ n by omega)).trans (ae H _ (show 2 ≠ n by omega))).trans a2
   have b3 := ((ae (H.put n (some (.cells [.i .i64 0, .i .i64 0, .s [], .nilz true, .nilz true] 35 false))) (some (.cells (ak y).cells 35 false)) (show 3 ≠ n by omega)).trans (ae H _ (show 3 ≠ n by omega))).trans a3
   have bn := ah (H.put n (some (.cells [.i .i64 0, .i .i64 0, .s [], .nilz true, .nilz true] 35 false))) n (some (.cells (ak y).cells 35 false))
   generalize (H.put n (some (.cells [.i .i64 0, .i .i64 0, .s [], .nilz true, .nilz true] 35 false))).put n (some (.cells (ak y).cells 35 false)) = h at b0 b2 b3 bn |-
   clear a0 a1 a2 a3 a4
   have Lv : ac T0 h 35 (.ptr 0 0) = some (ak v) := by rw [l5 b0, ax]; rfl
   simp only [cG, Nat.zero_add]
   rw [aa, sk0 b3, aa, bZ, aa]
   by_cases k1 : s.kind_ = 1
   ·rw [decide_eq_true k1, aD, Lv, aa, aa, sk1 b3, aa, du bn, aa, with_e hv hst.1 sy, dM rfl b2, aH, vu, aa, pE hw hr hp (fun q => by omega), ozve]
    unfold fm; rw [if_pos k1]; rfl
   ·rw [decide_eq_false k1, aA, aa, sk0 b3, aa, bZ, aa]
    have fail : ∀ σ : AS, σ = ⟨h, n + 1⟩ -> (s.kind_ = 3 /\ mtB y s.name_ s.value_ = false) -> (oV 123 (bF T0 35 []) fun t123 => oH (az T0 σ.h 35 (.ptr 2 0) t123) σ fun sx18 => oV 6 (ac T0 sx18.h 35 (.ptr 2 0)) fun t6x2 => oZ T0 sx18 (.tup [t6x2, .i .i64 6]) (fun r2 => r2 = prA (dX v (s :: p) x))) := by
     rintro σ rfl hf
     rw [jh, aa, jI rfl b2, aH, tW, aa, putV_mt hw hr hp hf, wY]; rfl
    have go : ¬ (s.kind_ = 3 /\ mtB y s.name_ s.value_ = false) ->
     (oV 124 (some (.ptr 0 3)) fun t124 =>
      oV 125 (ac T0 h 32 t124) fun t125 =>
      oC T0 126 77 [t125] ⟨h, n + 1⟩ fun t126 sx18 =>
      oJ [6, 15] (fun (k : C2) =>
       oV 128 (af T0 .lss 3 true (.i .i64 (chI v s)) (.i .i64 0)) fun t128 =>
       oI t128 (oV 130 (ac T0 sx18.h 35 (.ptr n 0)) fun t130 =>
        oV 131 (eE T0 32 1 [(0, t130)]) fun t131 =>
        oM 132 (aG T0 sx18 32 32 t126 t131) fun t132 sx19 =>
        k (.ptr 2 0) t132 sx19)
       (oV 135 (ac T0 sx18.h 35 (.ptr n 0)) fun t135 =>
        oV 136 (ai T0 32 t126 (.i .i64 (chI v s))) fun t136 =>
        oH (az T0 sx18.h 35 t136 t135) sx18 fun sx19 =>
        k (.ptr 2 0) t126 sx19))
      (fun t6x2 t15 sx19 =>
      oC T0 138 87 [t15] sx19 fun t138 sx20 =>
      oH (az T0 sx20.h 35 t6x2 t138) sx20 fun sx21 =>
      oV 6 (ac T0 sx21.h 35 t6x2) fun t6x3 =>
      oZ T0 sx21 (.tup [t6x3, (.i .i64 0)]) (fun r2 => r2 = prA (dX v (s :: p) x)))) := by
     intro hm
     have hh2 := hh.2.1
     have smf := bU sm
     rw [aa, l3 b0, aa]
     obtain ⟨⟨h2, n2⟩, q1, q2, q3, q4, q5⟩ := q77 (l := v.list) (by omega) ⟨h, n + 1⟩
     dsimp only at q1 q2 q3 q4 q5
     have hrow : v.list ≠ [] -> h2.get (n + 1) = some (.cells (aw ak v.list) 35 true) := fun hne => by have := q5 ak hne; rw [gS] at this; exact this
     have c2 := (q2 2 (by omega)).trans b2
     have cn := (q2 n (by omega)).trans bn
     have fin : ∀ (l : List Val) (t15 : AV) (h3 : Tr AB) (n3 : Nat), eO l = fm v s y -> l.length <= 100000 -> (∀ f ∈ l, smV f) -> OwnW 35 (n + 1) h3 n3 (l.map ak) t15 -> h3.get 2 = some (.cells [.i .i64 0, .i .i64 0, .s [], .nilz true, .nilz true] 35 false) ->
       (oC T0 138 87 [t15] ⟨h3, n3⟩ fun t138 sx20 => oH (az T0 sx20.h 35 (.ptr 2 0) t138) sx20 fun sx21 => oV 6 (ac T0 sx21.h 35 (.ptr 2 0)) fun t6x3 => oZ T0 sx21 (.tup [t6x3, (.i .i64 0)]) (fun r2 => r2 = prA (dX v (s :: p) x))) := by
      intro l t15 h3 n3 hl hll hls o d2
      obtain ⟨σ', hrun, hn', hk'⟩ := g87 (σ := ⟨h3, n3⟩) o hll hls
      rw [hrun.eq, dM rfl ((hk' 2 (by omega)).trans d2), aH, vu, aa, pE hw hr hp hm, ozve, hl]; rfl
     rw [q1, fG, dl, aa]
     by_cases hc : chI v s < 0
     ·obtain ⟨x', ⟨h3, n3⟩, ha, hw', hn', hk'⟩ := appVm (h := h2) (n := n2) (m := n + 1) (l := v.list) (l' := [y]) (own_rowV hrow (Nat.le_refl _) q4) q3 (by rw [List.length_singleton]; omega)
      have ha : aG T0 ⟨h2, n2⟩ 32 32 (bC v.list (n + 1)) (.lst [ak y]) = some (x', ⟨h3, n3⟩) := ha
      dsimp only at hw' hn' hk'
      rw [decide_eq_true hc, aD, du cn, aa, yw, aa, ha, aP]
      refine fin (v.list ++ [y]) _ _ _ (by unfold fm; rw [if_neg k1, if_pos hc]) (by rw [List.length_append, List.length_singleton]; omega) (fun f hf => ?_) hw' ((hk' 2 (by omega)).trans c2)
      rcases List.mem_append.1 hf with hf | hf
      ·exact smf.2.2.2.2.1 f hf
      ·rw [List.mem_singleton.1 hf]; exact sy
     ·have hi := (hb (by omega)).2 k1
      obtain ⟨i, hi'⟩ : ∃ i : Nat, chI v s = (i : Nat) := ⟨(chI v s).toNat, by omega⟩
      have hil : i < v.list.length := by omega
      have hne : v.list ≠ [] := fun q => by rw [q] at hil; cases hil
      obtain ⟨w1, w2⟩ := own_set (m := n + 1) (n := n2) (y := y) (hrow hne) hil (Nat.le_refl _) (q4 hne)
      rw [decide_eq_false hc, aA, du cn, aa, hi', fw elV.ty elV.sz hil, aa, w1, aH]
      refine fin (v.list.set i y) _ _ _ (by unfold fm; rw [if_neg k1, if_neg hc, hi']; rfl) (by rw [List.length_set]; omega) (fun f hf => ?_) w2 (by rw [ae _ _ (by omega)]; exact c2)
      rcases List.mem_or_eq_of_mem_set hf with hf | rfl
      ·exact smf.2.2.2.2.1 f hf
      ·exact sy
    by_cases k3 : s.kind_ = 3
    ·rw [decide_eq_true k3, sL, du bn, aa, skx b3, aa, e76 sy, cN, aa]
     dsimp only
     rw [be, aa]
     cases hm : mtB y s.name_ s.value_ with
     | false => rw [Bool.not_false, aD]; exact fail _ rfl ⟨k3, hm⟩
     | true => rw [Bool.not_true, aA]; exact go (fun q => by rw [hm] at q; cases q.2)
    ·rw [decide_eq_false k3, sM, bY, aa, aA]; exact go (fun q => k3 q.1)
theorem e55 {p : List XStep} {v x : Val} (hp : ∀ s ∈ p, bt s = true) (hv : Gd v) (sx : smV x) {d : Nat} {σ : AS} {K : AV -> AS -> Prop} : oC T0 d 55 [ak v, .lst (p.map am), ak x] σ K = K (prA (dX v p x)) σ := (c55 p v x hp hv sx).eq d σ K
def rJ (v : Val) (p : List XStep) (x : Val) : PR :=
 if dw p = true /\ ee v = true /\ ee x = true then match dX v p x with
  | .er e => .er e
  | .ok w => if ee w = true then .ok w else .er 4
 else .er 1
theorem setV_no {v : Val} {p : List XStep} {x : Val} (h : ¬ (dw p = true /\ ee v = true /\ ee x = true)) : rJ v p x = .er 1 := if_neg h
theorem setV_er {v : Val} {p : List XStep} {x : Val} {e : Int} (h : dw p = true /\ ee v = true /\ ee x = true) (hp : dX v p x = .er e) : rJ v p x = .er e := by unfold rJ; rw [if_pos h, hp]
theorem xV {v : Val} {p : List XStep} {x w : Val} (h : dw p = true /\ ee v = true /\ ee x = true) (hp : dX v p x = .ok w) (hw : ee w = true) : rJ v p x = .ok w := by unfold rJ; rw [if_pos h, hp]; exact if_pos hw
theorem setV_big {v : Val} {p : List XStep} {x w : Val} (h : dw p = true /\ ee v = true /\ ee x = true) (hp : dX v p x = .ok w) (hw : ee w = false) : rJ v p x = .er 4 := by unfold rJ; rw [if_pos h, hp]; exact if_neg (by rw [hw]; decide)
theorem set_head {σ : AS} {f g : Nat} {a1 : AV} {p : List XStep} {v x : Val} {A B : AS -> Prop}
  (h0 : ac T0 σ.h 35 (.ptr 0 0) = some (ak v)) (h1 : ac T0 σ.h 35 (.ptr 1 0) = some (ak x))
  (ef : ∀ (d : Nat) (σ : AS) (K : AV -> AS -> Prop), oC T0 d f [a1] σ K = K (.b (dw p)) σ) (eg : ∀ (u : Val) (d : Nat) (σ : AS) (K : AV -> AS -> Prop), u = v ∨ u = x -> oC T0 d g [ak u] σ K = K (.b (ee u)) σ)
  (hA : ¬ (dw p = true /\ ee v = true /\ ee x = true) -> A σ) (hB : dw p = true /\ ee v = true /\ ee x = true -> B σ) :
  oC T0 11 f [a1] σ fun t11 sx4 =>
  oV 12 (cZ .not t11) fun t12 =>
  oG [14, 15, 16] t12 false (fun (k : C3) => oV 14 (ac T0 sx4.h 35 (.ptr 0 0)) fun t14 => oC T0 15 g [t14] sx4 fun t15 sx5 => oV 16 (cZ .not t15) fun t16 => k t14 t15 t16 sx5) sx4 fun t14 t15 t16 sx5 =>
  oV 17 (au t12 (some (.b true)) (some t16)) fun t17 =>
  oG [19, 20, 21] t17 false (fun (k : C3) => oV 19 (ac T0 sx5.h 35 (.ptr 1 0)) fun t19 => oC T0 20 g [t19] sx5 fun t20 sx6 => oV 21 (cZ .not t20) fun t21 => k t19 t20 t21 sx6) sx5 fun t19 t20 t21 sx6 =>
  oV 22 (au t17 (some (.b true)) (some t21)) fun t22 => oI t22 (A sx6) (B sx6) := by
 rw [ef, cN, aa]
 cases hp : dw p with
 | false =>
  rw [Bool.not_false, fJ, be, aa, fJ, be, aa, aD]
  exact hA (fun q => by rw [hp] at q; cases q.1)
 | true =>
  rw [Bool.not_true, lw, h0, aa, eg v _ _ _ (.inl rfl), cN, aa]
  dsimp only
  rw [bY, aa]
  cases hv : ee v with
  | false =>
   rw [Bool.not_false, fJ, be, aa, aD]
   exact hA (fun q => by rw [hv] at q; cases q.2.1)
  | true =>
   rw [Bool.not_true, lw, h1, aa, eg x _ _ _ (.inr rfl), cN, aa]
   dsimp only
   rw [bY, aa]
   cases hx : ee x with
   | false => rw [Bool.not_false, aD]; exact hA (fun q => by rw [hx] at q; cases q.2.2)
   | true => rw [Bool.not_true, aA]; exact hB ⟨hp, hv, hx⟩
theorem c28 (v : Val) (p : List XStep) (x : Val) (sm : smV v) (sx : smV x) (hp : p.length <= 140737488351232) (ox : ∀ x ∈ p, bz x) : R T0 28 [ak v, .lst (p.map am), ak x] (prA (rJ v p x)) := by
 refine r28 _ _ _ (by rw [ax, ax]; rfl) (by rw [ax, ax]; rfl) ?_
 unfold w28
 dsimp only [av]
 rw [bu, bu, bu]
 simp only [Nat.zero_add, Nat.reduceAdd]
 have g0 : (((Tr.nil.put 0 (some (.cells (ak v).cells 35 false))).put 1 (some (.cells (ak x).cells 35 false))).put 2 (some (.cells [.i .i64 0, .i .i64 0, .s [], .nilz true, .nilz true] 35 false)) : Tr AB).get 0 = some (.cells (ak v).cells 35 false) := by
  rw [ae _ _ (by decide), ae _ _ (by decide), ah]
 have g1 : (((Tr.nil.put 0 (some (.cells (ak v).cells 35 false))).put 1 (some (.cells (ak x).cells 35 false))).put 2 (some (.cells [.i .i64 0, .i .i64 0, .s [], .nilz true, .nilz true] 35 false)) : Tr AB).get 1 = some (.cells (ak x).cells 35 false) := by
  rw [ae _ _ (by decide), ah]
 have g2 : (((Tr.nil.put 0 (some (.cells (ak v).cells 35 false))).put 1 (some (.cells (ak x).cells 35 false))).put 2 (some (.cells [.i .i64 0, .i .i64 0, .s [], .nilz true, .nilz true] 35 false)) : Tr AB).get 2 = some (.cells [.i .i64 0, .i .i64 0, .s [], .nilz true, .nilz true] 35 false) := ah _ _ _
 generalize (((Tr.nil.put 0 (some (.cells (ak v).cells 35 false))).put 1 (some (.cells (ak x).cells 35 false))).put 2 (some (.cells [.i .i64 0, .i .i64 0, .s [], .nilz true, .nilz true] 35 false)) : Tr AB) = h at g0 g1 g2 |-
 refine set_head (p := p) (v := v) (x := x) (σ := ⟨h, 3⟩) (du g0) (du g1) (fun d σ K => e13 hp ox) (fun u d σ K hu => by rcases hu with rfl | rfl; exact e54 sm.ok; exact e54 sx.ok) (fun hn => ?_) (fun hy => ?_)
 ·rw [jh, aa, jI rfl g2, aH, tW, aa, setV_no hn, wY]; rfl
 have hst := (jx hy.1).2
 have gd := valid_gd sm hy.2.1
 dsimp only
 rw [du g0, aa, du g1, aa, e55 hst gd sx]
 cases hr : dX v p x with
 | er e =>
  have he := tK p v x e hr
  have c2 := ((ae (h.put 3 (some (.cells [.i .i64 0, .i .i64 0, .s [], .nilz true, .nilz true] 35 false))) (some (.cells (ak default).cells 35 false)) (show 2 ≠ 3 by omega)).trans (ae h _ (show 2 ≠ 3 by omega))).trans g2
  show oV 29 (aI 0 (.tup [ak default, .i .i64 e])) _
  rw [ex0, aa, show aI 1 (prA (.er e)) = some (.i .i64 e) from rfl, aa, bu, dM rfl (ah _ _ _), aH, eb, aa, decide_eq_true (by omega), aD, jh, aa, jI rfl c2, aH, tW, aa, setV_er hy hr, wY]; rfl
 | ok w =>
  have sw := smPut p v x w (fun s hs => iH (hst s hs)) gd sx hr
  show oV 29 (aI 0 (.tup [ak w, .i .i64 0])) _
  rw [ex0, aa, show aI 1 (prA (.ok w)) = some (.i .i64 0) from rfl, aa, bu, dM rfl (ah _ _ _), aH, eb, aa, decide_eq_false (by decide), aA]
  dsimp only
  have b2 := ((ae (h.put 3 (some (.cells [.i .i64 0, .i .i64 0, .s [], .nilz true, .nilz true] 35 false))) (some (.cells (ak w).cells 35 false)) (show 2 ≠ 3 by omega)).trans (ae h _ (show 2 ≠ 3 by omega))).trans g2
  have b3 := ah (h.put 3 (some (.cells [.i .i64 0, .i .i64 0, .s [], .nilz true, .nilz true] 35 false))) 3 (some (.cells (ak w).cells 35 false))
  generalize (h.put 3 (some (.cells [.i .i64 0, .i .i64 0, .s [], .nilz true, .nilz true] 35 false))).put 3 (some (.cells (ak w).cells 35 false)) = H at b2 b3 |-
  rw [du b3, aa, e54 sw.ok, cN, aa]
  cases hw : ee w with
  | false => rw [Bool.not_false, aD, jh, aa, jI rfl b2, aH, tW, aa, setV_big hy hr hw, wY]; rfl
  | true => rw [Bool.not_true, aA, du b3, aa, e50 sw, dM rfl b2, aH, vu, aa, xV hy hr hw, ozve]; rfl
theorem e28 {v : Val} {p : List XStep} {x : Val} (sm : smV v) (sx : smV x) (hp : p.length <= 140737488351232) (ox : ∀ x ∈ p, bz x) {d : Nat} {σ : AS} {K : AV -> AS -> Prop} : oC T0 d 28 [ak v, .lst (p.map am), ak x] σ K = K (prA (rJ v p x)) σ := (c28 v p x sm sx hp ox).eq d σ K
theorem prA_form (r : PR) (h : ∀ w, r = .ok w -> smV w) : ∃ w e, prA r = .tup [ak w, .i .i64 e] /\ smV w := by
 cases r with
 | ok w => exact ⟨w, 0, rfl, h w rfl⟩
 | er e => exact ⟨default, e, rfl, wL⟩
def jS (l : List Fld) (nm : List UInt8) : Option Val := (l.find? (fun f => f.name == nm)).map Fld.v
theorem zp (f : Fld) : Fld.mk f.name f.v = f := by cases f; rfl
theorem gC {l : List Fld} {nm : List UInt8} {y : Val} (hd : Dif l) : jS l nm = some y ↔ Fld.mk nm y ∈ l := by
 unfold jS
 constructor
 ·intro h
  cases hf : l.find? (fun f => f.name == nm) with
  | none => rw [hf] at h; cases h
  | some f =>
   rw [hf] at h
   have h1 := List.mem_of_find?_eq_some hf
   have h2 := List.find?_some hf
   have h3 : f.name = nm := by simpa using h2
   injection h with h
   rw [<- h, <- h3, zp]; exact h1
 ·intro h
  cases hf : l.find? (fun f => f.name == nm) with
  | none =>
   have := List.find?_eq_none.1 hf _ h
   simp [Fld.name] at this
  | some f =>
   have h1 := List.mem_of_find?_eq_some hf
   have h2 := List.find?_some hf
   have h3 : f.name = nm := by simpa using h2
   have h4 : f = Fld.mk nm y := hd.eq f h1 _ h h3
   rw [h4]; rfl
theorem Ak {l l' : List Fld} {nm : List UInt8} (hd : Dif l) (hd' : Dif l') (h : ∀ y, Fld.mk nm y ∈ l ↔ Fld.mk nm y ∈ l') : jS l nm = jS l' nm := by
 cases h1 : jS l nm with
 | none =>
  cases h2 : jS l' nm with
  | none => rfl
  | some y => rw [(gC hd).2 ((h y).2 ((gC hd').1 h2))] at h1; cases h1
 | some y => rw [(gC hd').2 ((h y).1 ((gC hd).1 h1))]
theorem nO {α : Type} {q : α -> Bool} {l : List α} {d : α} (h : 0 <= cS q l) : ∃ j : Nat, cS q l = (j : Nat) /\ j < l.length /\ q (l.getD j d) = true /\ ∀ i, i < j -> q (l.getD i d) = false := by
 unfold cS at h |-
 by_cases hf : l.findIdx q < l.length
 ·rw [if_pos hf]
  refine ⟨_, rfl, hf, ?_, fun i hi => ?_⟩
  ·have := List.findIdx_getElem (w := hf)
   rw [List.getD_eq_getElem?_getD, List.getElem?_eq_getElem hf]; exact this
  ·have := List.not_of_lt_findIdx hi
   rw [List.getD_eq_getElem?_getD, List.getElem?_eq_getElem (by omega)]; simpa using this
 ·rw [if_neg hf] at h; omega
theorem nP {α : Type} {q : α -> Bool} {l : List α} (h : cS q l < 0) : ∀ x ∈ l, q x = false := by
 unfold cS at h
 by_cases hf : l.findIdx q < l.length
 ·rw [if_pos hf] at h; omega
 ·intro x hx
  cases hq : q x with
  | false => rfl
  | true => exact absurd (List.findIdx_lt_length_of_exists ⟨x, hx, hq⟩) hf
theorem pK {α : Type} {q : α -> Bool} {l : List α} {d : α} {j : Nat} (hj : j < l.length) (h1 : q (l.getD j d) = true) (h2 : ∀ i, i < j -> q (l.getD i d) = false) : cS q l = (j : Nat) := by
 have e : l.findIdx q = j := by
  rw [List.findIdx_eq hj]
  rw [List.getD_eq_getElem?_getD, List.getElem?_eq_getElem hj] at h1
  refine ⟨h1, fun i hi => ?_⟩
  have := h2 i hi
  rw [List.getD_eq_getElem?_getD, List.getElem?_eq_getElem (by omega)] at this
  exact this
 unfold cS; rw [e, if_pos hj]
theorem idxB_no2 {α : Type} {q : α -> Bool} {l : List α} (h : ∀ x ∈ l, q x = false) : cS q l = -1 := by
 unfold cS
 rw [if_neg]
 intro hf
 have := List.findIdx_getElem (w := hf)
 rw [h _ (List.getElem_mem hf)] at this; cases this
theorem oy {v : Val} {x : XStep} (k : x.kind_ = 1) : br v x = if v.kind = 5 then jS v.fields x.name_ else none := by
 have hc : chI v x = if v.kind = 5 then cS (fun f : Fld => f.name == x.name_) v.fields else -1 := by
  unfold chI
  by_cases h5 : v.kind = 5
  ·rw [if_pos ⟨k, h5⟩, if_pos h5]
  ·rw [if_neg (fun q => h5 q.2), if_neg (fun q => by omega), if_neg (fun q => by omega), if_neg h5]
 unfold br
 rw [hc, if_pos k]
 by_cases h5 : v.kind = 5
 ·rw [if_pos h5, if_pos h5]
  unfold jS
  cases hf : v.fields.find? (fun f => f.name == x.name_) with
  | none =>
   rw [idxB_no2 (fun f hm => by have := List.find?_eq_none.1 hf f hm; simpa using this)]; rfl
  | some f =>
   have hm := List.mem_of_find?_eq_some hf
   have hq := List.find?_some hf
   by_cases h0 : cS (fun f : Fld => f.name == x.name_) v.fields < 0
   ·have := nP h0 f hm; rw [this] at hq; cases hq
   ·rw [if_neg h0]
    unfold cS
    unfold cS at h0
    have hlt : v.fields.findIdx (fun f : Fld => f.name == x.name_) < v.fields.length := List.findIdx_lt_length_of_exists ⟨f, hm, hq⟩
    rw [if_pos hlt, Int.toNat_natCast, List.getD_eq_getElem?_getD]
    have : v.fields[v.fields.findIdx (fun f : Fld => f.name == x.name_)]? = v.fields.find? (fun f => f.name == x.name_) := (List.find?_eq_getElem?_findIdx).symm
    rw [this, hf]; rfl
 ·rw [if_neg h5, if_neg h5]; rfl
theorem qh {v : Val} {x : XStep} (k : x.kind_ = 2) (h0 : 0 <= x.index_) : br v x = if v.kind = 4 /\ x.index_ < (v.list.length : Nat) then some (v.list.getD x.index_.toNat default) else none := by
 have hc : chI v x = if v.kind = 4 /\ x.index_ < (v.list.length : Nat) then x.index_ else -1 := by
  unfold chI
  rw [if_neg (fun q => by omega)]
  by_cases h : v.kind = 4 /\ x.index_ < (v.list.length : Nat)
  ·rw [if_pos ⟨k, h⟩, if_pos h]
  ·rw [if_neg (fun q => h q.2), if_neg (fun q => by omega), if_neg h]
 unfold br
 rw [hc, if_neg (show ¬ x.kind_ = 1 by omega)]
 by_cases h : v.kind = 4 /\ x.index_ < (v.list.length : Nat)
 ·rw [if_pos h, if_pos h, if_neg (by omega)]
 ·rw [if_neg h, if_neg h]; rfl
theorem jk (v : Val) (nm : List UInt8) (y : Val) : (fa v nm y).kind = 5 := rfl
theorem rR {v : Val} {nm : List UInt8} {y : Val} (h : Dif v.fields) : Dif (fa v nm y).fields := (qC h).perm (fb _).symm
theorem rQ {v : Val} {nm : List UInt8} {y : Val} {f : Fld} (k : v.kind = 5) : f ∈ (fa v nm y).fields ↔ (f ∈ v.fields /\ f.name ≠ nm) ∨ f = .mk nm y := by
 show f ∈ np _ ↔ _
 rw [(fb _).mem_iff, List.mem_append, List.mem_singleton]
 unfold fC
 rw [if_pos k, List.mem_filter]
 constructor
 ·rintro (⟨h1, h2⟩ | h)
  ·refine .inl ⟨h1, fun e => ?_⟩
   unfold dC at h2; rw [e] at h2; simp at h2
  ·exact .inr h
 ·rintro (⟨h1, h2⟩ | h)
  ·refine .inl ⟨h1, ?_⟩
   unfold dC; simp [h2]
  ·exact .inr h
theorem zS {v : Val} {nm : List UInt8} {y : Val} (k : v.kind = 5) (h : Dif v.fields) : jS (fa v nm y).fields nm = some y :=
 (gC (rR h)).2 ((rQ k).2 (.inr rfl))
theorem uq {v : Val} {nm nm' : List UInt8} {y : Val} (k : v.kind = 5) (h : Dif v.fields) (hn : nm' ≠ nm) : jS (fa v nm y).fields nm' = jS v.fields nm' := by
 refine Ak (rR h) h (fun z => ?_)
 rw [rQ k]
 constructor
 ·rintro (⟨h1, _⟩ | h1)
  ·exact h1
  ·injection h1 with e1 e2; exact absurd e1 hn
 ·exact fun h1 => .inl ⟨h1, hn⟩
theorem wK {l l' : List Fld} (hd : Dif l') (p : l.Perm l') : np l = np l' := nn hd ((fb l).trans p) (qk l)
theorem Ah {v : Val} {nm : List UInt8} {u : Val} (k : v.kind = 5) : (fC (fa v nm u) nm).Perm (fC v nm) := by
 unfold fC
 rw [if_pos k, if_pos (jk v nm u)]
 refine ((fb _).filter _).trans ?_
 rw [List.filter_append]
 have e1 : (fC v nm).filter (dC nm) = v.fields.filter (dC nm) := by unfold fC; rw [if_pos k, List.filter_filter]; simp
 have e2 : [Fld.mk nm u].filter (dC nm) = [] := by simp [dC, Fld.name]
 rw [e1, e2, List.append_nil]
theorem wG {v : Val} {nm : List UInt8} {u y : Val} (k : v.kind = 5) (h : Dif v.fields) : fa (fa v nm u) nm y = fa v nm y := by
 show ci (np (fC (fa v nm u) nm ++ [Fld.mk nm y])) = ci (np (fC v nm ++ [Fld.mk nm y]))
 rw [wK (qC (v := v) (nm := nm) (x := y) h) ((Ah (u := u) k).append_right _)]
theorem eP {l : List Val} {j : Nat} {y : Val} (hj : j < l.length) : (l.set j y).getD j default = y := by
 rw [List.getD_eq_getElem?_getD, List.getElem?_set_self hj]; rfl
theorem gU {l : List Val} {j i : Nat} {y : Val} (hj : i ≠ j) : (l.set j y).getD i default = l.getD i default := by
 rw [List.getD_eq_getElem?_getD, List.getD_eq_getElem?_getD, List.getElem?_set_ne (by omega)]
theorem iB {l : List Val} {i : Nat} {y : Val} (hi : i < l.length) : (l ++ [y]).getD i default = l.getD i default := by
 rw [List.getD_eq_getElem?_getD, List.getD_eq_getElem?_getD, List.getElem?_append_left hi]
theorem fY {l : List Val} {y : Val} : (l ++ [y]).getD l.length default = y := by
 rw [List.getD_eq_getElem?_getD, List.getElem?_append_right (Nat.le_refl _), Nat.sub_self]; rfl
theorem uF {v : Val} {x : XStep} {j : Nat} (h : chI v x = (j : Nat)) (k : x.kind_ ≠ 1) : br v x = some (v.list.getD j default) := by
 unfold br; rw [h, if_neg (by omega), if_neg k]; rfl
theorem ift {α : Type} {c : Int} {a b : α} (h : c < 0) : (if c < 0 then a else b) = a := if_pos h
theorem Au {α : Type} {c : Int} {a b : α} (h : ¬ c < 0) : (if c < 0 then a else b) = b := if_neg h
theorem nC {v : Val} {s : XStep} (hs : bt s = true) (hw : ¬ wrK v s) (hr : ¬ (s.kind_ = 2 /\ ((v.list.length : Nat) : Int) < s.index_)) :
  (s.kind_ = 1 /\ v.kind = 5) ∨
  (s.kind_ = 2 /\ v.kind = 4 /\ ∃ j : Nat, s.index_ = (j : Nat) /\ ((j < v.list.length /\ chI v s = (j : Nat)) ∨ (j = v.list.length /\ chI v s = -1))) ∨
  (s.kind_ = 3 /\ v.kind = 4) := by
 have hk := (dy hs).1
 unfold wrK at hw
 by_cases k1 : s.kind_ = 1
 ·exact .inl ⟨k1, by omega⟩
 ·have k4 : v.kind = 4 := by omega
  by_cases k2 : s.kind_ = 2
  ·have hi : 0 <= s.index_ := by
    unfold bt at hs; rw [if_neg k1, if_pos k2] at hs
    simp only [Bool.and_eq_true, decide_eq_true_eq] at hs; omega
   refine .inr (.inl ⟨k2, k4, s.index_.toNat, by omega, ?_⟩)
   unfold chI
   rw [if_neg (fun q => k1 q.1)]
   by_cases hlt : s.index_ < (v.list.length : Nat)
   ·rw [if_pos ⟨k2, k4, hlt⟩]; exact .inl ⟨by omega, by omega⟩
   ·rw [if_neg (fun q => hlt q.2.2), if_neg (fun q => by omega)]; exact .inr ⟨by omega, rfl⟩
  ·exact .inr (.inr ⟨by omega, k4⟩)
theorem qg {v y : Val} {s : XStep} (hs : bt s = true) (h : Gd v) (hw : ¬ wrK v s) (hr : ¬ (s.kind_ = 2 /\ ((v.list.length : Nat) : Int) < s.index_)) (hm : ¬ (s.kind_ = 3 /\ mtB y s.name_ s.value_ = false)) : br (fm v s y) s = some y := by
 rcases nC hs hw hr with ⟨k1, k5⟩ | ⟨k2, k4, j, hj, hc⟩ | ⟨k3, k4⟩
 ·unfold fm; rw [if_pos k1, oy k1, if_pos (jk _ _ _)]; exact zS k5 h.here.1
 ·have n1 : ¬ s.kind_ = 1 := by omega
  unfold fm; rw [if_neg n1]
  rw [qh k2 (by omega), hj, Int.toNat_natCast]
  rcases hc with ⟨h1, h2⟩ | ⟨h1, h2⟩
  ·rw [h2, Au (by omega), Int.toNat_natCast, if_pos ⟨rfl, by show _ < ((List.length (v.list.set j y) : Nat) : Int); rw [List.length_set]; omega⟩]
   show some ((v.list.set j y).getD j default) = _
   rw [eP h1]
  ·rw [h2, ift (by omega), if_pos ⟨rfl, by show _ < ((List.length (v.list ++ [y]) : Nat) : Int); rw [List.length_append, List.length_singleton]; omega⟩]
   show some ((v.list ++ [y]).getD j default) = _
   rw [h1, fY]
 ·have n1 : ¬ s.kind_ = 1 := by omega
  have hy : mtB y s.name_ s.value_ = true := by
   cases hq : mtB y s.name_ s.value_ with
   | true => rfl
   | false => exact absurd ⟨k3, hq⟩ hm
  have hch : ∀ l, chI (eO l) s = cS (fun e : Val => mtB e s.name_ s.value_) l := fun l => by
   unfold chI; rw [if_neg (fun q => n1 q.1), if_neg (fun q => by omega), if_pos ⟨k3, rfl⟩]; rfl
  have hcv : chI v s = cS (fun e : Val => mtB e s.name_ s.value_) v.list := by
   unfold chI; rw [if_neg (fun q => n1 q.1), if_neg (fun q => by omega), if_pos ⟨k3, k4⟩]
  unfold fm; rw [if_neg n1]
  by_cases h0 : chI v s < 0
  ·rw [if_pos h0]
   have hn := nP (hcv ▸ h0)
   refine (uF (j := v.list.length) ?_ n1).trans ?_
   ·rw [hch]
    refine pK (d := default) (by rw [List.length_append, List.length_singleton]; omega) (by rw [fY]; exact hy) (fun i hi => ?_)
    rw [iB hi]; exact hn _ (aS hi)
   ·show some ((v.list ++ [y]).getD v.list.length default) = _
    rw [fY]
  ·rw [if_neg h0]
   obtain ⟨j, e1, e2, e3, e4⟩ := nO (d := default) (show 0 <= cS (fun e : Val => mtB e s.name_ s.value_) v.list by rw [<- hcv]; omega)
   rw [hcv, e1, Int.toNat_natCast]
   refine (uF (j := j) ?_ n1).trans ?_
   ·rw [hch]
    refine pK (d := default) (by rw [List.length_set]; exact e2) (by rw [eP e2]; exact hy) (fun i hi => ?_)
    rw [gU (by omega)]; exact e4 i hi
   ·show some ((v.list.set j y).getD j default) = _
    rw [eP e2]
theorem km {v x w : Val} {s : XStep} {p : List XStep} (h : dX v (s :: p) x = .ok w) : ¬ wrK v s /\ ¬ (s.kind_ = 2 /\ ((v.list.length : Nat) : Int) < s.index_) /\ ∃ y, dX (gP v s) p x = .ok y /\ ¬ (s.kind_ = 3 /\ mtB y s.name_ s.value_ = false) /\ w = fm v s y := by
 rw [fc] at h
 split at h
 ·cases h
 ·rename_i h1
  split at h
  ·cases h
  ·rename_i h2
   split at h
   ·cases h
   ·rename_i y hy
    split at h
    ·cases h
    ·rename_i h3
     injection h with h
     exact ⟨h1, h2, y, hy, h3, h.symm⟩
theorem get_put : ∀ (p : List XStep) (v x w : Val), (∀ s ∈ p, bt s = true) -> Gd v -> dX v p x = .ok w -> dS w p = some x
 | [], v, x, w, _, _, h => by rw [iM] at h; injection h with h; rw [dD, h]
 | s :: p, v, x, w, hp, hv, h => by
  have hs := hp s (List.mem_cons_self ..)
  have hst := iH hs
  obtain ⟨h1, h2, y, h3, h4, rfl⟩ := km h
  rw [bJ (qg hs hv h1 h2 h4)]
  exact get_put p _ x y (fun t ht => hp t (List.mem_cons_of_mem _ ht)) (nU hv hst.1 hst.2) h3
theorem old_new {v y : Val} {s : XStep} (h : br (fm v s y) s = some y) : gP (fm v s y) s = y := by
 unfold br at h
 split at h
 ·cases h
 ·rename_i h0
  unfold gP; rw [if_pos (by omega)]; injection h
theorem new_new {v y z : Val} {s : XStep} (hs : bt s = true) (h : Gd v) (hw : ¬ wrK v s) (hr : ¬ (s.kind_ = 2 /\ ((v.list.length : Nat) : Int) < s.index_)) (hm : ¬ (s.kind_ = 3 /\ mtB y s.name_ s.value_ = false)) : fm (fm v s y) s z = fm v s z := by
 rcases nC hs hw hr with ⟨k1, k5⟩ | ⟨k2, k4, j, hj, hc⟩ | ⟨k3, k4⟩
 ·unfold fm; rw [if_pos k1, if_pos k1, if_pos k1]; exact wG k5 h.here.1
 ·have n1 : ¬ s.kind_ = 1 := by omega
  have hch : ∀ l : List Val, j < l.length -> chI (eO l) s = (j : Nat) := fun l hl => by
   unfold chI; rw [if_neg (fun q => n1 q.1), if_pos ⟨k2, rfl, by show _ < ((List.length l : Nat) : Int); omega⟩]; exact hj
  unfold fm; rw [if_neg n1, if_neg n1, if_neg n1]
  rcases hc with ⟨h1, h2⟩ | ⟨h1, h2⟩
  ·rw [h2, Au (c := ((j : Nat) : Int)) (by omega), Au (c := ((j : Nat) : Int)) (by omega), hch _ (by rw [Int.toNat_natCast, List.length_set]; exact h1), Au (by omega), Int.toNat_natCast]
   show eO ((v.list.set j y).set j z) = _
   rw [List.set_set]
  ·rw [h2, ift (c := -1) (by omega), ift (c := -1) (by omega), hch _ (by rw [List.length_append, List.length_singleton]; omega), Au (by omega), Int.toNat_natCast]
   show eO ((v.list ++ [y]).set j z) = _
   rw [h1, List.set_append_right _ _ (Nat.le_refl _), Nat.sub_self]; rfl
 ·have n1 : ¬ s.kind_ = 1 := by omega
  have hy : mtB y s.name_ s.value_ = true := by
   cases hq : mtB y s.name_ s.value_ with
   | true => rfl
   | false => exact absurd ⟨k3, hq⟩ hm
  have hch : ∀ l, chI (eO l) s = cS (fun e : Val => mtB e s.name_ s.value_) l := fun l => by
   unfold chI; rw [if_neg (fun q => n1 q.1), if_neg (fun q => by omega), if_pos ⟨k3, rfl⟩]; rfl
  have hcv : chI v s = cS (fun e : Val => mtB e s.name_ s.value_) v.list := by
   unfold chI; rw [if_neg (fun q => n1 q.1), if_neg (fun q => by omega), if_pos ⟨k3, k4⟩]
  unfold fm; rw [if_neg n1, if_neg n1, if_neg n1]
  by_cases h0 : chI v s < 0
  ·rw [if_pos h0, if_pos h0]
   have hn := nP (hcv ▸ h0)
   have hc : chI (eO (v.list ++ [y])) s = (v.list.length : Nat) := by
    rw [hch]
    refine pK (d := default) (by rw [List.length_append, List.length_singleton]; omega) (by rw [fY]; exact hy) (fun i hi => ?_)
    rw [iB hi]; exact hn _ (aS hi)
   rw [hc, if_neg (by omega), Int.toNat_natCast]
   show eO ((v.list ++ [y]).set v.list.length z) = _
   rw [List.set_append_right _ _ (Nat.le_refl _), Nat.sub_self]; rfl
  ·rw [if_neg h0, if_neg h0]
   obtain ⟨j, e1, e2, e3, e4⟩ := nO (d := default) (show 0 <= cS (fun e : Val => mtB e s.name_ s.value_) v.list by rw [<- hcv]; omega)
   rw [hcv, e1, Int.toNat_natCast]
   have hc : chI (eO (v.list.set j y)) s = (j : Nat) := by
    rw [hch]
    refine pK (d := default) (by rw [List.length_set]; exact e2) (by rw [eP e2]; exact hy) (fun i hi => ?_)
    rw [gU (by omega)]; exact e4 i hi
   rw [hc, if_neg (by omega), Int.toNat_natCast]
   show eO ((v.list.set j y).set j z) = _
   rw [List.set_set]
theorem put_put : ∀ (p : List XStep) (v x w z a b : Val), (∀ s ∈ p, bt s = true) -> Gd v -> dX v p x = .ok w -> dX v p z = .ok a -> dX w p z = .ok b -> a = b
 | [], v, x, w, z, a, b, _, _, _, ha, hb => by
  rw [iM] at ha hb; injection ha with ha; injection hb with hb; rw [<- ha, <- hb]
 | s :: p, v, x, w, z, a, b, hp, hv, h, ha, hb => by
  have hs := hp s (List.mem_cons_self ..)
  have hst := iH hs
  obtain ⟨h1, h2, y, h3, h4, rfl⟩ := km h
  obtain ⟨_, _, ya, ha3, _, rfl⟩ := km ha
  obtain ⟨_, _, yb, hb3, _, rfl⟩ := km hb
  rw [old_new (qg hs hv h1 h2 h4)] at hb3
  rw [put_put p _ x y z ya yb (fun t ht => hp t (List.mem_cons_of_mem _ ht)) (nU hv hst.1 hst.2) h3 ha3 hb3, new_new hs hv h1 h2 h4]
def pre (p q : List XStep) : Prop := ∃ r, p = q ++ r
theorem uE {v y : Val} {s t : XStep} (hs : bt s = true) (ht : bt t = true) (ks : s.kind_ ≠ 3) (kt : t.kind_ ≠ 3) (hne : s ≠ t) (h : Gd v) (hw : ¬ wrK v s) (hr : ¬ (s.kind_ = 2 /\ ((v.list.length : Nat) : Int) < s.index_)) : br (fm v s y) t = br v t := by
 have hkt := (dy ht).1
 have eqs : s.kind_ = t.kind_ -> s.name_ = t.name_ -> s.index_ = t.index_ -> s.value_ = t.value_ -> s = t := by
  intro h1 h2 h3 h4; cases s; cases t; simp only at h1 h2 h3 h4; rw [h1, h2, h3, h4]
 rcases nC hs hw hr with ⟨k1, k5⟩ | ⟨k2, k4, j, hj, hc⟩ | ⟨k3, k4⟩
 ·unfold fm; rw [if_pos k1]
  by_cases t1 : t.kind_ = 1
  ·rw [oy t1, oy t1, if_pos (jk _ _ _), if_pos k5]
   refine uq k5 h.here.1 (fun e => hne (eqs (by omega) e.symm ?_ ?_))
   ·unfold bt at hs ht; rw [if_pos k1] at hs; rw [if_pos t1] at ht
    simp only [Bool.and_eq_true, decide_eq_true_eq] at hs ht; omega
   ·unfold bt at hs ht; rw [if_pos k1] at hs; rw [if_pos t1] at ht
    simp only [Bool.and_eq_true, decide_eq_true_eq] at hs ht
    rw [List.eq_nil_of_length_eq_zero hs.2, List.eq_nil_of_length_eq_zero ht.2]
  ·have t2 : t.kind_ = 2 := by omega
   have hi : 0 <= t.index_ := by
    unfold bt at ht; rw [if_neg t1, if_pos t2] at ht
    simp only [Bool.and_eq_true, decide_eq_true_eq] at ht; omega
   rw [qh t2 hi, qh t2 hi, if_neg (fun q => by rw [jk] at q; omega), if_neg (fun q => by omega)]
 ·have n1 : ¬ s.kind_ = 1 := by omega
  unfold fm; rw [if_neg n1]
  by_cases t1 : t.kind_ = 1
  ·rw [oy t1, oy t1, if_neg (fun q => by exact absurd (show (4 : Int) = 5 from q) (by decide)), if_neg (by omega)]
  ·have t2 : t.kind_ = 2 := by omega
   have fs : s.name_ = [] /\ s.value_ = [] := by
    unfold bt at hs; rw [if_neg n1, if_pos k2] at hs
    simp only [Bool.and_eq_true, decide_eq_true_eq] at hs
    exact ⟨List.eq_nil_of_length_eq_zero (by omega), List.eq_nil_of_length_eq_zero (by omega)⟩
   have ft : 0 <= t.index_ /\ t.name_ = [] /\ t.value_ = [] := by
    unfold bt at ht; rw [if_neg t1, if_pos t2] at ht
    simp only [Bool.and_eq_true, decide_eq_true_eq] at ht
    exact ⟨by omega, List.eq_nil_of_length_eq_zero (by omega), List.eq_nil_of_length_eq_zero (by omega)⟩
   have hij : t.index_.toNat ≠ j := fun e => hne (eqs (by omega) (by rw [fs.1, ft.2.1]) (by omega) (by rw [fs.2, ft.2.2]))
   rw [qh t2 ft.1, qh t2 ft.1]
   rcases hc with ⟨h1, h2⟩ | ⟨h1, h2⟩
   ·rw [h2, Au (by omega), Int.toNat_natCast]
    have hl : (eO (v.list.set j y)).list.length = v.list.length := by show (v.list.set j y).length = _; rw [List.length_set]
    rw [hl]
    by_cases hb : t.index_ < (v.list.length : Nat)
    ·rw [if_pos ⟨rfl, hb⟩, if_pos ⟨k4, hb⟩]
     show some ((v.list.set j y).getD _ default) = _
     rw [gU hij]
    ·rw [if_neg (fun q => hb q.2), if_neg (fun q => hb q.2)]
   ·rw [h2, ift (by omega)]
    have hl : (eO (v.list ++ [y])).list.length = v.list.length + 1 := by show (v.list ++ [y]).length = _; rw [List.length_append, List.length_singleton]
    rw [hl]
    by_cases hb : t.index_ < (v.list.length : Nat)
    ·rw [if_pos ⟨rfl, by omega⟩, if_pos ⟨k4, hb⟩]
     show some ((v.list ++ [y]).getD _ default) = _
     rw [iB (by omega)]
    ·rw [if_neg (fun q => by have := q.2; omega), if_neg (fun q => hb q.2)]
 ·exact absurd k3 ks
theorem Av {q : List XStep} {x : XStep} : dS (ci []) (x :: q) = none := by
 refine cj ?_
 have hb := gy (v := ci []) (x := x)
 unfold br
 by_cases h0 : chI (ci []) x < 0
 ·rw [if_pos h0]
 ·have hb := hb (by omega)
  by_cases k : x.kind_ = 1
  ·have : chI (ci []) x < ((0 : Nat) : Int) := hb.1 k; omega
  ·have : chI (ci []) x < ((0 : Nat) : Int) := hb.2 k; omega
theorem xj : ∀ (p q : List XStep) (v x w : Val), (∀ s ∈ p, bt s = true /\ s.kind_ ≠ 3) -> (∀ s ∈ q, bt s = true /\ s.kind_ ≠ 3) -> ¬ pre p q -> ¬ pre q p -> Gd v -> dX v p x = .ok w -> dS w q = dS v q
 | [], q, v, x, w, _, _, _, h2, _, _ => absurd ⟨q, rfl⟩ h2
 | s :: p, [], v, x, w, _, _, h1, _, _, _ => absurd ⟨s :: p, rfl⟩ h1
 | s :: p, t :: q, v, x, w, hp, hq, h1, h2, hv, h => by
  have hs := hp s (List.mem_cons_self ..)
  have ht := hq t (List.mem_cons_self ..)
  have hst := iH hs.1
  obtain ⟨g1, g2, y, g3, g4, rfl⟩ := km h
  by_cases e : s = t
  ·subst e
   have n1 : ¬ pre p q := fun ⟨r, hr⟩ => h1 ⟨r, by rw [hr]; rfl⟩
   have n2 : ¬ pre q p := fun ⟨r, hr⟩ => h2 ⟨r, by rw [hr]; rfl⟩
   have ih := xj p q _ x y (fun a ha => hp a (List.mem_cons_of_mem _ ha)) (fun a ha => hq a (List.mem_cons_of_mem _ ha)) n1 n2 (nU hv hst.1 hst.2) g3
   rw [bJ (qg hs.1 hv g1 g2 g4), ih]
   unfold gP
   by_cases h0 : 0 <= chI v s
   ·rw [if_pos h0]
    refine (bJ ?_).symm
    unfold br; rw [if_neg (by omega)]
   ·rw [if_neg h0]
    rw [cj (show br v s = none by unfold br; rw [if_pos (by omega)])]
    unfold gn; rw [if_neg hs.2]
    cases q with
    | nil => exact absurd ⟨p, rfl⟩ n1
    | cons a q => exact Av
  ·have hb := uE (y := y) hs.1 ht.1 hs.2 ht.2 e hv g1 g2
   cases hc : br v t with
   | none => rw [cj hc, cj (hb.trans hc)]
   | some u => rw [bJ hc, bJ (hb.trans hc)]
structure XEdit where
 v_ : Val
 p_ : List XStep
 q_ : List XStep
 x_ : Val
 y_ : Val
section
variable (a : XEdit)
variable {h : Tr AB} {e : Nat} {g : Bool}
end
def lL (p : List XStep) : Bool := p.all (fun s => !decide (s.kind_ = 3))
theorem uY {p : List XStep} (h : lL p = true) : ∀ s ∈ p, s.kind_ ≠ 3 := fun s hs => by
 have := List.all_eq_true.1 h s hs
 simpa using this
theorem c31 (p : List XStep) (hp : p.length <= 140737488351232) : R T0 31 [.lst (p.map am)] (.b (lL p)) := by
 refine r31 _ rfl rfl ?_
 unfold w31
 dsimp only [av]
 rw [dK, aa, List.length_map]
 refine fL (X := Nat) (fun _ => .lst (p.map am)) (fun _ => .i .i64 (p.length : Nat)) (fun j => .i .i64 (j : Nat)) (fun j σ => j <= p.length /\ (p.take j).all (fun s => !decide (s.kind_ = 3)) = true) (fun j => p.length - j) ?_ 0 _ ⟨Nat.zero_le _, rfl⟩
 rintro R j ⟨h, n⟩ ⟨hj, ha⟩ hR
 rw [dl, aa]
 by_cases hj' : j < p.length
 ·have ia := vE (enc := am) (l := p) (k := .i64) (n := (j : Int)) (by omega) (by omega) bw
  rw [Int.toNat_natCast] at ia
  have stx : az T0 (h.put n (some (.cells [.i .i64 0, .s [], .i .i64 0, .s []] 50 false))) 50 (.ptr n 0) (am (p.getD j default)) = some ((h.put n (some (.cells [.i .i64 0, .s [], .i .i64 0, .s []] 50 false))).put n (some (.cells (am (p.getD j default)).cells 50 false))) :=
   em (by kernel_rfl) (ah _ _ _) rfl rfl (cf _ _ rfl)
  rw [decide_eq_true (by omega), aD, ia, aa, fS, dz, aa, bu, stx, aH, cG, aa, Nat.zero_add, sk0 (ah _ _ _), aa, bZ, aa]
  by_cases k3 : (p.getD j default).kind_ = 3
  ·rw [decide_eq_true k3, aD, jW]
   unfold lL
   rw [eB (p := fun s : XStep => !decide (s.kind_ = 3)) (d := default) hj' (by rw [decide_eq_true k3]; rfl)]
  ·rw [decide_eq_false k3, aA, aC, cL (by omega) (by omega), aa]
   exact hR (j + 1) _ ⟨by omega, aR (d := default) ha hj' (by rw [decide_eq_false k3]; rfl)⟩ (by omega)
 ·rw [decide_eq_false (by omega), aA, jW]
  unfold lL; rw [cF ha (by omega)]
theorem e31 {p : List XStep} (hp : p.length <= 140737488351232) {d : Nat} {σ : AS} {K : AV -> AS -> Prop} : oC T0 d 31 [.lst (p.map am)] σ K = K (.b (lL p)) σ := (c31 p hp).eq d σ K
end Go.Proofs.YtmfhmlhaofpeiaaGreatDoor.Ev
