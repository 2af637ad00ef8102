/- Texts of this session's, one behind the other. -/
import Derived.Test.YtmfhmlhaofpeiaaGreatDoorEvLi
import Derived.Test.YtmfhmlhaofpeiaaGreatDoorEv1
import Derived.Test.YtmfhmlhaofpeiaaGreatDoorEv2
import Derived.Test.YtmfhmlhaofpeiaaGreatDoorEv3
import Derived.Test.YtmfhmlhaofpeiaaGreatDoorEv4
import Derived.Test.YtmfhmlhaofpeiaaGreatDoorSh
import Derived.Test.YtmfhmlhaofpeiaaGreatDoorEvX
import Derived.Test.YtmfhmlhaofpeiaaGreatDoorEvT
import Derived.Test.YtmfhmlhaofpeiaaGreatDoorEvTy
import Derived.Test.YtmfhmlhaofpeiaaGreatDoorEvF
import Derived.Test.YtmfhmlhaofpeiaaGreatDoorV0
import Derived.Test.YtmfhmlhaofpeiaaGreatDoorOp
import Derived.Test.YtmfhmlhaofpeiaaGreatDoorV6
import Derived.Test.YtmfhmlhaofpeiaaGreatDoorEvG
import Derived.Test.YtmfhmlhaofpeiaaGreatDoorEvLg
import Derived.Test.YtmfhmlhaofpeiaaGreatDoorEvLh
import Derived.Test.YtmfhmlhaofpeiaaGreatDoorEvFe
import Derived.Test.YtmfhmlhaofpeiaaGreatDoorEvFf
import Derived.Test.YtmfhmlhaofpeiaaGreatDoorEvFd
import Derived.Test.YtmfhmlhaofpeiaaGreatDoorEvFb
import Derived.Test.YtmfhmlhaofpeiaaGreatDoorEvFc
import Derived.Test.YtmfhmlhaofpeiaaGreatDoorW2
namespace Go.Proofs.YtmfhmlhaofpeiaaGreatDoor.Ev
open Go Go.RowKit
set_option linter.unusedSimpArgs false
set_option linter.unusedVariables false
set_option maxRecDepth 100000
theorem x147 (a0 a1 a2 a3 a4 : AV) {σ : AS} {Q : AV -> AS -> Prop} (h : w147 (av T0) a0 a1 a2 a3 a4 σ Q) : ∃ r σ', Runs T0 147 [a0, a1, a2, a3, a4] σ r σ' /\ Q r σ' :=
 Runs.ex (by kernel_rfl) (by kernel_rfl) (show T0.fn 147 = some Tryz.f147 by kernel_rfl) (by kernel_rfl) (by kernel_rfl) (by kernel_rfl) (by rw [w147_eq] at h; exact h)
theorem x144 (a0 a1 a2 a3 a4 : AV) {σ : AS} {Q : AV -> AS -> Prop} (h : w144 (av T0) a0 a1 a2 a3 a4 σ Q) : ∃ r σ', Runs T0 144 [a0, a1, a2, a3, a4] σ r σ' /\ Q r σ' :=
 Runs.ex (by kernel_rfl) (by kernel_rfl) (show T0.fn 144 = some Tryz.f144 by kernel_rfl) (by kernel_rfl) (by kernel_rfl) (by kernel_rfl) (by rw [w144_eq] at h; exact h)
section
variable {U V W : List Fld} {x y z : Fld}
theorem wB : U ++ x :: (V ++ y :: W) = (U ++ x :: V) ++ y :: W := by simp
theorem yG : (U ++ x :: V).length = U.length + 1 + V.length := by simp; omega
theorem getD_far : (U ++ x :: (V ++ y :: W)).getD (U.length + 1 + V.length) default = y := by rw [wB, <- yG (x := x)]; exact fZ
theorem set_far : (U ++ x :: (V ++ y :: W)).set (U.length + 1 + V.length) z = U ++ x :: (V ++ z :: W) := by rw [wB, <- yG (x := x), kp, wB]
end
theorem c147 {h : Tr AB} {n id N : Nat} (P A M B S : List Fld) (hAB : A.length = B.length) (hN : N = (P ++ A ++ M ++ B ++ S).length) (hN2 : N <= 1000000) (hg : cD h id (P ++ A ++ M ++ B ++ S)) :
  ∃ r σ', Runs T0 147 [.sl id 0 N none, .i .i64 (P.length : Nat), .i .i64 ((P.length + A.length + M.length : Nat) : Int), .i .i64 (A.length : Nat), .fn 105 [] []] ⟨h, n⟩ r σ' /\ tI h n id r σ' (fun l' => l' = P ++ B ++ M ++ A ++ S) := by
 refine x147 _ _ _ _ _ ?_
 unfold w147
 dsimp only [av]
 simp only [List.length_append] at hN
 refine gW (X := List Fld × List Fld × List Fld × List Fld) (fun _ => .i .i64 (P.length : Nat)) (fun _ => .sl id 0 N none) (fun _ => .i .i64 ((P.length + A.length + M.length : Nat) : Int)) (fun _ => .i .i64 (A.length : Nat)) (fun x => .i .i64 (x.1.length : Nat))
  (fun x σ => σ.n = n /\ (∀ j, j ≠ id -> σ.h.get j = h.get j) /\ A = x.1 ++ x.2.1 /\ B = x.2.2.1 ++ x.2.2.2 /\ x.1.length = x.2.2.1.length /\ cD σ.h id (P ++ (x.2.2.1 ++ x.2.1) ++ M ++ (x.1 ++ x.2.2.2) ++ S)) (fun x => x.2.1.length) ?_ ([], A, [], B) _
  ⟨rfl, fun j _ => rfl, rfl, rfl, rfl, hg⟩
 rintro R ⟨A1, A2, B1, B2⟩ σ ⟨hn, hfr, hA, hB, hl, hr⟩ hR
 dsimp only at hA hB hl hr hR |-
 have lA := congrArg List.length hA
 have lB := congrArg List.length hB
 rw [List.length_append] at lA lB
 cases A2 with
 | nil =>
  rw [List.length_nil] at lA
  have hB2 : B2 = [] := List.eq_nil_of_length_eq_zero (by omega)
  subst hB2
  rw [List.append_nil] at hA hB
  rw [List.append_nil, List.append_nil] at hr
  rw [cw, aa, decide_eq_false (by omega), aA]
  exact ⟨rfl, hn, hfr, _, rfl, by rw [hA, hB]; exact hr⟩
 | cons x A2 =>
  cases B2 with
  | nil => rw [List.length_cons, List.length_nil] at *; omega
  | cons y B2 =>
   rw [List.length_cons] at lA lB
   obtain ⟨U, hU⟩ : ∃ U, U = P ++ B1 := ⟨_, rfl⟩
   obtain ⟨V, hV⟩ : ∃ V, V = A2 ++ M ++ A1 := ⟨_, rfl⟩
   obtain ⟨W, hW⟩ : ∃ W, W = B2 ++ S := ⟨_, rfl⟩
   have hr' : cD σ.h id (U ++ x :: (V ++ y :: W)) := by rw [hU, hV, hW]; simpa using hr
   have hUl : U.length = P.length + B1.length := by rw [hU, List.length_append]
   have hVl : V.length = A2.length + M.length + A1.length := by rw [hV, List.length_append, List.length_append]
   have hWl : W.length = B2.length + S.length := by rw [hW, List.length_append]
   have hl0 : (U ++ x :: (V ++ y :: W)).length = N := by simp only [List.length_append, List.length_cons]; omega
   have i1 : ((P.length : Nat) : Int) + (A1.length : Nat) = ((U.length : Nat) : Int) := by omega
   have i2 : ((P.length + A.length + M.length : Nat) : Int) + (A1.length : Nat) = ((U.length + 1 + V.length : Nat) : Int) := by omega
   have d1 : ac T0 σ.h 52 (.ptr id (U.length * (5 + 1))) = some (az x) := by rw [rl hr' (by omega), fZ]
   have d2 : ac T0 σ.h 52 (.ptr id ((U.length + 1 + V.length) * (5 + 1))) = some (az y) := by rw [rl hr' (by omega), getD_far]
   have s1 : aY T0 σ.h 52 (.ptr id (U.length * (5 + 1))) (az y) = some (id, .cells (ay az (U ++ y :: (V ++ y :: W))) 52 true) := by rw [rs hr' (by omega), kp]
   have hr2 : cD (σ.h.put id (some (.cells (ay az (U ++ y :: (V ++ y :: W))) 52 true))) id (U ++ y :: (V ++ y :: W)) := af _ _ _
   have s2 : aY T0 (σ.h.put id (some (.cells (ay az (U ++ y :: (V ++ y :: W))) 52 true))) 52 (.ptr id ((U.length + 1 + V.length) * (5 + 1))) (az x) = some (id, .cells (ay az (U ++ y :: (V ++ x :: W))) 52 true) := by
    rw [rs hr2 (by simp only [List.length_append, List.length_cons]; omega), set_far]
   simp (disch := first | omega | assumption | (intros; simp only [dl2]; try omega)) only [cy, aC, cx, cU, cX, aG, i1, i2, jz, d1, d2, s1, bt]
   rw [dp rfl rfl]
   try simp (disch := first | omega | assumption | (intros; simp only [dl2]; try omega)) only [aa, jz]
   rw [jR rfl, s2, bt, dp rfl rfl, dl]
   have e1 : ((A1.length : Nat) : Int) + 1 = ((A1.length + 1 : Nat) : Int) := by omega
   try simp (disch := first | omega | assumption | (intros; simp only [dl2]; try omega)) only [aa, aC, cx, e1]
   have := hR (A1 ++ [x], A2, B1 ++ [y], B2) ⟨(σ.h.put id (some (.cells (ay az (U ++ y :: (V ++ y :: W))) 52 true))).put id (some (.cells (ay az (U ++ y :: (V ++ x :: W))) 52 true)), σ.n⟩
    ⟨hn, fun j hj => by dsimp only; rw [ae _ _ hj, ae _ _ hj]; exact hfr j hj, by rw [hA]; simp, by rw [hB]; simp, by simp; omega, by
     have : P ++ (B1 ++ [y] ++ A2) ++ M ++ (A1 ++ [x] ++ B2) ++ S = U ++ y :: (V ++ x :: W) := by rw [hU, hV, hW]; simp
     dsimp only; rw [this]; exact af _ _ _⟩ (by dsimp only; rw [List.length_cons]; omega)
   dsimp only at this
   rw [List.length_append, List.length_singleton] at this
   exact this
theorem mT {l : List Fld} (h : l ≠ []) : 0 < l.length := by
 cases l with
 | nil => exact absurd rfl h
 | cons a l => simp
theorem c144 {h : Tr AB} {n id N : Nat} (P A B S : List Fld) (hA : A ≠ []) (hB : B ≠ []) (hN : N = (P ++ A ++ B ++ S).length) (hN2 : N <= 1000000) (hg : cD h id (P ++ A ++ B ++ S)) :
  ∃ r σ', Runs T0 144 [.sl id 0 N none, .i .i64 (P.length : Nat), .i .i64 ((P.length + A.length : Nat) : Int), .i .i64 ((P.length + A.length + B.length : Nat) : Int), .fn 105 [] []] ⟨h, n⟩ r σ' /\ tI h n id r σ' (fun l' => l' = P ++ B ++ A ++ S) := by
 refine x144 _ _ _ _ _ ?_
 unfold w144
 dsimp only [av]
 have hN' := hN
 simp only [List.length_append] at hN
 have i1 : ((P.length + A.length : Nat) : Int) - (P.length : Nat) = ((A.length : Nat) : Int) := by omega
 have i2 : ((P.length + A.length + B.length : Nat) : Int) - ((P.length + A.length : Nat) : Int) = ((B.length : Nat) : Int) := by omega
 simp (disch := first | omega | assumption | (intros; simp only [dl2]; try omega)) only [aa, bE, cx, i1, i2]
 refine gW (X := List Fld × List Fld × List Fld × List Fld) (fun _ => .fn 105 [] []) (fun x => .i .i64 (x.2.1.length : Nat)) (fun _ => .i .i64 ((P.length + A.length : Nat) : Int)) (fun _ => .sl id 0 N none) (fun x => .i .i64 (x.2.2.1.length : Nat))
  (fun x σ => σ.n = n /\ (∀ j, j ≠ id -> σ.h.get j = h.get j) /\ x.2.1 ≠ [] /\ x.2.2.1 ≠ [] /\ x.1.length + x.2.1.length = P.length + A.length /\ x.1 ++ x.2.2.1 ++ x.2.1 ++ x.2.2.2 = P ++ B ++ A ++ S /\ cD σ.h id (x.1 ++ x.2.1 ++ x.2.2.1 ++ x.2.2.2)) (fun x => x.2.1.length + x.2.2.1.length) ?_ (P, A, B, S) _
  ⟨rfl, fun j _ => rfl, hA, hB, rfl, rfl, hg⟩
 rintro R ⟨P1, X, Y, S1⟩ ⟨h1, n1⟩ ⟨hn, hfr, hX, hY, hl, hgoal, hr⟩ hR
 dsimp only at hn hfr hX hY hl hgoal hr hR |-
 subst hn
 have hx := mT hX
 have hy := mT hY
 have hlen := congrArg List.length hgoal
 simp only [List.length_append] at hlen
 have j1 : ((P.length + A.length : Nat) : Int) - (X.length : Nat) = ((P1.length : Nat) : Int) := by omega
 rcases Nat.lt_trichotomy X.length Y.length with q | q | q
 ·
  obtain ⟨Y1, Y2, rfl, hY2⟩ : ∃ Y1 Y2, Y = Y1 ++ Y2 /\ Y2.length = X.length := ⟨Y.take (Y.length - X.length), Y.drop (Y.length - X.length), (List.take_append_drop _ _).symm, by rw [List.length_drop]; omega⟩
  rw [List.length_append] at q hy hlen hR |-
  obtain ⟨r, σ', hrun, hr1, hr2, hr3, l', rfl, hr4⟩ := c147 (h := h1) (n := n1) (id := id) (N := N) P1 X Y1 Y2 S1 hY2.symm (by simp only [List.length_append]; omega) hN2 (by simpa using hr)
  subst hr1
  have j2 : ((P.length + A.length : Nat) : Int) + ((Y1.length + Y2.length : Nat) : Int) - (X.length : Nat) = ((P1.length + X.length + Y1.length : Nat) : Int) := by omega
  have j3 : ((Y1.length + Y2.length : Nat) : Int) - (X.length : Nat) = ((Y1.length : Nat) : Int) := by omega
  have w1 : IntKind.wrap .i64 (((P.length + A.length : Nat) : Int) + ((Y1.length + Y2.length : Nat) : Int)) = ((P.length + A.length : Nat) : Int) + ((Y1.length + Y2.length : Nat) : Int) := cx (by omega) (by omega)
  have ne : decide (((X.length : Nat) : Int) ≠ ((Y1.length + Y2.length : Nat) : Int)) = true := decide_eq_true (by omega)
  simp (disch := first | omega | assumption | (intros; simp only [dl2]; try omega)) only [aa, cG, ne, ck, bE, aC, w1, cx, cX, aG, aA, j1, j2, j3, hrun.eq]
  have := hR (P1, Y2, Y1, X ++ S1) σ' ⟨hr2, fun j hj => (hr3 j hj).trans (hfr j hj), fun (e : Y2 = []) => by rw [e, List.length_nil] at hY2; omega, fun (e : Y1 = []) => by rw [e, List.length_nil] at q; omega, by dsimp only; omega, by dsimp only; rw [<- hgoal]; simp, by simpa using hr4⟩ (by dsimp only; omega)
  dsimp only at this
  rw [hY2] at this
  exact this
 ·
  obtain ⟨r, σ', hrun, hr1, hr2, hr3, l', rfl, hr4⟩ := c147 (h := h1) (n := n1) (id := id) (N := N) P1 X [] Y S1 q (by simp only [List.length_append, List.length_nil]; omega) hN2 (by simpa using hr)
  subst hr1
  rw [List.length_nil, Nat.add_zero, hl] at hrun
  have ne : decide (((X.length : Nat) : Int) ≠ (Y.length : Nat)) = false := decide_eq_false (fun h => h (by omega))
  simp (disch := first | omega | assumption | (intros; simp only [dl2]; try omega)) only [aa, cG, ne, bE, cx, aA, j1, hrun.eq]
  exact ⟨rfl, hr2, fun j hj => (hr3 j hj).trans (hfr j hj), _, rfl, by rw [<- hgoal]; simpa using hr4⟩
 ·
  obtain ⟨X1, X2, rfl, hX1⟩ : ∃ X1 X2, X = X1 ++ X2 /\ X1.length = Y.length := ⟨X.take Y.length, X.drop Y.length, (List.take_append_drop _ _).symm, by rw [List.length_take]; omega⟩
  rw [List.length_append] at q hx hlen hR hl j1 |-
  obtain ⟨r, σ', hrun, hr1, hr2, hr3, l', rfl, hr4⟩ := c147 (h := h1) (n := n1) (id := id) (N := N) P1 X1 X2 Y S1 hX1 (by simp only [List.length_append]; omega) hN2 (by simpa using hr)
  subst hr1
  rw [show P1.length + X1.length + X2.length = P.length + A.length by omega, hX1] at hrun
  have j3 : ((X1.length + X2.length : Nat) : Int) - (Y.length : Nat) = ((X2.length : Nat) : Int) := by omega
  have ne : decide (((X1.length + X2.length : Nat) : Int) ≠ (Y.length : Nat)) = true := decide_eq_true (by omega)
  simp (disch := first | omega | assumption | (intros; simp only [dl2]; try omega)) only [aa, cG, ne, ck, bE, cx, cU, aG, j1, j3, hrun.eq]
  have := hR (P1 ++ Y, X2, X1, S1) σ' ⟨hr2, fun j hj => (hr3 j hj).trans (hfr j hj), fun (e : X2 = []) => by rw [e, List.length_nil] at q; omega, fun (e : X1 = []) => by rw [e, List.length_nil] at hX1; omega, by dsimp only; rw [List.length_append]; omega, by dsimp only; rw [<- hgoal]; simp, by simpa using hr4⟩ (by dsimp only; omega)
  dsimp only at this
  rw [hX1] at this
  exact this
theorem x137 (a0 a1 a2 a3 a4 : AV) {σ : AS} {Q : AV -> AS -> Prop} (h : w137 (av T0) a0 a1 a2 a3 a4 σ Q) : ∃ r σ', Runs T0 137 [a0, a1, a2, a3, a4] σ r σ' /\ Q r σ' :=
 Runs.ex (by kernel_rfl) (by kernel_rfl) (show T0.fn 137 = some Tryz.f137 by kernel_rfl) (by kernel_rfl) (by kernel_rfl) (by kernel_rfl) (by rw [w137_eq] at h; exact h)
theorem cvA {h : Tr AB} (n : Int) : cR T0 h 3 137 (.i .i64 n) = some (.i .u64 (IntKind.wrap .u64 n)) := by kernel_rfl
theorem cvB {h : Tr AB} (n : Int) : cR T0 h 137 3 (.i .u64 n) = some (.i .i64 (IntKind.wrap .i64 n)) := by kernel_rfl
theorem wru {x : Nat} (hx : x <= 9000000) : IntKind.wrap .u64 (x : Nat) = (x : Nat) := by
 unfold IntKind.wrap; simp [IntKind.bits, IntKind.signed]; omega
theorem wd (x : Nat) : ah T0 .shr 137 true (.i .u64 (x : Nat)) (.i .u64 1) = some (.i .u64 ((x / 2 : Nat) : Int)) := by
 have : ah T0 .shr 137 true (.i .u64 (x : Nat)) (.i .u64 1) = some (.i .u64 (((x : Nat) : Int).fdiv 2)) := by kernel_rfl
 have e : ((x : Nat) : Int).fdiv 2 = ((x / 2 : Nat) : Int) := by rw [Int.fdiv_eq_ediv_of_nonneg _ (by omega)]; omega
 rw [this, e]
theorem mV {L R : List Fld} {i : Nat} (hi : i < L.length) (h : ∀ y R', R = y :: R' -> ltF y (L.getD i default) = false) : jE ltF (L.take (i + 1)) R := by
 intro L' x y R' h1 h2
 rw [dB hi] at h1
 have := (List.append_inj' h1 rfl).2
 injection this with this
 rw [<- this]; exact h y R' h2
theorem mW {L R : List Fld} {i : Nat} (hi : i < R.length) (h : ∀ L' x, L = L' ++ [x] -> ltF (R.getD i default) x = false) : jE ltF L (R.drop i) := by
 intro L' x y R' h1 h2
 rw [fJ hi] at h2
 injection h2 with h2 h3
 rw [<- h2]; exact h L' x h1
theorem pk {R : List Fld} : jE ltF [] R := fun L' u w R' q _ => by simp at q
theorem pj {L : List Fld} : jE ltF L [] := fun L' u w R' _ q => by cases q
theorem po {U V W : List Fld} {i : Nat} (hi : i < V.length) : (U ++ V ++ W).getD (U.length + i) default = V.getD i default := by
 simp only [List.getD_eq_getElem?_getD, List.append_assoc]
 rw [List.getElem?_append_right (by omega), Nat.add_sub_cancel_left, List.getElem?_append_left hi]
theorem c137_a {h : Tr AB} {n id N : Nat} (P B S : List Fld) (x : Fld) (hB : Srt ltF B) (hN : N = (P ++ [x] ++ B ++ S).length) (hN2 : N <= 1000000) (hg : cD h id (P ++ [x] ++ B ++ S)) :
  ∃ r σ', Runs T0 137 [.sl id 0 N none, .i .i64 (P.length : Nat), .i .i64 ((P.length + 1 : Nat) : Int), .i .i64 ((P.length + 1 + B.length : Nat) : Int), .fn 105 [] []] ⟨h, n⟩ r σ' /\ tI h n id r σ' (fun l' => ∃ C, l' = P ++ C ++ S /\ C.Perm ([x] ++ B) /\ Srt ltF C) := by
 refine x137 _ _ _ _ _ ?_
 unfold w137
 dsimp only [av]
 simp only [List.length_append, List.length_singleton] at hN
 have i1 : ((P.length + 1 : Nat) : Int) - (P.length : Nat) = 1 := by omega
 rw [bE, aa, cx (by omega) (by omega), i1, bG, aa, decide_eq_true rfl, aG]
 refine gW (X := Nat × Nat) (fun _ => .sl id 0 N none) (fun y => .i .i64 ((P.length + 1 + y.1 : Nat) : Int)) (fun _ => .i .i64 (P.length : Nat)) (fun _ => .fn 105 [] []) (fun y => .i .i64 ((P.length + 1 + y.2 : Nat) : Int))
  (fun y σ => σ = ⟨h, n⟩ /\ y.1 <= y.2 /\ y.2 <= B.length /\ jE ltF (B.take y.1) [x] /\ jE ltF [x] (B.drop y.2)) (fun y => y.2 - y.1) ?_ (0, B.length) _
  ⟨rfl, Nat.zero_le _, Nat.le_refl _, pk, by dsimp only; rw [List.drop_length]; exact pj⟩
 rintro R ⟨lo, hi⟩ σ ⟨rfl, h1, h2, m1, m2⟩ hR
 dsimp only at h1 h2 m1 m2 hR |-
 have hx : (P ++ [x] ++ B ++ S).getD P.length default = x := by rw [List.append_assoc P, List.append_assoc P]; exact fZ
 have ldx : ac T0 h 52 (.ptr id (P.length * (5 + 1))) = some (az x) := by rw [rl hg (by simp), hx]
 by_cases q : lo < hi
 ·obtain ⟨mi, hmi⟩ : ∃ mi, mi = (lo + hi) / 2 := ⟨_, rfl⟩
  have b1 : lo <= mi /\ mi < hi := by omega
  have i2 : ((P.length + 1 + lo : Nat) : Int) + ((P.length + 1 + hi : Nat) : Int) = ((2 * P.length + 2 + lo + hi : Nat) : Int) := by omega
  have i3 : (2 * P.length + 2 + lo + hi) / 2 = P.length + 1 + mi := by omega
  have ldm : ac T0 h 52 (.ptr id ((P.length + 1 + mi) * (5 + 1))) = some (az (B.getD mi default)) := by
   rw [rl hg (by simp; omega)]
   have := po (U := P ++ [x]) (V := B) (W := S) (i := mi) (by omega)
   rw [List.length_append, List.length_singleton] at this
   rw [this]
  have i4 : ((P.length + 1 + mi : Nat) : Int) + 1 = ((P.length + 1 + (mi + 1) : Nat) : Int) := by omega
  cases hc : ltF (B.getD mi default) x
  ·simp (disch := first | omega | assumption | (intros; simp only [dl2]; try omega)) only [cy, sL, i2, cvA, wru, wd, i3, cvB, ldm, ldx, hc]
   exact hR (lo, mi) _ ⟨rfl, b1.1, by dsimp only; omega, m1, mW (by omega) (fun L' u e => by
    have := (List.append_inj' (show [] ++ [x] = L' ++ [u] from e) rfl).2
    injection this with this
    rw [<- this]; exact hc)⟩ (by dsimp only; omega)
  ·simp (disch := first | omega | assumption | (intros; simp only [dl2]; try omega)) only [cy, sL, i2, cvA, wru, wd, i3, cvB, ldm, ldx, hc, i4]
   exact hR (mi + 1, hi) _ ⟨rfl, by dsimp only; omega, h2, mV (by omega) (fun y R' e => by injection e with e1 e2; rw [<- e1]; exact ordF.asym _ _ hc), m2⟩ (by dsimp only; omega)
 ·obtain rfl : lo = hi := by omega
  rw [cw, aa, decide_eq_false (by omega), aA]
  clear hR
  refine fV (X := Nat) (fun _ => .sl id 0 N none) (fun _ => .i .i64 ((P.length + 1 + lo : Nat) : Int)) (fun c => .i .i64 ((P.length + c : Nat) : Int))
   (fun c σ => σ.n = n /\ (∀ j, j ≠ id -> σ.h.get j = h.get j) /\ c <= lo /\ cD σ.h id (P ++ B.take c ++ x :: (B.drop c ++ S))) (fun c => lo - c) ?_ 0 _
   ⟨rfl, fun j _ => rfl, Nat.zero_le _, by rw [List.take_zero, List.drop_zero]; simpa using hg⟩
  rintro R c ⟨h1', n1⟩ ⟨hn, hfr, hc, hr⟩ hR
  dsimp only at hn hfr hr hR |-
  subst hn
  have i5 : ((P.length + 1 + lo : Nat) : Int) - 1 = ((P.length + lo : Nat) : Int) := by omega
  by_cases q2 : c < lo
  ·have hcB : c < B.length := by omega
   obtain ⟨y, hy⟩ : ∃ y, y = B.getD c default := ⟨_, rfl⟩
   obtain ⟨U, hU⟩ : ∃ U, U = P ++ B.take c := ⟨_, rfl⟩
   obtain ⟨W, hW⟩ : ∃ W, W = B.drop (c + 1) ++ S := ⟨_, rfl⟩
   have hUl : U.length = P.length + c := by rw [hU, List.length_append, List.length_take]; omega
   have hWl : W.length = B.length - (c + 1) + S.length := by rw [hW, List.length_append, List.length_drop]
   have hr' : cD h1' id (U ++ x :: y :: W) := by rw [hU, hy, hW]; rw [fJ hcB] at hr; simpa using hr
   have ll : (U ++ x :: y :: W).length = N := by simp only [List.length_append, List.length_cons]; omega
   have d0 : ac T0 h1' 52 (.ptr id (U.length * (5 + 1))) = some (az x) := by rw [rl hr' (by omega), fZ]
   have d1 : ac T0 h1' 52 (.ptr id ((U.length + 1) * (5 + 1))) = some (az y) := by rw [rl hr' (by omega), nl]
   have s1 : aY T0 h1' 52 (.ptr id (U.length * (5 + 1))) (az y) = some (id, .cells (ay az (U ++ y :: y :: W)) 52 true) := by rw [rs hr' (by omega), kp]
   have hr2 : cD (h1'.put id (some (.cells (ay az (U ++ y :: y :: W)) 52 true))) id (U ++ y :: y :: W) := af _ _ _
   have s2 : aY T0 (h1'.put id (some (.cells (ay az (U ++ y :: y :: W)) 52 true))) 52 (.ptr id ((U.length + 1) * (5 + 1))) (az x) = some (id, .cells (ay az (U ++ y :: x :: W)) 52 true) := by rw [rs hr2 (by simp), pS]
   have i6 : ((U.length : Nat) : Int) + 1 = ((U.length + 1 : Nat) : Int) := by omega
   have i7 : decide (((U.length : Nat) : Int) < ((P.length + lo : Nat) : Int)) = true := decide_eq_true (by omega)
   rw [<- hUl]
   simp (disch := first | omega | assumption | (intros; simp only [dl2]; try omega)) only [cy, bE, cx, i5, i7, aG, aC, i6, jz, d0, d1, s1, bt]
   rw [dp rfl rfl]
   try simp (disch := first | omega | assumption | (intros; simp only [dl2]; try omega)) only [aa, jz]
   rw [jR rfl, s2, bt, dp rfl rfl, dl]
   try simp (disch := first | omega | assumption | (intros; simp only [dl2]; try omega)) only [aa, aC, cx, i6]
   have := hR (c + 1) ⟨(h1'.put id (some (.cells (ay az (U ++ y :: y :: W)) 52 true))).put id (some (.cells (ay az (U ++ y :: x :: W)) 52 true)), n1⟩
    ⟨rfl, fun j hj => by dsimp only; rw [ae _ _ hj, ae _ _ hj]; exact hfr j hj, by omega, by
     have : P ++ B.take (c + 1) ++ x :: (B.drop (c + 1) ++ S) = U ++ y :: x :: W := by rw [hU, hy, hW, dB hcB]; simp
     dsimp only; rw [this]; exact af _ _ _⟩ (by omega)
   rw [show P.length + (c + 1) = U.length + 1 by omega] at this
   exact this
  ·obtain rfl : c = lo := by omega
   rw [bE, aa, cx (by omega) (by omega), i5, cw, aa, decide_eq_false (by omega), aA]
   refine ⟨rfl, rfl, hfr, _, ⟨B.take c ++ [x] ++ B.drop c, rfl, ?_, into ordF (by rw [List.take_append_drop]; exact hB) m1 m2⟩, by simpa using hr⟩
   have := List.perm_middle (l₁ := B.take c) (l₂ := B.drop c) (a := x)
   rw [List.take_append_drop] at this
   simpa using this
theorem c137_b {h : Tr AB} {n id N : Nat} (P A S : List Fld) (x : Fld) (hA : Srt ltF A) (h1A : A.length ≠ 1) (hN : N = (P ++ A ++ [x] ++ S).length) (hN2 : N <= 1000000) (hg : cD h id (P ++ A ++ [x] ++ S)) :
  ∃ r σ', Runs T0 137 [.sl id 0 N none, .i .i64 (P.length : Nat), .i .i64 ((P.length + A.length : Nat) : Int), .i .i64 ((P.length + A.length + 1 : Nat) : Int), .fn 105 [] []] ⟨h, n⟩ r σ' /\ tI h n id r σ' (fun l' => ∃ C, l' = P ++ C ++ S /\ C.Perm (A ++ [x]) /\ Srt ltF C) := by
 refine x137 _ _ _ _ _ ?_
 unfold w137
 dsimp only [av]
 simp only [List.length_append, List.length_singleton] at hN
 have i0 : ((P.length + A.length : Nat) : Int) - (P.length : Nat) = ((A.length : Nat) : Int) := by omega
 have i1 : ((P.length + A.length + 1 : Nat) : Int) - ((P.length + A.length : Nat) : Int) = 1 := by omega
 rw [bE, aa, cx (by omega) (by omega), i0, bG, aa, decide_eq_false (by omega), aA]
 rw [bE, aa, cx (by omega) (by omega), i1, bG, aa, decide_eq_true rfl, aG]
 refine gW (X := Nat × Nat) (fun _ => .sl id 0 N none) (fun y => .i .i64 ((P.length + y.1 : Nat) : Int)) (fun _ => .i .i64 ((P.length + A.length : Nat) : Int)) (fun _ => .fn 105 [] []) (fun y => .i .i64 ((P.length + y.2 : Nat) : Int))
  (fun y σ => σ = ⟨h, n⟩ /\ y.1 <= y.2 /\ y.2 <= A.length /\ jE ltF (A.take y.1) [x] /\ jE ltF [x] (A.drop y.2)) (fun y => y.2 - y.1) ?_ (0, A.length) _
  ⟨rfl, Nat.zero_le _, Nat.le_refl _, pk, by dsimp only; rw [List.drop_length]; exact pj⟩
 rintro R ⟨lo, hi⟩ σ ⟨rfl, h1, h2, m1, m2⟩ hR
 dsimp only at h1 h2 m1 m2 hR |-
 have hx : (P ++ A ++ [x] ++ S).getD (P.length + A.length) default = x := by
  rw [<- List.length_append, List.append_assoc (P ++ A)]; exact fZ
 have ldx : ac T0 h 52 (.ptr id ((P.length + A.length) * (5 + 1))) = some (az x) := by rw [rl hg (by simp), hx]
 by_cases q : lo < hi
 ·obtain ⟨mi, hmi⟩ : ∃ mi, mi = (lo + hi) / 2 := ⟨_, rfl⟩
  have b1 : lo <= mi /\ mi < hi := by omega
  have i2 : ((P.length + lo : Nat) : Int) + ((P.length + hi : Nat) : Int) = ((2 * P.length + lo + hi : Nat) : Int) := by omega
  have i3 : (2 * P.length + lo + hi) / 2 = P.length + mi := by omega
  have ldm : ac T0 h 52 (.ptr id ((P.length + mi) * (5 + 1))) = some (az (A.getD mi default)) := by
   rw [rl hg (by simp; omega)]
   have := po (U := P) (V := A) (W := [x] ++ S) (i := mi) (by omega)
   rw [<- this]; congr 2; simp
  have i4 : ((P.length + mi : Nat) : Int) + 1 = ((P.length + (mi + 1) : Nat) : Int) := by omega
  cases hc : ltF x (A.getD mi default)
  ·simp (disch := first | omega | assumption | (intros; simp only [dl2]; try omega)) only [cy, sL, i2, cvA, wru, wd, i3, cvB, ldm, ldx, hc, cJ, Bool.not_false, Bool.not_true, i4]
   exact hR (mi + 1, hi) _ ⟨rfl, by dsimp only; omega, h2, mV (by omega) (fun y R' e => by injection e with e1 e2; rw [<- e1]; exact hc), m2⟩ (by dsimp only; omega)
  ·simp (disch := first | omega | assumption | (intros; simp only [dl2]; try omega)) only [cy, sL, i2, cvA, wru, wd, i3, cvB, ldm, ldx, hc, cJ, Bool.not_false, Bool.not_true]
   exact hR (lo, mi) _ ⟨rfl, b1.1, by dsimp only; omega, m1, mW (by omega) (fun L' u e => by
    have := (List.append_inj' (show [] ++ [x] = L' ++ [u] from e) rfl).2
    injection this with this
    rw [<- this]; exact ordF.asym _ _ hc)⟩ (by dsimp only; omega)
 ·obtain rfl : lo = hi := by omega
  rw [cw, aa, decide_eq_false (by omega), aA]
  clear hR
  refine fV (X := Nat) (fun _ => .sl id 0 N none) (fun _ => .i .i64 ((P.length + lo : Nat) : Int)) (fun c => .i .i64 ((P.length + c : Nat) : Int))
   (fun c σ => σ.n = n /\ (∀ j, j ≠ id -> σ.h.get j = h.get j) /\ lo <= c /\ c <= A.length /\ cD σ.h id (P ++ A.take c ++ x :: (A.drop c ++ S))) (fun c => c - lo) ?_ A.length _
   ⟨rfl, fun j _ => rfl, h2, Nat.le_refl _, by rw [List.take_length, List.drop_length]; simpa using hg⟩
  rintro R c ⟨h1', n1⟩ ⟨hn, hfr, hc, hc2, hr⟩ hR
  dsimp only at hn hfr hr hR |-
  subst hn
  by_cases q2 : lo < c
  ·obtain ⟨c, rfl⟩ : ∃ d, c = d + 1 := ⟨c - 1, by omega⟩
   have hcA : c < A.length := by omega
   obtain ⟨y, hy⟩ : ∃ y, y = A.getD c default := ⟨_, rfl⟩
   obtain ⟨U, hU⟩ : ∃ U, U = P ++ A.take c := ⟨_, rfl⟩
   obtain ⟨W, hW⟩ : ∃ W, W = A.drop (c + 1) ++ S := ⟨_, rfl⟩
   have hUl : U.length = P.length + c := by rw [hU, List.length_append, List.length_take]; omega
   have hWl : W.length = A.length - (c + 1) + S.length := by rw [hW, List.length_append, List.length_drop]
   have hr' : cD h1' id (U ++ y :: x :: W) := by rw [hU, hy, hW]; rw [dB hcA] at hr; simpa using hr
   have ll : (U ++ y :: x :: W).length = N := by simp only [List.length_append, List.length_cons]; omega
   have d0 : ac T0 h1' 52 (.ptr id (U.length * (5 + 1))) = some (az y) := by rw [rl hr' (by omega), fZ]
   have d1 : ac T0 h1' 52 (.ptr id ((U.length + 1) * (5 + 1))) = some (az x) := by rw [rl hr' (by omega), nl]
   have s1 : aY T0 h1' 52 (.ptr id ((U.length + 1) * (5 + 1))) (az y) = some (id, .cells (ay az (U ++ y :: y :: W)) 52 true) := by rw [rs hr' (by omega), pS]
   have hr2 : cD (h1'.put id (some (.cells (ay az (U ++ y :: y :: W)) 52 true))) id (U ++ y :: y :: W) := af _ _ _
   have s2 : aY T0 (h1'.put id (some (.cells (ay az (U ++ y :: y :: W)) 52 true))) 52 (.ptr id (U.length * (5 + 1))) (az x) = some (id, .cells (ay az (U ++ x :: y :: W)) 52 true) := by rw [rs hr2 (by simp), kp]
   have i6 : ((U.length + 1 : Nat) : Int) - 1 = ((U.length : Nat) : Int) := by omega
   have i7 : decide (((P.length + lo : Nat) : Int) < ((U.length + 1 : Nat) : Int)) = true := decide_eq_true (by omega)
   rw [show P.length + (c + 1) = U.length + 1 by omega]
   simp (disch := first | omega | assumption | (intros; simp only [dl2]; try omega)) only [aa, ck, i7, aG, bE, cx, i6, jz, d0, d1, s1, bt]
   rw [dp rfl rfl]
   try simp (disch := first | omega | assumption | (intros; simp only [dl2]; try omega)) only [aa, jz]
   rw [jR rfl, s2, bt, dp rfl rfl, dl]
   try simp (disch := first | omega | assumption | (intros; simp only [dl2]; try omega)) only [aa, bE, cx, i6]
   have := hR c ⟨(h1'.put id (some (.cells (ay az (U ++ y :: y :: W)) 52 true))).put id (some (.cells (ay az (U ++ x :: y :: W)) 52 true)), n1⟩
    ⟨rfl, fun j hj => by dsimp only; rw [ae _ _ hj, ae _ _ hj]; exact hfr j hj, by omega, by omega, by
     have : P ++ A.take c ++ x :: (A.drop c ++ S) = U ++ x :: y :: W := by rw [hU, hy, hW, fJ hcA]; simp
     dsimp only; rw [this]; exact af _ _ _⟩ (by omega)
   rw [<- hUl] at this
   exact this
  ·obtain rfl : c = lo := by omega
   rw [ck, aa, decide_eq_false (by omega), aA]
   refine ⟨rfl, rfl, hfr, _, ⟨A.take c ++ [x] ++ A.drop c, rfl, ?_, into ordF (by rw [List.take_append_drop]; exact hA) m1 m2⟩, by simpa using hr⟩
   have := List.perm_middle (l₁ := A.take c) (l₂ := A.drop c) (a := x)
   rw [List.take_append_drop] at this
   refine List.Perm.trans (by simpa using this) ?_
   exact (List.perm_append_singleton x A).symm
theorem c137 (k : Nat) : ∀ (P A B S : List Fld) (h : Tr AB) (n id N : Nat), A.length + B.length <= k -> A ≠ [] -> B ≠ [] -> Srt ltF A -> Srt ltF B -> N = (P ++ A ++ B ++ S).length -> N <= 1000000 -> cD h id (P ++ A ++ B ++ S) ->
  ∃ r σ', Runs T0 137 [.sl id 0 N none, .i .i64 (P.length : Nat), .i .i64 ((P.length + A.length : Nat) : Int), .i .i64 ((P.length + A.length + B.length : Nat) : Int), .fn 105 [] []] ⟨h, n⟩ r σ' /\ tI h n id r σ' (fun l' => ∃ C, l' = P ++ C ++ S /\ C.Perm (A ++ B) /\ Srt ltF C) := by
 induction k with
 | zero => intro P A B S h n id N hk hA; exact absurd (List.eq_nil_of_length_eq_zero (by omega)) hA
 | succ k ih =>
  intro P A B S h n id N hk hAn hBn hA hB hN hN2 hg
  have pA := mT hAn
  have pB := mT hBn
  by_cases a1 : A.length = 1
  ·obtain ⟨x, rfl⟩ : ∃ x, A = [x] := List.length_eq_one_iff.1 a1
   have := c137_a (n := n) P B S x hB hN hN2 hg
   exact this
  by_cases b1 : B.length = 1
  ·obtain ⟨x, rfl⟩ : ∃ x, B = [x] := List.length_eq_one_iff.1 b1
   exact c137_b (n := n) P A S x hA a1 hN hN2 hg
  refine x137 _ _ _ _ _ ?_
  unfold w137
  dsimp only [av]
  simp only [List.length_append] at hN
  obtain ⟨a, ha⟩ : ∃ a, a = P.length := ⟨_, rfl⟩
  obtain ⟨p, hp⟩ : ∃ p, p = A.length := ⟨_, rfl⟩
  obtain ⟨q, hq⟩ : ∃ q, q = B.length := ⟨_, rfl⟩
  obtain ⟨M, hM⟩ : ∃ M, M = (p + q) / 2 := ⟨_, rfl⟩
  have i0 : ((P.length + A.length : Nat) : Int) - (P.length : Nat) = ((A.length : Nat) : Int) := by omega
  have i1 : ((P.length + A.length + B.length : Nat) : Int) - ((P.length + A.length : Nat) : Int) = ((B.length : Nat) : Int) := by omega
  have i2 : ((P.length : Nat) : Int) + ((P.length + A.length + B.length : Nat) : Int) = ((2 * a + p + q : Nat) : Int) := by omega
  have i3 : (2 * a + p + q) / 2 = a + M := by omega
  have i4 : ((a + M : Nat) : Int) + ((P.length + A.length : Nat) : Int) = ((2 * a + M + p : Nat) : Int) := by omega
  simp (disch := first | omega | assumption | (intros; simp only [dl2]; try omega)) only [aa, bE, aC, bG, cx, i0, i1, i2, cX, aA, cvA, wru, wd, i3, cvB, i4]
  obtain ⟨lo0, hi0, hlh⟩ : ∃ lo0 hi0 : Nat, (M < p /\ lo0 = M - q /\ hi0 = M) ∨ (p <= M /\ lo0 = 0 /\ hi0 = p) := by
   by_cases g : M < p
   ·exact ⟨_, _, .inl ⟨g, rfl, rfl⟩⟩
   ·exact ⟨_, _, .inr ⟨by omega, rfl, rfl⟩⟩
  refine join9 (P := fun v0 v1 v2 v3 v4 v5 v6 v7 v8 σ => v0 = .fn 105 [] [] /\ v1 = .i .i64 ((a + p + q : Nat) : Int) /\ v2 = .i .i64 ((a + M : Nat) : Int) /\ v3 = .sl id 0 N none /\ v4 = .i .i64 ((a + lo0 : Nat) : Int) /\ v5 = .i .i64 (a : Nat) /\ v6 = .i .i64 ((a + p : Nat) : Int) /\ v7 = .i .i64 ((2 * a + M + p : Nat) : Int) /\ v8 = .i .i64 ((a + hi0 : Nat) : Int) /\ σ = ⟨h, n⟩) ?_ ?_
  ·intro K hK
   have hK := hK _ _ _ _ _ _ _ _ _ _ ⟨rfl, rfl, rfl, rfl, rfl, rfl, rfl, rfl, rfl, rfl⟩
   rw [ha, hp, hq] at hK
   rcases hlh with ⟨g1, g2, g3⟩ | ⟨g1, g2, g3⟩
   ·have i5 : ((2 * P.length + M + A.length : Nat) : Int) - ((P.length + A.length + B.length : Nat) : Int) = ((P.length + lo0 : Nat) : Int) := by omega
    rw [ha, hp]
    rw [g3] at hK
    simp (disch := first | omega | assumption | (intros; simp only [dl2]; try omega)) only [aa, ck, cU, aG, bE, cx, i5]
    exact hK
   ·rw [ha, hp]
    rw [g2, g3, Nat.add_zero, hp] at hK
    simp (disch := first | omega | assumption | (intros; simp only [dl2]; try omega)) only [aa, ck, cX, aA]
    exact hK
  ·rintro v0 v1 v2 v3 v4 v5 v6 v7 v8 σ ⟨rfl, rfl, rfl, rfl, rfl, rfl, rfl, rfl, rfl, rfl⟩
   have i6 : ((2 * a + M + p : Nat) : Int) - 1 = ((2 * a + M + p - 1 : Nat) : Int) := by omega
   rw [bE, aa, cx (by omega) (by omega), i6]
   have hl0 : lo0 <= hi0 /\ hi0 <= p /\ hi0 <= M /\ M - lo0 <= q := by omega
   refine loop10 (X := Nat × Nat) (fun _ => .fn 105 [] []) (fun _ => .i .i64 ((a + p + q : Nat) : Int)) (fun _ => .i .i64 ((a + M : Nat) : Int)) (fun _ => .sl id 0 N none) (fun y => .i .i64 ((a + y.1 : Nat) : Int)) (fun _ => .i .i64 (a : Nat)) (fun _ => .i .i64 ((a + p : Nat) : Int)) (fun _ => .i .i64 ((2 * a + M + p : Nat) : Int)) (fun _ => .i .i64 ((2 * a + M + p - 1 : Nat) : Int)) (fun y => .i .i64 ((a + y.2 : Nat) : Int))
    (fun y σ => σ = ⟨h, n⟩ /\ lo0 <= y.1 /\ y.1 <= y.2 /\ y.2 <= hi0 /\ jE ltF (A.take y.1) (B.drop (M - y.1)) /\ jE ltF (B.take (M - y.2)) (A.drop y.2)) (fun y => y.2 - y.1) ?_ (lo0, hi0) _
    ⟨rfl, Nat.le_refl _, hl0.1, Nat.le_refl _, by
     dsimp only
     rcases hlh with ⟨g1, g2, g3⟩ | ⟨g1, g2, g3⟩
     ·rw [List.drop_of_length_le (show B.length <= M - lo0 by omega)]; exact pj
     ·rw [g2, List.take_zero]; exact pk, by
     dsimp only
     rcases hlh with ⟨g1, g2, g3⟩ | ⟨g1, g2, g3⟩
     ·rw [g3, Nat.sub_self, List.take_zero]; exact pk
     ·rw [List.drop_of_length_le (show A.length <= hi0 by omega)]; exact pj⟩
   rintro R ⟨lo, hi⟩ σ ⟨rfl, h1, h2, h3, m1, m2⟩ hR
   dsimp only at h1 h2 h3 m1 m2 hR |-
   by_cases hlt : lo < hi
   ·obtain ⟨c, hc⟩ : ∃ c, c = (lo + hi) / 2 := ⟨_, rfl⟩
    have bc : lo <= c /\ c < hi := by omega
    have i7 : ((a + lo : Nat) : Int) + ((a + hi : Nat) : Int) = ((2 * a + lo + hi : Nat) : Int) := by omega
    have i8 : (2 * a + lo + hi) / 2 = a + c := by omega
    obtain ⟨d, hd⟩ : ∃ d, d = M - 1 - c := ⟨_, rfl⟩
    have i9 : ((2 * a + M + p - 1 : Nat) : Int) - ((a + c : Nat) : Int) = ((a + p + d : Nat) : Int) := by omega
    have i10 : ((a + c : Nat) : Int) + 1 = ((a + (c + 1) : Nat) : Int) := by omega
    have ldc : ac T0 h 52 (.ptr id ((a + c) * (5 + 1))) = some (az (A.getD c default)) := by
     rw [rl hg (by simp; omega), ha]
     have := po (U := P) (V := A) (W := B ++ S) (i := c) (by omega)
     rw [<- this]; congr 2; simp
    have ldd : ac T0 h 52 (.ptr id ((a + p + d) * (5 + 1))) = some (az (B.getD d default)) := by
     rw [rl hg (by simp; omega), ha, hp]
     have := po (U := P ++ A) (V := B) (W := S) (i := d) (by omega)
     rw [List.length_append] at this
     rw [<- this]
    cases hcmp : ltF (B.getD d default) (A.getD c default)
    ·simp (disch := first | omega | assumption | (intros; simp only [dl2]; try omega)) only [cy, sL, bE, i7, cvA, wru, wd, i8, cvB, i9, ldc, ldd, hcmp, cJ, Bool.not_false, Bool.not_true, i10]
     refine hR (c + 1, hi) _ ⟨rfl, by dsimp only; omega, by dsimp only; omega, h3, ?_, m2⟩ (by dsimp only; omega)
     dsimp only
     refine mV (by omega) (fun y R' e => ?_)
     rw [show M - (c + 1) = d by omega, fJ (show d < B.length by omega)] at e
     injection e with e1 e2
     rw [<- e1]; exact hcmp
    ·simp (disch := first | omega | assumption | (intros; simp only [dl2]; try omega)) only [cy, sL, bE, i7, cvA, wru, wd, i8, cvB, i9, ldc, ldd, hcmp, cJ, Bool.not_false, Bool.not_true]
     refine hR (lo, c) _ ⟨rfl, h1, bc.1, by dsimp only; omega, m1, ?_⟩ (by dsimp only; omega)
     dsimp only
     refine mW (by omega) (fun L' x e => ?_)
     rw [show M - c = d + 1 by omega, dB (show d < B.length by omega)] at e
     have := (List.append_inj' e rfl).2
     injection this with this
     rw [<- this]; exact ordF.asym _ _ hcmp
   ·obtain rfl : lo = hi := by omega
    rw [cw, aa, decide_eq_false (by omega), aA]
    clear hR
    obtain ⟨s, hs⟩ : ∃ s, s = lo := ⟨_, rfl⟩
    rw [<- hs] at m1 m2 h1 h3 |-
    obtain ⟨A1, hA1⟩ : ∃ l, l = A.take s := ⟨_, rfl⟩
    obtain ⟨A2, hA2⟩ : ∃ l, l = A.drop s := ⟨_, rfl⟩
    obtain ⟨B1, hB1⟩ : ∃ l, l = B.take (M - s) := ⟨_, rfl⟩
    obtain ⟨B2, hB2⟩ : ∃ l, l = B.drop (M - s) := ⟨_, rfl⟩
    have sA : A = A1 ++ A2 := by rw [hA1, hA2, List.take_append_drop]
    have sB : B = B1 ++ B2 := by rw [hB1, hB2, List.take_append_drop]
    have lA1 : A1.length = s := by rw [hA1, List.length_take]; omega
    have lA2 : A2.length = p - s := by rw [hA2, List.length_drop, <- hp]
    have lB1 : B1.length = M - s := by rw [hB1, List.length_take]; omega
    have lB2 : B2.length = q - (M - s) := by rw [hB2, List.length_drop, <- hq]
    rw [<- hA1, <- hB2] at m1
    rw [<- hB1, <- hA2] at m2
    have hA' : Srt ltF (A1 ++ A2) := by rw [<- sA]; exact hA
    have hB' : Srt ltF (B1 ++ B2) := by rw [<- sB]; exact hB
    have hall := halves ordF hA' hB' m1 m2
    have hg' : cD h id (P ++ A1 ++ A2 ++ (B1 ++ B2) ++ S) := by
     have : P ++ A1 ++ A2 ++ (B1 ++ B2) ++ S = P ++ A ++ B ++ S := by rw [sA, sB]; simp
     rw [this]; exact hg
    have j0 : ((2 * a + M + p : Nat) : Int) - ((a + s : Nat) : Int) = ((a + p + (M - s) : Nat) : Int) := by omega
    rw [bE, aa, cx (by omega) (by omega), j0]
    refine join7 (P := fun v0 v1 v2 v3 v4 v5 v6 σ => v0 = .fn 105 [] [] /\ v1 = .i .i64 ((a + p + q : Nat) : Int) /\ v2 = .i .i64 ((a + p + (M - s) : Nat) : Int) /\ v3 = .i .i64 ((a + M : Nat) : Int) /\ v4 = .sl id 0 N none /\ v5 = .i .i64 ((a + s : Nat) : Int) /\ v6 = .i .i64 (a : Nat) /\ σ.n = n /\ (∀ j, j ≠ id -> σ.h.get j = h.get j) /\ cD σ.h id (P ++ A1 ++ B1 ++ (A2 ++ B2 ++ S))) ?_ ?_
    ·intro K hK
     by_cases g1 : s < p
     ·by_cases g2 : s < M
      ·obtain ⟨r, σ', hrun, hr1, hr2, hr3, l', rfl, hr4⟩ := c144 (n := n) (N := N) (P ++ A1) A2 B1 (B2 ++ S) (fun e => by rw [e, List.length_nil] at lA2; omega) (fun e => by rw [e, List.length_nil] at lB1; omega) (by simp only [List.length_append]; omega) hN2 (by simpa using hg')
       rw [List.length_append, <- ha, lA1, lA2, lB1, show a + s + (p - s) = a + p by omega] at hrun
       subst hr1
       simp (disch := first | omega | assumption | (intros; simp only [dl2]; try omega)) only [cy, cU, gg, bw, aG, hrun.eq]
       exact hK _ _ _ _ _ _ _ _ ⟨rfl, rfl, rfl, rfl, rfl, rfl, rfl, hr2, hr3, by simpa using hr4⟩
      ·have e : B1 = [] := List.eq_nil_of_length_eq_zero (by omega)
       simp (disch := first | omega | assumption | (intros; simp only [dl2]; try omega)) only [cy, cU, cX, gg, bw, aA]
       exact hK _ _ _ _ _ _ _ _ ⟨rfl, rfl, rfl, rfl, rfl, rfl, rfl, rfl, fun j _ => rfl, by rw [e] at hg' |-; simpa using hg'⟩
     ·have e : A2 = [] := List.eq_nil_of_length_eq_zero (by omega)
      simp (disch := first | omega | assumption | (intros; simp only [dl2]; try omega)) only [cy, cX, jB, bK, aA]
      exact hK _ _ _ _ _ _ _ _ ⟨rfl, rfl, rfl, rfl, rfl, rfl, rfl, rfl, fun j _ => rfl, by rw [e] at hg' |-; simpa using hg'⟩
    ·rintro v0 v1 v2 v3 v4 v5 v6 ⟨h1', n1⟩ ⟨rfl, rfl, rfl, rfl, rfl, rfl, rfl, hn1, hf1, hr1⟩
     dsimp only at hn1 hf1 hr1
     subst hn1
     refine join5 (P := fun v0 v1 v2 v3 v4 σ => v0 = .fn 105 [] [] /\ v1 = .i .i64 ((a + p + q : Nat) : Int) /\ v2 = .i .i64 ((a + p + (M - s) : Nat) : Int) /\ v3 = .i .i64 ((a + M : Nat) : Int) /\ v4 = .sl id 0 N none /\ σ.n = n1 /\ (∀ j, j ≠ id -> σ.h.get j = h.get j) /\ ∃ C1, C1.Perm (A1 ++ B1) /\ Srt ltF C1 /\ cD σ.h id (P ++ C1 ++ (A2 ++ B2 ++ S))) ?_ ?_
     ·intro K hK
      by_cases g1 : 0 < s
      ·by_cases g2 : s < M
       ·obtain ⟨r, σ', hrun, hr1', hr2, hr3, l', ⟨C1, rfl, hr5, hr6⟩, hr4⟩ := ih P A1 B1 (A2 ++ B2 ++ S) h1' n1 id N (by omega) (fun e => by rw [e, List.length_nil] at lA1; omega) (fun e => by rw [e, List.length_nil] at lB1; omega) hA'.left hB'.left (by simp only [List.length_append]; omega) hN2 (by simpa using hr1)
        rw [<- ha, lA1, lB1, show a + s + (M - s) = a + M by omega] at hrun
        subst hr1'
        simp (disch := first | omega | assumption | (intros; simp only [dl2]; try omega)) only [cy, cU, gg, bw, aG, hrun.eq]
        exact hK _ _ _ _ _ _ ⟨rfl, rfl, rfl, rfl, rfl, hr2, fun j hj => (hr3 j hj).trans (hf1 j hj), C1, hr5, hr6, hr4⟩
       ·have e : B1 = [] := List.eq_nil_of_length_eq_zero (by omega)
        simp (disch := first | omega | assumption | (intros; simp only [dl2]; try omega)) only [cy, cU, cX, gg, bw, aA]
        exact hK _ _ _ _ _ _ ⟨rfl, rfl, rfl, rfl, rfl, rfl, hf1, A1 ++ B1, List.Perm.refl _, by rw [e, List.append_nil]; exact hA'.left, by simpa using hr1⟩
      ·have e : A1 = [] := List.eq_nil_of_length_eq_zero (by omega)
       simp (disch := first | omega | assumption | (intros; simp only [dl2]; try omega)) only [cy, cX, jB, bK, aA]
       exact hK _ _ _ _ _ _ ⟨rfl, rfl, rfl, rfl, rfl, rfl, hf1, A1 ++ B1, List.Perm.refl _, by rw [e, List.nil_append]; exact hB'.left, by simpa using hr1⟩
     ·rintro v0 v1 v2 v3 v4 ⟨h2', n2⟩ ⟨rfl, rfl, rfl, rfl, rfl, hn2, hf2, C1, hC1, hC1s, hr2⟩
      dsimp only at hn2 hf2 hr2
      subst hn2
      have lC1 : C1.length = M := by have := hC1.length_eq; rw [List.length_append] at this; omega
      have fin : ∀ (C2 : List Fld) (h3 : Tr AB), (∀ j, j ≠ id -> h3.get j = h.get j) -> C2.Perm (A2 ++ B2) -> Srt ltF C2 -> cD h3 id (P ++ C1 ++ C2 ++ S) -> tI h n2 id (.tup []) ⟨h3, n2⟩ (fun l' => ∃ C, l' = P ++ C ++ S /\ C.Perm (A ++ B) /\ Srt ltF C) := fun C2 h3 hf3 hC2 hC2s hr3 => by
       refine ⟨rfl, rfl, hf3, _, ⟨C1 ++ C2, rfl, ?_, ?_⟩, by simpa using hr3⟩
       ·refine (List.Perm.append hC1 hC2).trans ?_
        rw [sA, sB]
        simp only [List.append_assoc]
        refine List.Perm.append_left A1 ?_
        rw [<- List.append_assoc, <- List.append_assoc]
        exact List.Perm.append_right B2 List.perm_append_comm
       ·exact glue_all hC1s hC2s (pN (re hall hC1) hC2)
      by_cases g1 : s < p
      ·by_cases g2 : p - s < p + q - M
       ·obtain ⟨r, σ', hrun, hr1', hr2', hr3, l', ⟨C2, rfl, hr5, hr6⟩, hr4⟩ := ih (P ++ C1) A2 B2 S h2' n2 id N (by omega) (fun e => by rw [e, List.length_nil] at lA2; omega) (fun e => by rw [e, List.length_nil] at lB2; omega) hA'.right hB'.right (by simp only [List.length_append]; omega) hN2 (by simpa using hr2)
        rw [List.length_append, <- ha, lC1, lA2, lB2, show a + M + (p - s) = a + p + (M - s) by omega, show a + p + (M - s) + (q - (M - s)) = a + p + q by omega] at hrun
        subst hr1'
        simp (disch := first | omega | assumption | (intros; simp only [dl2]; try omega)) only [cy, cU, gg, bw, aG, hrun.eq]
        obtain ⟨h4, n4⟩ := σ'
        dsimp only at hr2' hr3 hr4
        subst hr2'
        exact fin C2 h4 (fun j hj => (hr3 j hj).trans (hf2 j hj)) hr5 hr6 hr4
       ·have e : B2 = [] := List.eq_nil_of_length_eq_zero (by omega)
        simp (disch := first | omega | assumption | (intros; simp only [dl2]; try omega)) only [cy, cU, cX, gg, bw, aA]
        exact fin (A2 ++ B2) h2' hf2 (List.Perm.refl _) (by rw [e, List.append_nil]; exact hA'.right) (by simpa using hr2)
      ·have e : A2 = [] := List.eq_nil_of_length_eq_zero (by omega)
       simp (disch := first | omega | assumption | (intros; simp only [dl2]; try omega)) only [cy, cX, jB, bK, aA]
       exact fin (A2 ++ B2) h2' hf2 (List.Perm.refl _) (by rw [e, List.nil_append]; exact hB'.right) (by simpa using hr2)
theorem x120 (a0 a1 a2 : AV) {σ : AS} {Q : AV -> AS -> Prop} (h : w120 (av T0) a0 a1 a2 σ Q) : ∃ r σ', Runs T0 120 [a0, a1, a2] σ r σ' /\ Q r σ' :=
 Runs.ex (by kernel_rfl) (by kernel_rfl) (show T0.fn 120 = some Tryz.f120 by kernel_rfl) (by kernel_rfl) (by kernel_rfl) (by kernel_rfl) (by rw [w120_eq] at h; exact h)
theorem x104 (a0 a1 : AV) {σ : AS} {Q : AV -> AS -> Prop} (h : w104 (av T0) a0 a1 σ Q) : ∃ r σ', Runs T0 104 [a0, a1] σ r σ' /\ Q r σ' :=
 Runs.ex (by kernel_rfl) (by kernel_rfl) (show T0.fn 104 = some Tryz.f104 by kernel_rfl) (by kernel_rfl) (by kernel_rfl) (by kernel_rfl) (by rw [w104_eq] at h; exact h)
def qX (bs : Nat) (Ds : List (List Fld)) : Prop := ∀ d ∈ Ds, d.length = bs /\ Srt ltF d
theorem gt {bs : Nat} : ∀ {Ds : List (List Fld)}, qX bs Ds -> Ds.flatten.length = bs * Ds.length
 | [], _ => by simp
 | d :: Ds, h => by
  have h1 := h d (List.mem_cons_self ..)
  have ih := gt (bs := bs) (Ds := Ds) (fun x hx => h x (List.mem_cons_of_mem _ hx))
  rw [List.flatten_cons, List.length_append, ih, h1.1, List.length_cons, Nat.mul_add, Nat.mul_one]; omega
theorem qb {bs : Nat} {Ds : List (List Fld)} {d : List Fld} (h : qX bs Ds) (h1 : d.length = bs) (h2 : Srt ltF d) : qX bs (Ds ++ [d]) := fun x hx => by
 rcases List.mem_append.1 hx with hx | hx
 ·exact h x hx
 ·rw [List.mem_singleton.1 hx]; exact ⟨h1, h2⟩
theorem kD (Ds : List (List Fld)) (d : List Fld) : (Ds ++ [d]).flatten = Ds.flatten ++ d := by simp
theorem c120 {h : Tr AB} {n id N : Nat} (l : List Fld) (hN : N = l.length) (hN2 : N <= 1000000) (hg : cD h id l) :
  ∃ r σ', Runs T0 120 [.sl id 0 N none, .i .i64 (N : Nat), .fn 105 [] []] ⟨h, n⟩ r σ' /\ tI h n id r σ' (fun l' => l'.Perm l /\ Srt ltF l') := by
 refine x120 _ _ _ ?_
 unfold w120
 dsimp only [av]
 refine uG (X := List (List Fld) × List Fld) (fun _ => .fn 105 [] []) (fun _ => .i .i64 (N : Nat)) (fun _ => .sl id 0 N none) (fun _ => .i .i64 20) (fun y => .i .i64 ((20 * y.1.length : Nat) : Int)) (fun y => .i .i64 ((20 * y.1.length + 20 : Nat) : Int))
  (fun y σ => σ.n = n /\ (∀ j, j ≠ id -> σ.h.get j = h.get j) /\ qX 20 y.1 /\ (y.1.flatten ++ y.2).Perm l /\ cD σ.h id (y.1.flatten ++ y.2)) (fun y => y.2.length) ?_ ([], l) _
  ⟨rfl, fun j _ => rfl, fun d hd => (by cases hd), List.Perm.refl _, hg⟩
 rintro R ⟨Ds, Rr⟩ ⟨h1, n1⟩ ⟨hn, hf, hD, hp, hr⟩ hR
 dsimp only at hn hf hD hp hr hR |-
 subst hn
 have hl := hp.length_eq
 have hdl := gt hD
 rw [List.length_append] at hl
 by_cases g : 20 <= Rr.length
 ·have e1 : Rr = Rr.take 20 ++ Rr.drop 20 := (List.take_append_drop _ _).symm
  have l20 : (Rr.take 20).length = 20 := by rw [List.length_take]; omega
  obtain ⟨r, σ', hrun, hr1, hr2, hr3, l', ⟨A', rfl, hr5, hr6⟩, hr4⟩ := c136 (h := h1) (n := n1) (id := id) (N := N) Ds.flatten (Rr.take 20) (Rr.drop 20) (by rw [List.append_assoc, <- e1, List.length_append]; omega) hN2 (by rw [List.append_assoc, <- e1]; exact hr)
  rw [hdl, l20] at hrun
  subst hr1
  have i1 : ((20 * Ds.length + 20 : Nat) : Int) + 20 = ((20 * Ds.length + 20 + 20 : Nat) : Int) := by omega
  simp (disch := first | omega | assumption | (intros; simp only [dl2]; try omega)) only [aa, gN, cU, aG, hrun.eq, aC, cx, i1]
  have hA : A'.length = 20 := by rw [hr5.length_eq, l20]
  have := hR (Ds ++ [A'], Rr.drop 20) σ' ⟨hr2, fun j hj => (hr3 j hj).trans (hf j hj), qb hD hA hr6, by
    dsimp only
    rw [kD, List.append_assoc]
    refine List.Perm.trans (List.Perm.append_left _ ?_) hp
    conv => rhs; rw [e1]
    exact List.Perm.append_right _ hr5, by dsimp only; rw [kD]; exact hr4⟩ (by dsimp only; rw [List.length_drop]; omega)
  dsimp only at this
  rw [List.length_append, List.length_singleton, show 20 * (Ds.length + 1) = 20 * Ds.length + 20 by omega] at this
  exact this
 ·obtain ⟨r, σ', hrun, hr1, hr2, hr3, l', ⟨A', rfl, hr5, hr6⟩, hr4⟩ := c136 (h := h1) (n := n1) (id := id) (N := N) Ds.flatten Rr [] (by rw [List.append_nil, List.length_append]; omega) hN2 (by rw [List.append_nil]; exact hr)
  rw [hdl, show 20 * Ds.length + Rr.length = N by omega] at hrun
  subst hr1
  rw [gN, aa, decide_eq_false (by omega), aA, hrun.eq]
  clear hR
  refine gJ (X := Nat × List (List Fld) × List Fld) (fun _ => .fn 105 [] []) (fun _ => .i .i64 (N : Nat)) (fun _ => .sl id 0 N none) (fun y => .i .i64 (y.1 : Nat))
   (fun y σ => σ.n = n1 /\ (∀ j, j ≠ id -> σ.h.get j = h.get j) /\ 20 <= y.1 /\ y.1 <= 4000000 /\ qX y.1 y.2.1 /\ Srt ltF y.2.2 /\ y.2.2.length < y.1 /\ (y.2.1.flatten ++ y.2.2).Perm l /\ cD σ.h id (y.2.1.flatten ++ y.2.2)) (fun y => 4000000 - y.1) ?_ (20, Ds, A') _
   ⟨hr2, fun j hj => (hr3 j hj).trans (hf j hj), Nat.le_refl _, by dsimp only; omega, hD, hr6, by dsimp only; rw [hr5.length_eq]; omega, (List.Perm.append_left _ hr5).trans hp, by simpa using hr4⟩
  clear hr hr2 hr3 hr4 hr5 hr6 hrun hp hl hdl hD hf g
  rintro R ⟨bs, Ds, L⟩ ⟨h2, n2⟩ ⟨hn, hf, hb1, hb2, hD, hL, hLl, hp, hr⟩ hR
  dsimp only at hn hf hb1 hb2 hD hL hLl hp hr hR |-
  subst hn
  have hl := hp.length_eq
  have hdl := gt hD
  rw [List.length_append, hdl] at hl
  by_cases g : bs < N
  ·have i1 : (2 : Int) * (bs : Nat) = ((2 * bs : Nat) : Int) := by omega
   simp (disch := first | omega | assumption | (intros; simp only [dl2]; try omega)) only [cy, cU, aG, mA, cx, i1]
   refine uG (X := List (List Fld) × List (List Fld)) (fun _ => .fn 105 [] []) (fun _ => .i .i64 (N : Nat)) (fun _ => .sl id 0 N none) (fun _ => .i .i64 (bs : Nat)) (fun y => .i .i64 ((2 * bs * y.1.length : Nat) : Int)) (fun y => .i .i64 ((2 * bs + 2 * bs * y.1.length : Nat) : Int))
    (fun y σ => σ.n = n2 /\ (∀ j, j ≠ id -> σ.h.get j = h.get j) /\ qX (2 * bs) y.1 /\ qX bs y.2 /\ (y.1.flatten ++ (y.2.flatten ++ L)).Perm l /\ cD σ.h id (y.1.flatten ++ (y.2.flatten ++ L))) (fun y => y.2.length) ?_ ([], Ds) ⟨h2, n2⟩
    ⟨rfl, hf, fun d hd => (by cases hd), hD, hp, hr⟩
   clear hp hr hl hdl hD hf
   rintro R2 ⟨Dn, Td⟩ ⟨h3, n3⟩ ⟨hn3, hf, hDn, hTd, hp, hr⟩ hR2
   dsimp only at hn3 hf hDn hTd hp hr hR2 |-
   subst hn3
   have hl := hp.length_eq
   have l1 := gt hDn
   have l2 := gt hTd
   rw [List.length_append, List.length_append, l1, l2] at hl
   obtain ⟨u, hu⟩ : ∃ u, u = 2 * bs * Dn.length := ⟨_, rfl⟩
   rw [<- hu] at l1 hl |-
   have i3 : ((u : Nat) : Int) + (bs : Nat) = ((u + bs : Nat) : Int) := by omega
   have i4 : ((bs : Nat) : Int) * 2 = ((2 * bs : Nat) : Int) := by omega
   match Td, hTd, hp, hr, hR2, l2, hl with
   | [], hTd, hp, hr, hR2, l2, hl =>
    rw [List.length_nil, Nat.mul_zero, Nat.zero_add] at hl
    simp (disch := first | omega | assumption | (intros; simp only [dl2]; try omega)) only [cy, gN, cX, aA, aC, cx, i3, ca, mA, i4]
    have := hR (2 * bs, Dn, L) ⟨h3, n3⟩ ⟨rfl, hf, by dsimp only; omega, by dsimp only; omega, hDn, hL, by dsimp only; omega, by simpa using hp, by simpa using hr⟩ (by dsimp only; omega)
    exact this
   | [d], hTd, hp, hr, hR2, l2, hl =>
    rw [List.length_singleton, Nat.mul_one] at hl
    have hd := hTd d (List.mem_cons_self ..)
    by_cases hL0 : L = []
    ·have : L.length = 0 := by rw [hL0]; rfl
     simp (disch := first | omega | assumption | (intros; simp only [dl2]; try omega)) only [cy, gN, cX, aA, aC, cx, i3, ca, mA, i4]
     have := hR (2 * bs, Dn, d) ⟨h3, n3⟩ ⟨rfl, hf, by dsimp only; omega, by dsimp only; omega, hDn, hd.2, by dsimp only; omega, by rw [hL0] at hp; simpa using hp, by rw [hL0] at hr; simpa using hr⟩ (by dsimp only; omega)
     exact this
    ·have hLp := mT hL0
     have hr' : cD h3 id (Dn.flatten ++ d ++ L ++ []) := by simpa using hr
     obtain ⟨r, σ', hrun, hr1, hr2, hr3, l', ⟨C, rfl, hr5, hr6⟩, hr4⟩ := c137 _ Dn.flatten d L [] h3 n3 id N (Nat.le_refl _) (fun e => by rw [e, List.length_nil] at hd; omega) hL0 hd.2 hL (by simp only [List.length_append, List.length_nil]; omega) hN2 hr'
     rw [l1, hd.1, show u + bs + L.length = N by omega] at hrun
     subst hr1
     simp (disch := first | omega | assumption | (intros; simp only [dl2]; try omega)) only [cy, gN, cX, cU, aA, aG, aC, cx, i3, ca, mA, i4, hrun.eq]
     have hCl := hr5.length_eq
     rw [List.length_append] at hCl
     have := hR (2 * bs, Dn, C) σ' ⟨hr2, fun j hj => (hr3 j hj).trans (hf j hj), by dsimp only; omega, by dsimp only; omega, hDn, hr6, by dsimp only; omega, (List.Perm.append_left _ hr5).trans (by simpa using hp), by simpa using hr4⟩ (by dsimp only; omega)
     exact this
   | d1 :: d2 :: Td, hTd, hp, hr, hR2, l2, hl =>
    have hd1 := hTd d1 (List.mem_cons_self ..)
    have hd2 := hTd d2 (List.mem_cons_of_mem _ (List.mem_cons_self ..))
    rw [List.length_cons, List.length_cons, show bs * (Td.length + 1 + 1) = bs * Td.length + 2 * bs by rw [Nat.mul_add, Nat.mul_add]; omega] at hl
    have hTl := gt (bs := bs) (Ds := Td) (fun x hx => hTd x (List.mem_cons_of_mem _ (List.mem_cons_of_mem _ hx)))
    have hr' : cD h3 id (Dn.flatten ++ d1 ++ d2 ++ (Td.flatten ++ L)) := by simpa using hr
    obtain ⟨r, σ', hrun, hr1, hr2, hr3, l', ⟨C, rfl, hr5, hr6⟩, hr4⟩ := c137 _ Dn.flatten d1 d2 (Td.flatten ++ L) h3 n3 id N (Nat.le_refl _) (fun e => by rw [e, List.length_nil] at hd1; omega) (fun e => by rw [e, List.length_nil] at hd2; omega) hd1.2 hd2.2 (by simp only [List.length_append]; omega) hN2 hr'
    rw [l1, hd1.1, hd2.1, show u + bs + bs = 2 * bs + u by omega] at hrun
    subst hr1
    have i5 : ((2 * bs + u : Nat) : Int) + ((2 * bs : Nat) : Int) = ((2 * bs + (2 * bs + u) : Nat) : Int) := by omega
    simp (disch := first | omega | assumption | (intros; simp only [dl2]; try omega)) only [aa, gN, cU, aG, aC, cx, i3, mA, i1, i5, hrun.eq]
    have hCl := hr5.length_eq
    rw [List.length_append] at hCl
    have := hR2 (Dn ++ [C], Td) σ' ⟨hr2, fun j hj => (hr3 j hj).trans (hf j hj), qb hDn (by omega) hr6, fun x hx => hTd x (List.mem_cons_of_mem _ (List.mem_cons_of_mem _ hx)), by
      dsimp only
      rw [kD, List.append_assoc]
      refine List.Perm.trans (List.Perm.append_left _ (List.Perm.append_right _ hr5)) ?_
      simpa using hp, by dsimp only; rw [kD]; exact hr4⟩ (by dsimp only; simp only [List.length_cons]; omega)
    dsimp only at this
    rw [List.length_append, List.length_singleton, show 2 * bs * (Dn.length + 1) = 2 * bs + u by rw [Nat.mul_add, <- hu, Nat.mul_one]; omega] at this
    exact this
  ·rw [cw, aa, decide_eq_false (by omega), aA]
   refine ⟨rfl, rfl, hf, _, ⟨hp, ?_⟩, hr⟩
   cases Ds with
   | nil => simpa using hL
   | cons d Ds =>
    have hd := hD d (List.mem_cons_self ..)
    rw [List.length_cons] at hl
    have hz : bs * Ds.length = 0 /\ L.length = 0 := by
     have : bs * (Ds.length + 1) = bs * Ds.length + bs := by rw [Nat.mul_add, Nat.mul_one]
     omega
    have h0 : Ds = [] := List.eq_nil_of_length_eq_zero (by
     rcases Nat.mul_eq_zero.1 hz.1 with e | e
     ·omega
     ·exact e)
    have hL0 : L = [] := List.eq_nil_of_length_eq_zero hz.2
    subst h0; subst hL0
    simpa using hd.2
theorem c104 {h : Tr AB} {n id N : Nat} (l : List Fld) (hN : N = l.length) (hN2 : N <= 1000000) (hg : cD h id l) :
  ∃ r σ', Runs T0 104 [.sl id 0 N none, .fn 105 [] []] ⟨h, n⟩ r σ' /\ tI h n id r σ' (fun l' => l'.Perm l /\ Srt ltF l') := by
 refine x104 _ _ ?_
 unfold w104
 dsimp only [av]
 obtain ⟨r, σ', hrun, hl⟩ := c120 (n := n) l hN hN2 hg
 rw [fM elF.ty, aa, hrun.eq]
 exact ⟨rfl, hl.2⟩
theorem c123 (f : Fld) (nm : List UInt8) : R T0 123 [az f, .iptr [.s nm]] (.b (f.name == nm)) := by
 refine r123 _ _ (by rw [bk, aw]; rfl) (by rw [bk, aw]; rfl) ?_
 unfold w123
 dsimp only [av]
 have q : aK T0 9 [AV.s nm] = some (.s nm) := lM _ _
 simp (disch := first | omega | assumption | (intros; simp only [dl3]; try omega)) only [vb4, ne_eq, vb9, vb1, bz, cm, q]
theorem c72d (l : List Fld) (nm : List UInt8) (hl : l.length <= 1000000) : R T0 72 [.lst (l.map az), .fn 123 [] [.iptr [.s nm]]] (.i .i64 (fY (fun f => f.name == nm) l)) := by
 refine r72 _ _ rfl rfl ?_
 unfold w72
 dsimp only [av]
 simp (disch := first | omega | assumption | (intros; simp only [dl3]; try omega)) only [aa, jT, cg]
 refine gJ (X := Nat) (fun _ => .lst (l.map az)) (fun _ => .fn 123 [] [.iptr [.s nm]]) (fun _ => .i .i64 (l.length : Nat)) (fun j => .i .i64 (j : Nat)) (fun j σ => j <= l.length /\ (l.take j).all (fun f => !(f.name == nm)) = true) (fun j => l.length - j) ?_ 0 _ ⟨Nat.zero_le _, rfl⟩
 rintro R j σ ⟨hj, ha⟩ hR
 simp only [cy]
 refine aU (fun h => ?_) (fun h => ?_)
 ·have hj' : j < l.length := by omega
  have e := fun (d : Nat) (σ : AS) (K : AV -> AS -> Prop) => (c123 (l.getD j default) nm).eq d σ K
  cases hs : ((l.getD j default).name == nm)
  ·rw [hs] at e
   simp (disch := first | omega | assumption | (intros; simp only [dl3]; try omega)) only [vb4, ne_eq, bj, aC, vb1, kL, List.nil_append, List.cons_append, e]
   exact hR (j + 1) _ ⟨by omega, aV (d := default) ha hj' (by rw [hs]; rfl)⟩ (by omega)
  ·rw [hs] at e
   simp (disch := first | omega | assumption | (intros; simp only [dl3]; try omega)) only [vb4, ne_eq, bj, aC, vb1, kL, List.nil_append, List.cons_append, e]
   rw [jf (q := fun f : Fld => f.name == nm) (d := default) ha hj' hs]
 ·rw [gX (cT ha (by omega)), oz]
theorem fz_cl {h : Tr AB} {j e : Nat} {g : Bool} {nm : List UInt8} (hg : h.get j = some (.cells [.s nm] e g)) (k : Nat) : fz T0 h (k + 3) (.fn 123 [] [.ptr j 0]) = some (.fn 123 [] [.iptr [.s nm]]) := by
 have h1 : fz T0 h (k + 2) (.ptr j 0) = some (.iptr [.s nm]) := by
  unfold fz
  have b : Nat.ble 0 [AV.s nm].length = true := rfl
  have m : cV (fz T0 h (k + 1)) [AV.s nm] = some [.s nm] := bp (cC k rfl) rfl
  simp only [AV.idfree, hg, b, List.drop_zero, m, Option.map_some]
 unfold fz
 have i : (AV.fn 123 [] [.ptr j 0]).idfree = false := rfl
 have m1 : cV (fz T0 h (k + 2)) [] = some [] := rfl
 have m2 : cV (fz T0 h (k + 2)) [AV.ptr j 0] = some [.iptr [.s nm]] := bp h1 zw
 simp only [i, m1, m2]
theorem l123 {σ : AS} {j e : Nat} {g : Bool} {nm : List UInt8} (hg : σ.h.get j = some (.cells [.s nm] e g)) (f : Fld) {d : Nat} {K : AV -> AS -> Prop} : oF T0 d (.fn 123 [] [.ptr j 0]) [az f] σ K = K (.b (f.name == nm)) σ := by
 rw [kL]
 have h1 : fz T0 σ.h 2 (.ptr j 0) = some (.iptr [.s nm]) := by
  unfold fz
  have b : Nat.ble 0 [AV.s nm].length = true := rfl
  have m : cV (fz T0 σ.h 1) [AV.s nm] = some [.s nm] := bp (cC 0 rfl) rfl
  simp only [AV.idfree, hg, b, List.drop_zero, m, Option.map_some]
 have hF : (az f).idfree = true := by rw [bk, aw]; rfl
 have hN : (az f).norm = az f := by rw [bk, aw]; rfl
 have h2 : fz T0 σ.h 2 (az f) = some (az f) := by rw [cC 1 hF, hN]
 exact (R.lent (m := 2) (args' := [az f, .iptr [.s nm]]) (by kernel_rfl) (by kernel_rfl) (by kernel_rfl) (by rw [bk, aw]; rfl) (by rw [bk, aw]; rfl) (by rw [bk, aw]; rfl) rfl (bp h2 (bp h1 rfl)) (c123 f nm)).eq d K
theorem l72 {σ : AS} {j e : Nat} {g : Bool} {nm : List UInt8} (hg : σ.h.get j = some (.cells [.s nm] e g)) {x : AV} {l : List Fld} (hl : l.length <= 1000000) (hx : fz T0 σ.h 3 x = some (.lst (l.map az))) {d : Nat} {K : AV -> AS -> Prop} : oC T0 d 72 [x, .fn 123 [] [.ptr j 0]] σ K = K (.i .i64 (fY (fun f => f.name == nm) l)) σ := by
 refine (R.lent (m := 3) (args' := [.lst (l.map az), .fn 123 [] [.iptr [.s nm]]]) (by kernel_rfl) (by kernel_rfl) (by kernel_rfl) ?_ rfl rfl rfl (bp hx (bp (fz_cl hg 0) rfl)) (c72d l nm hl)).eq d K
 show (x.idfree && (false && true)) = false
 cases x.idfree <;> rfl
theorem x122 (a0 a1 : AV) {σ : AS} {Q : AV -> AS -> Prop} (h : w122 (av T0) a0 a1 σ Q) : ∃ r σ', Runs T0 122 [a0, a1] σ r σ' /\ Q r σ' :=
 Runs.ex (by kernel_rfl) (by kernel_rfl) (show T0.fn 122 = some Tryz.f122 by kernel_rfl) (by kernel_rfl) (by kernel_rfl) (by kernel_rfl) (by rw [w122_eq] at h; exact h)
def mF (Z : List AV) : Prop := AV.idfree.idfrees Z = true /\ ∃ k, Z.length = k * (5 + 1)
def fm (nm : List UInt8) (f : Fld) : Bool := !(f.name == nm)
theorem dlsuf {T : Tab} {α : Type} {enc : α -> AV} {t e z by_ : Nat} {h : Tr AB} {id w N : Nat} (E : El T enc t e z by_) (hw : w < N) : aL T h t (.sl id 0 N none) (some (.i .i64 (w : Nat))) none none = some (.sl id (w * (z + 1)) (N - w) none) := by
 have b1 : eF N N none = some N := rfl
 have b2 : eF N 0 (some (.i .i64 (w : Nat))) = some w := by
  simp only [eF, bnd]; rw [if_pos ⟨by omega, by omega⟩]; simp
 have b : bM N none (some (.i .i64 (w : Nat))) none none = some (w, N, none) := by
  simp only [bM, Option.getD_none, b1, b2]
 refine ic ?_
 unfold cS
 simp only [E.ty, E.sz, b]
 cases w with
 | zero => simp
 | succ w =>
  rw [Nat.ble_eq_true_of_le (show w + 1 + 1 <= N from hw)]
  simp only [Nat.zero_add]
theorem sV (cs : List AV) : ∀ n, (di cs n).length = n * cs.length
 | 0 => by simp [di]
 | n + 1 => by rw [di, List.length_append, sV cs n, Nat.add_mul]; omega
theorem ry {cs : List AV} (h : aQ cs = true) : ∀ n, aQ (di cs n) = true
 | 0 => rfl
 | n + 1 => by rw [di, kj, h, ry h n]; rfl
theorem rz {cs : List AV} (h : AV.idfree.idfrees cs = true) : ∀ n, AV.idfree.idfrees (di cs n) = true
 | 0 => rfl
 | n + 1 => by rw [di, dw, h, rz h n]; rfl
theorem c122 {h : Tr AB} {n id j0 e : Nat} {g : Bool} {nm : List UInt8} (l : List Fld) (hlp : 0 < l.length) (hl : l.length <= 1000000) (hid : id < n) (hj0 : j0 < n) (hne : j0 ≠ id) (hg : cD h id l) (hc : h.get j0 = some (.cells [.s nm] e g)) :
  ∃ r σ', Runs T0 122 [.sl id 0 l.length none, .fn 123 [] [.ptr j0 0]] ⟨h, n⟩ r σ' /\ r = .sl id 0 (l.filter (fm nm)).length none /\ n <= σ'.n /\ (∃ Z, mF Z /\ σ'.h.get id = some (.cells (ay az (l.filter (fm nm)) ++ Z) 52 true)) := by
 refine x122 _ _ ?_
 unfold w122
 dsimp only [av]
 have hx : fz T0 h 3 (.sl id 0 l.length none) = some (.lst (l.map az)) := by
  have := mh (cap := none) (g := true) (C := []) elF.rowT (RowE.mapE elF l) (h := h) (id := id) (by rw [List.append_nil, <- bR]; exact hg)
  rw [List.length_map] at this; exact this
 rw [l72 (σ := ⟨h, n⟩) hc hl hx]
 by_cases hall : l.all (fun f => !(f.name == nm)) = true
 ·rw [gX hall, bG, aa, decide_eq_true rfl, aG]
  have hfl : l.filter (fm nm) = l := List.filter_eq_self.2 (fun f hf => List.all_eq_true.1 hall f hf)
  rw [hfl]
  exact ⟨rfl, Nat.le_refl _, [], ⟨rfl, 0, rfl⟩, by rw [List.append_nil]; exact hg⟩
 ·have hlt : l.findIdx (fun f => f.name == nm) < l.length := by
   rw [List.findIdx_lt_length]
   simp only [List.all_eq_true, Bool.not_eq_true'] at hall
   have : ∃ x, ¬ (x ∈ l -> (x.name == nm) = false) := Classical.not_forall.1 hall
   obtain ⟨x, hx⟩ := this
   have h1 : x ∈ l := Classical.byContradiction fun q => hx (fun q2 => absurd q2 q)
   exact ⟨x, h1, by cases hq : (x.name == nm) with | true => rfl | false => exact absurd (fun _ => hq) hx⟩
  obtain ⟨i, hi⟩ : ∃ i, i = l.findIdx (fun f => f.name == nm) := ⟨_, rfl⟩
  rw [<- hi] at hlt
  have hix : fY (fun f : Fld => f.name == nm) l = (i : Nat) := by unfold fY; rw [<- hi, if_pos hlt]
  have hq : (l[i].name == nm) = true := by subst hi; exact List.findIdx_getElem (w := hlt)
  have hbefore : ∀ f ∈ l.take i, fm nm f = true := fun f hf => by
   rw [List.mem_take_iff_getElem] at hf
   obtain ⟨k, hk, rfl⟩ := hf
   have := List.not_of_lt_findIdx (p := fun f : Fld => f.name == nm) (xs := l) (i := k) (by rw [<- hi]; omega)
   unfold fm; simpa using this
  have hsplit : l = l.take i ++ l[i] :: l.drop (i + 1) := by
   conv => lhs; rw [<- List.take_append_drop i l, List.drop_eq_getElem_cons hlt]
  have hfil : l.filter (fm nm) = l.take i ++ (l.drop (i + 1)).filter (fm nm) := by
   conv => lhs; rw [hsplit, List.filter_append, List.filter_cons_of_neg (by unfold fm; rw [hq]; exact Bool.false_ne_true)]
   rw [List.filter_eq_self.2 hbefore]
  have e1 : ((i : Nat) : Int) + 1 = ((i + 1 : Nat) : Int) := by omega
  rw [hix, bG, aa, decide_eq_false (by omega), aA, aC, aa, cx (by omega) (by omega), e1]
  refine gJ (X := (List Fld × List Fld × List Fld) × (Nat × Nat)) (fun x => .i .i64 (x.2.1 : Nat)) (fun _ => .sl id 0 l.length none) (fun _ => .fn 123 [] [.ptr j0 0]) (fun x => .i .i64 (x.2.2 : Nat))
   (fun x σ => x.2.1 = x.1.1.length /\ x.2.2 = x.1.1.length + x.1.2.1.length /\ n <= σ.n /\ x.1.2.1 ≠ [] /\ x.1.1 ++ x.1.2.2.filter (fm nm) = l.filter (fm nm) /\ x.1.1.length + x.1.2.1.length + x.1.2.2.length = l.length /\ cD σ.h id (x.1.1 ++ x.1.2.1 ++ x.1.2.2) /\ σ.h.get j0 = some (.cells [.s nm] e g)) (fun x => x.1.2.2.length) ?_ ((l.take i, [l[i]], l.drop (i + 1)), (i, i + 1)) _
   ⟨by dsimp only; rw [List.length_take]; omega, by dsimp only; rw [List.length_take, List.length_singleton]; omega, Nat.le_refl _, by simp, hfil.symm, by dsimp only; rw [List.length_take, List.length_singleton, List.length_drop]; omega, by
    have : l.take i ++ [l[i]] ++ l.drop (i + 1) = l := by rw [List.append_assoc]; exact hsplit.symm
    dsimp only; rw [this]; exact hg, hc⟩
  clear hx hix hq hbefore hsplit hfil e1 hi hlt hg hc hall
  rintro R ⟨⟨K, G, D⟩, w, jj⟩ ⟨h1, n1⟩ ⟨hw, hj, hn, hG, hf, hl2, hr, hc⟩ hR
  dsimp only at hw hj hn hG hf hl2 hr hc hR |-
  subst hw; subst hj
  have hGl := mT hG
  rw [fM elF.ty, aa, cw, aa]
  cases D with
  | nil =>
   rw [List.length_nil] at hl2
   rw [List.filter_nil, List.append_nil] at hf
   rw [List.append_nil] at hr
   rw [decide_eq_false (by omega), aA, dlsuf elF (by omega), aa]
   obtain ⟨zv, z1, z2⟩ := zr_52
   have zl : zv.cells.length = 5 + 1 := by rw [z2]; rfl
   obtain ⟨m, hm⟩ : ∃ m, l.length - K.length = m + 1 := ⟨l.length - K.length - 1, by omega⟩
   have st : bN (ay az (K ++ G)) (K.length * (5 + 1)) (di zv.cells (m + 1)) = some (ay az K ++ di zv.cells (m + 1)) := by
    rw [cL, <- bV elF]
    have lg : (di zv.cells (m + 1)).length = (ay az G).length := by rw [sV, zl, bV elF, <- hm]; congr 1; omega
    rw [ly _ _ _ (by omega), List.drop_of_length_le (by omega), List.append_nil]
   have lf : aQ (di zv.cells (m + 1)) = true := ry (by rw [z2]; rfl) _
   have cl : dY T0 ⟨h1, n1⟩ 33 (.sl id (K.length * (5 + 1)) (l.length - K.length) none) = some (.tup [], ⟨h1.put id (some (.cells (ay az K ++ di zv.cells (m + 1)) 52 true)), n1⟩) := by
    rw [hm]
    unfold dY
    have hr2 : h1.get id = some (.cells (ay az (K ++ G)) 52 true) := hr
    simp only [elF.ty, z1, hr2, lf, st]
   rw [cl, aM, dl22 elF (by omega), aa]
   exact ⟨by rw [hf], hn, di zv.cells (m + 1), ⟨rz (by rw [z2]; rfl) _, m + 1, by rw [sV, zl]⟩, by rw [<- hf]; exact af _ _ _⟩
  | cons f D =>
   rw [List.length_cons] at hl2
   have hjn : j0 ≠ n1 := by omega
   have hin : id ≠ n1 := by omega
   have hr0 : cD h1 id ((K ++ G) ++ f :: D) := hr
   have lkg : (K ++ G).length = K.length + G.length := List.length_append
   have ldf : ac T0 h1 52 (.ptr id ((K.length + G.length) * (5 + 1))) = some (az f) := by
    rw [<- lkg, rl hr0 (by simp only [List.length_append, List.length_cons]; omega), fZ]
   have c2 : (⟨(h1.put n1 (some (.cells [.s [], .i .i64 0, .i .i64 0, .s [], .nilz true, .nilz true] 52 false))).put n1 (some (.cells (az f).cells 52 false)), n1 + 1⟩ : AS).h.get j0 = some (.cells [.s nm] e g) := by dsimp only; rw [ae _ _ hjn, ae _ _ hjn]; exact hc
   have hr3 : cD ((h1.put n1 (some (.cells [.s [], .i .i64 0, .i .i64 0, .s [], .nilz true, .nilz true] 52 false))).put n1 (some (.cells (az f).cells 52 false))) id (K ++ G ++ f :: D) := by unfold cD; rw [ae _ _ hin, ae _ _ hin]; exact hr
   have ld2 : ac T0 ((h1.put n1 (some (.cells [.s [], .i .i64 0, .i .i64 0, .s [], .nilz true, .nilz true] 52 false))).put n1 (some (.cells (az f).cells 52 false))) 52 (.ptr n1 0) = some (az f) := by
    rw [cN, af, bP (Nat.zero_le _)]; exact iH f
   have e3 : ((K.length + G.length : Nat) : Int) + 1 = ((K.length + G.length + 1 : Nat) : Int) := by omega
   rw [decide_eq_true (by omega), aG, ca, jz (by omega), aa, ldf, aa, aS, tX, aF]
   dsimp only
   rw [ld2, aa, l123 c2, cJ, aa]
   cases hk : (f.name == nm)
   ·obtain ⟨g0, G', rfl⟩ : ∃ g0 G', G = g0 :: G' := by
     cases G with
     | nil => exact absurd rfl hG
     | cons a b => exact ⟨a, b, rfl⟩
    have hr4 : cD ((h1.put n1 (some (.cells [.s [], .i .i64 0, .i .i64 0, .s [], .nilz true, .nilz true] 52 false))).put n1 (some (.cells (az f).cells 52 false))) id (K ++ g0 :: (G' ++ f :: D)) := by simpa using hr3
    have stf : aB T0 ((h1.put n1 (some (.cells [.s [], .i .i64 0, .i .i64 0, .s [], .nilz true, .nilz true] 52 false))).put n1 (some (.cells (az f).cells 52 false))) 52 (.ptr id (K.length * (5 + 1))) (az f) = some (((h1.put n1 (some (.cells [.s [], .i .i64 0, .i .i64 0, .s [], .nilz true, .nilz true] 52 false))).put n1 (some (.cells (az f).cells 52 false))).put id (some (.cells (ay az (K ++ f :: (G' ++ f :: D))) 52 true))) := by
     have q1 := jK (enc := az) (y := f) (c := (az f).cells) (k := 0) br (l := K ++ g0 :: (G' ++ f :: D)) (i := K.length) (by simp) (cb _ _ (by rw [br, br]))
     rw [kp] at q1
     exact dU tT hr4 (br f) (lU f) q1
    rw [List.length_cons] at hl2 |-
    have e4 : ((K.length : Nat) : Int) + 1 = ((K.length + 1 : Nat) : Int) := by omega
    have e5 : ((K.length + (G'.length + 1) : Nat) : Int) + 1 = ((K.length + (G'.length + 1) + 1 : Nat) : Int) := by omega
    rw [Bool.not_false, aG]
    dsimp only
    rw [ld2, aa, jz (by omega), aa, stf, aF, aC, aa, cx (by omega) (by omega), e4, aC, aa, cx (by omega) (by omega), e5]
    have := hR ((K ++ [f], G' ++ [f], D), (K.length + 1, K.length + (G'.length + 1) + 1)) ⟨((h1.put n1 (some (.cells [.s [], .i .i64 0, .i .i64 0, .s [], .nilz true, .nilz true] 52 false))).put n1 (some (.cells (az f).cells 52 false))).put id (some (.cells (ay az (K ++ f :: (G' ++ f :: D))) 52 true)), n1 + 1⟩
     ⟨by simp, by simp; omega, by dsimp only; omega, by simp, by rw [<- hf, List.filter_cons_of_pos (by unfold fm; rw [hk]; rfl)]; simp, by simp; omega, by
      have : K ++ [f] ++ (G' ++ [f]) ++ D = K ++ f :: (G' ++ f :: D) := by simp
      dsimp only; rw [this]; exact af _ _ _, by dsimp only; rw [ae _ _ hne]; exact c2⟩ (by dsimp only; rw [List.length_cons]; omega)
    exact this
   ·rw [Bool.not_true, aA, aC, aa, cx (by omega) (by omega), e3]
    have := hR ((K, G ++ [f], D), (K.length, K.length + G.length + 1)) ⟨(h1.put n1 (some (.cells [.s [], .i .i64 0, .i .i64 0, .s [], .nilz true, .nilz true] 52 false))).put n1 (some (.cells (az f).cells 52 false)), n1 + 1⟩
     ⟨rfl, by dsimp only; rw [List.length_append, List.length_singleton]; omega, by dsimp only; omega, by simp, by rw [<- hf, List.filter_cons_of_neg (by unfold fm; rw [hk]; exact Bool.false_ne_true)], by dsimp only; rw [List.length_append, List.length_singleton]; omega, by simpa using hr3, c2⟩ (by dsimp only; rw [List.length_cons]; omega)
    exact this
def RowOut (f : Nat) (args : List AV) (l' : List Fld) : Prop := (l' = [] /\ ∃ t, R T0 f args (.nilz t)) ∨ ∃ Z, mF Z /\ RA T0 f args l'.length (.cells (ay az l' ++ Z) 52 true)
theorem RowOut.mk {f : Nat} {args : List AV} {l' : List Fld} {fn : Func} {c : Code} (h1 : T0.prim f = none) (h2 : fI T0 f args = none) (h3 : T0.fn f = some fn) (h4 : fn.body = some c) (h5 : T0.opened f = true) (hm : T0.mode f = 1) (h6 : AV.idfree.idfrees args = true) (h7 : AV.norm.norms args = args) {an : AN}
  (hv : bI (av T0) T0 fn c an args ⟨.nil, 0⟩ (fun r1 σ1 => (l' = [] /\ ∃ t, r1 = .nilz t) ∨ ∃ id Z, mF Z /\ r1 = .sl id 0 l'.length none /\ σ1.h.get id = some (.cells (ay az l' ++ Z) 52 true))) : RowOut f args l' := by
 obtain ⟨k, r1, σ1, e1, hq⟩ := dq hv
 rcases hq with ⟨hl, t, rfl⟩ | ⟨id, Z, hZ, rfl, hg⟩
 ·refine .inl ⟨hl, t, k + 1, fun σ => ?_⟩
  unfold aJ
  simp only [h1, h2, h3, h4, h5, hm, h6, h7, e1, km]
 ·refine .inr ⟨Z, hZ, k + 1, fun σ => ?_⟩
  have hcs : AV.idfree.idfrees (ay az l' ++ Z) = true := by rw [dw, eP elF, hZ.1]; rfl
  unfold aJ
  simp only [h1, h2, h3, h4, h5, hm, h6, h7, e1, km, hg, hcs]
theorem c122n {σ : AS} {j0 e : Nat} {g b : Bool} {nm : List UInt8} (hc : σ.h.get j0 = some (.cells [.s nm] e g)) : ∃ r σ', Runs T0 122 [.nilz b, .fn 123 [] [.ptr j0 0]] σ r σ' /\ r = .nilz b := by
 refine x122 _ _ ?_
 unfold w122
 dsimp only [av]
 rw [l72 (l := []) hc (by decide) (cC (T := T0) (h := σ.h) 2 (a := .nilz b) rfl)]
 rw [show fY (fun f : Fld => f.name == nm) [] = -1 from rfl, bG, aa, decide_eq_true rfl, aG]
def eJ (v : Val) (nm : List UInt8) : List Fld := if v.kind = 5 then v.fields.filter (fm nm) else []
theorem c108 (v : Val) (nm : List UInt8) (sm : smV v) : RowOut 108 [aj v, .s nm] (eJ v nm) := by
 obtain ⟨-, ls, ll, lf, ol, of_⟩ := bJ sm
 refine RowOut.mk (an := an108) (by kernel_rfl) (by kernel_rfl) (show T0.fn 108 = some Tryz.f108 by kernel_rfl) (show Tryz.f108.body = some (bx Tryz.f108) by kernel_rfl) (by kernel_rfl) (by kernel_rfl) (by rw [aw]; rfl) (by rw [aw]; rfl) ?_
 rw [<- w108_eq]
 unfold w108
 dsimp only [av]
 rw [aS, aS]
 dsimp only
 simp only [Nat.zero_add, Nat.reduceAdd, bT]
 have b0 : ((Tr.nil.put 0 (some (.cells (aj v).cells 35 false))).put 1 (some (.cells (AV.s nm).cells 9 false)) : Tr AB).get 0 = some (.cells (aH v (.lst (v.list.map aj)) (.lst (v.fields.map az))) 35 false) := by
  rw [ae _ _ (by decide), af, fN]
 have b1 : ((Tr.nil.put 0 (some (.cells (aj v).cells 35 false))).put 1 (some (.cells (AV.s nm).cells 9 false)) : Tr AB).get 1 = some (.cells [.s nm] 9 false) := af _ _ _
 generalize ((Tr.nil.put 0 (some (.cells (aj v).cells 35 false))).put 1 (some (.cells (AV.s nm).cells 9 false)) : Tr AB) = h at b0 b1 |-
 have k0 : ac T0 h 3 (.ptr 0 0) = some (.i .i64 v.kind) := by rw [cM b0 (Nat.zero_le _)]; exact nU _ _
 rw [aa, k0, aa, cG, aa]
 by_cases hk : v.kind = 5
 ·rw [decide_eq_false (fun q => q hk), aA, aa, l4 b0, aa]
  rw [show eJ v nm = v.fields.filter (fm nm) from if_pos hk]
  obtain ⟨σ3, q1, q2, q3, q4, q5⟩ := q78 (l := v.fields) (by omega) ⟨h, 2⟩
  dsimp only at q1 q2 q3 q4 q5
  rw [q1]
  have c3 := (q2 1 (by decide)).trans b1
  cases hv : v.fields with
  | nil =>
   obtain ⟨r, σ', hr, rfl⟩ := c122n (b := false) c3
   rw [show bB ([] : List Fld) 2 = .nilz false from rfl, hr.eq]
   exact .inl ⟨rfl, false, rfl⟩
  | cons f fs =>
   rw [<- hv]
   have hpos : 0 < v.fields.length := by rw [hv, List.length_cons]; omega
   have hne : v.fields ≠ [] := fun q => by rw [q] at hpos; cases hpos
   have hrow : cD σ3.h 2 v.fields := by have := q5 az hne; rw [gI] at this; exact this
   obtain ⟨r, σ', hr, rfl, hn, Z, hZ, hg⟩ := c122 (h := σ3.h) (n := σ3.n) (id := 2) (j0 := 1) v.fields hpos (by omega) (q4 hne) (by omega) (by decide) hrow c3
   rw [eY hpos, (show Runs T0 122 _ σ3 _ σ' from hr).eq]
   exact .inr ⟨2, Z, hZ, rfl, hg⟩
 ·rw [decide_eq_true hk, aG, show eJ v nm = [] from if_neg hk]
  exact .inl ⟨rfl, true, rfl⟩
def nd (f : Fld) : List Fld -> List Fld
 | [] => [f]
 | g :: l => if ltF g f = true then g :: nd f l else f :: g :: l
def kX : List Fld -> List Fld
 | [] => []
 | f :: l => nd f (kX l)
theorem gu (f : Fld) : ∀ l, (nd f l).Perm (f :: l)
 | [] => List.Perm.refl _
 | g :: l => by
  rw [nd]; split
  ·exact ((gu f l).cons g).trans (List.Perm.swap f g l)
  ·exact List.Perm.refl _
theorem qq (f : Fld) : ∀ l, Srt ltF l -> Srt ltF (nd f l)
 | [], _ => List.pairwise_singleton _ _
 | g :: l, h => by
  have h1 := List.pairwise_cons.1 h
  rw [nd]; split
  ·rename_i hg
   refine List.pairwise_cons.2 ⟨fun y hy => ?_, qq f l h1.2⟩
   rcases List.mem_cons.1 ((gu f l).mem_iff.1 hy) with rfl | hy
   ·exact ordF.asym _ _ hg
   ·exact h1.1 y hy
  ·rename_i hg
   have hg : ltF g f = false := by simpa using hg
   refine List.pairwise_cons.2 ⟨fun y hy => ?_, h⟩
   rcases List.mem_cons.1 hy with rfl | hy
   ·exact hg
   ·exact ordF.trans f g y hg (h1.1 y hy)
theorem gq : ∀ l, (kX l).Perm l
 | [] => List.Perm.refl _
 | f :: l => (gu f _).trans ((gq l).cons f)
theorem pO : ∀ l, Srt ltF (kX l)
 | [] => List.Pairwise.nil
 | f :: l => qq f _ (pO l)
theorem tY (l : List Fld) : (kX l).length = l.length := (gq l).length_eq
def Dif (l : List Fld) : Prop := l.Pairwise (fun a b => a.name ≠ b.name)
theorem Dif.perm {l l' : List Fld} (h : Dif l) (p : l.Perm l') : Dif l' := (p.pairwise_iff (fun h e => h e.symm)).1 h
theorem Dif.eq {l : List Fld} (h : Dif l) : ∀ x ∈ l, ∀ y ∈ l, x.name = y.name -> x = y := by
 induction l with
 | nil => intro x hx; cases hx
 | cons a l ih =>
  have h1 := List.pairwise_cons.1 h
  intro x hx y hy e
  rcases List.mem_cons.1 hx with p | p <;> rcases List.mem_cons.1 hy with q | q
  ·rw [p, q]
  ·exact absurd (p ▸ e) (h1.1 y q)
  ·exact absurd (q ▸ e.symm) (h1.1 x p)
  ·exact ih h1.2 x p y q e
theorem bl_eq : ∀ (a b : List UInt8), Op.bytesLess a b = false -> Op.bytesLess b a = false -> a = b
 | [], [], _, _ => rfl
 | [], _ :: _, h, _ => by simp [Op.bytesLess] at h
 | _ :: _, [], _, h => by simp [Op.bytesLess] at h
 | x :: a, y :: b, h1, h2 => by
  have ih := bl_eq a b
  simp only [Op.bytesLess] at h1 h2
  rcases Nat.lt_trichotomy x.toNat y.toNat with q | q | q
  ·have h3 : x < y := q
   simp [h3] at h1
  ·obtain rfl : x = y := UInt8.toNat_inj.1 q
   have h3 : ¬ x < x := fun h => absurd (show x.toNat < x.toNat from h) (by omega)
   simp [h3] at h1 h2
   rw [ih h1 h2]
  ·have h3 : y < x := q
   simp [h3] at h2
theorem rq {l l' : List Fld} (hd : Dif l) (p : l'.Perm l) (s : Srt ltF l') : l' = kX l :=
 pM s (pO l) (p.trans (gq l).symm) (fun x hx y hy h1 h2 => hd.eq x (p.mem_iff.1 hx) y (p.mem_iff.1 hy) (bl_eq _ _ h1 h2))
theorem c136n {σ : AS} {b : Bool} : ∃ r σ', Runs T0 136 [.nilz b, .i .i64 0, .i .i64 0, .fn 105 [] []] σ r σ' /\ r = .tup [] /\ σ' = σ := by
 refine x136 _ _ _ _ ?_
 unfold w136
 dsimp only [av]
 simp (disch := first | omega | assumption | (intros; simp only [dl2]; try omega)) only [aa, aC, cx]
 refine gW (X := Unit) (fun _ => .nilz b) (fun _ => .fn 105 [] []) (fun _ => .i .i64 0) (fun _ => .i .i64 0) (fun _ => .i .i64 (0 + 1)) (fun _ s => s = σ) (fun _ => 0) ?_ () σ rfl
 rintro R x s rfl hR
 rw [cw, aa, decide_eq_false (by decide), aA]
 first | exact ⟨rfl, rfl⟩ | exact ⟨trivial, rfl⟩ | trivial | simp
theorem c104n {σ : AS} {b : Bool} : ∃ r σ', Runs T0 104 [.nilz b, .fn 105 [] []] σ r σ' /\ r = .tup [] /\ σ' = σ := by
 obtain ⟨r1, s1, h136, rfl, rfl⟩ := c136n (σ := σ) (b := b)
 have h120 : ∃ r σ', Runs T0 120 [.nilz b, .i .i64 0, .fn 105 [] []] s1 r σ' /\ r = .tup [] /\ σ' = s1 := by
  refine x120 _ _ _ ?_
  unfold w120
  dsimp only [av]
  refine uG (X := Unit) (fun _ => .fn 105 [] []) (fun _ => .i .i64 0) (fun _ => .nilz b) (fun _ => .i .i64 20) (fun _ => .i .i64 0) (fun _ => .i .i64 20) (fun _ s => s = s1) (fun _ => 0) ?_ () s1 rfl
  rintro R x s rfl hR
  rw [gN, aa, decide_eq_false (by decide), aA, h136.eq]
  refine gJ (X := Unit) (fun _ => .fn 105 [] []) (fun _ => .i .i64 0) (fun _ => .nilz b) (fun _ => .i .i64 20) (fun _ t => t = s) (fun _ => 0) ?_ () s rfl
  rintro R x t rfl hR
  rw [cw, aa, decide_eq_false (by decide), aA]
  exact ⟨rfl, rfl⟩
 obtain ⟨r2, s2, h120, rfl, rfl⟩ := h120
 refine x104 _ _ ?_
 unfold w104
 dsimp only [av]
 have hlen : ak T0 s2.h .len [33] [.nilz b] = some (.i .i64 0) := by simp [ak, elF.ty]
 rw [hlen, aa, h120.eq]
 exact ⟨rfl, rfl⟩
theorem sortV {σ : AS} {id : Nat} (l : List Fld) (hl : l.length <= 1000000) (hg : l ≠ [] -> cD σ.h id l) :
  ∃ σ', (∃ r, Runs T0 104 [bB l id, .fn 105 [] []] σ r σ') /\ σ'.n = σ.n /\ (∀ j, j ≠ id -> σ'.h.get j = σ.h.get j) /\ ∃ l', l'.Perm l /\ Srt ltF l' /\ (l' ≠ [] -> cD σ'.h id l') /\ bB l' id = bB l id := by
 cases hv : l with
 | nil =>
  obtain ⟨r, σ', hr, rfl, rfl⟩ := c104n (σ := σ) (b := false)
  exact ⟨σ', ⟨_, hr⟩, rfl, fun j _ => rfl, [], List.Perm.refl _, List.Pairwise.nil, fun q => absurd rfl q, rfl⟩
 | cons f fs =>
  rw [<- hv]
  have hpos : 0 < l.length := by rw [hv, List.length_cons]; omega
  have hne : l ≠ [] := fun q => by rw [q] at hpos; cases hpos
  obtain ⟨h, n⟩ := σ
  obtain ⟨r, σ', hr, rfl, h2, h3, l', ⟨p, s⟩, h4⟩ := c104 (h := h) (n := n) (id := id) l rfl hl (hg hne)
  have hp' : 0 < l'.length := by rw [p.length_eq]; exact hpos
  exact ⟨σ', ⟨_, by rw [eY hpos]; exact hr⟩, h2, h3, l', p, s, fun _ => h4, by rw [eY hpos, eY hp', p.length_eq]⟩
def cj (l : List Fld) : Val := .mk 5 0 [] [] l
theorem bld5 : aO T0 35 [(0, .i .i64 5)] = some (.agg (aH (cj []) (.nilz true) (.nilz true))) := by kernel_rfl
theorem ou {h : Tr AB} {n m : Nat} {x : AV} {l l' : List Fld} (o : OwnW 52 m h n (l.map az) x) (hm : m <= n) (hl : l.length + l'.length <= 1000000) :
  ∃ x' σ', aD T0 ⟨h, n⟩ 33 33 x (.lst (l'.map az)) = some (x', σ') /\ OwnW 52 m σ'.h σ'.n ((l ++ l').map az) x' /\ n <= σ'.n /\ ∀ j, j < m -> σ'.h.get j = h.get j := by
 have := appW (h := h) elF.rowT o hm (RowE.mapE elF l) (RowE.mapE elF l') (gA (by decide) (by rw [List.length_map, List.length_map]; exact hl))
 rwa [<- List.map_append] at this
theorem rl9 {h : Tr AB} {id i : Nat} {l : List Fld} (hg : cD h id l) (hi : i < l.length) : ac T0 h 9 (.ptr id (i * (5 + 1))) = some (.s (l.getD i default).name) := by
 have e := lR (enc := az) (encD := az) br hi
 rw [gI] at e
 rw [cM hg (by rw [dO br]; exact Nat.mul_le_mul_right _ (by omega)), e, bk]
 exact lM _ _
theorem yI {h : Tr AB} (v : Val) : fz T0 h 1 (aj v) = some (aj v) := by
 rw [cC 0 (by rw [aw]; rfl), aw]; rfl
theorem iX {l : List Fld} {j : Nat} (hj : j < l.length) : l.take (j + 1) = l.take j ++ [l.getD j default] := by
 rw [List.take_add_one, List.getElem?_eq_getElem hj]; simp [List.getD_eq_getElem?_getD, hj]
theorem flF (l : List Fld) : AV.idfree.idfrees (aN (l.map az)) = true := by rw [<- bR]; exact eP elF l
theorem smMap {l : List Fld} (hl : l.length <= 100000) (ho : ∀ f ∈ l, smF f) : smV (cj l) := smV.of ⟨show (Lit.int .i64 5).wf = true by decide, show (Lit.int .i64 0).wf = true by decide⟩ (by simp [cj, Val.s]) (by simp [cj, Val.list]) hl (fun x hx => by cases hx) ho
theorem g107 {σ : AS} {m : Nat} {x : AV} {l : List Fld} (o : OwnW 52 m σ.h σ.n (l.map az) x) (hl : l.length <= 100000) (ho : ∀ f ∈ l, smF f) :
  ∃ σ', Runs T0 107 [.agg (aH (cj []) (.nilz true) x)] σ (aj (cj l)) σ' /\ σ'.n = σ.n /\ ∀ j, j < m -> σ'.h.get j = σ.h.get j := by
 have hr := c107 _ (cj l) (Nat.le_refl _) (smMap hl ho)
 have hz : cV (fz T0 σ.h 4) [.agg (aH (cj []) (.nilz true) x)] = some [aj (cj l)] :=
  bp (eA (v := cj []) (l := []) (f := l) (cC 2 (a := .nilz true) rfl) (fzW elF.rowT (RowE.mapE elF l) o)) rfl
 cases hi : AV.idfree.idfrees [.agg (aH (cj []) (.nilz true) x)] with
 | true =>
  refine ⟨σ, R.runs ?_ σ, rfl, fun j _ => rfl⟩
  refine R.nrmH (by kernel_rfl) (by kernel_rfl) (by kernel_rfl) (.inl (by kernel_rfl)) hi (fG _) ?_ hr
  rw [cZ 3 _ hi] at hz
  exact (Option.some.inj hz).trans (gG _).symm
 | false =>
  obtain ⟨k, hk⟩ := Runs.give (T := T0) (f := 107) (σ := σ) (by kernel_rfl) (by kernel_rfl) (by kernel_rfl) (.inr (by kernel_rfl)) hi (fG _) (gG _) hz hr
  refine ⟨_, hk, rfl, fun j hj => qo ?_ hj⟩
  intro i him
  rw [List.flatMap_cons, List.flatMap_nil, List.append_nil] at him
  cases k with
  | zero => cases him
  | succ k =>
   have hi2 : (AV.agg (aH (cj []) (.nilz true) x)).idfree = false := by
    cases h : (AV.agg (aH (cj []) (.nilz true) x)).idfree
    ·rfl
    ·rw [<- hi]; simp only [AV.idfree.idfrees, h]; rfl
   unfold Go.Proofs.YtmfhmlhaofpeiaaGreatDoor.Ev.rch at him
   rw [hi2] at him
   simp only [aH, List.flatMap_cons, List.flatMap_nil, iy (show (AV.i .i64 (cj []).kind).idfree = true from rfl), iy (show (AV.i .i64 (cj []).n).idfree = true from rfl), iy (show (AV.s (cj []).s).idfree = true from rfl), iy (show (AV.nilz true).idfree = true from rfl), List.nil_append, List.append_nil] at him
   exact o.rch (flF l) k i him
theorem c85 (l : List Fld) (hl : l.length <= 100000) (ho : ∀ f ∈ l, smF f) (hd : Dif l) : R T0 85 [.lst (l.map az)] (aj (cj (kX l))) := by
 refine R.mkG (an := an85) (by kernel_rfl) (by kernel_rfl) (show T0.fn 85 = some Tryz.f85 by kernel_rfl) (show Tryz.f85.body = some (bx Tryz.f85) by kernel_rfl) (by kernel_rfl) (by kernel_rfl) (by show AV.idfree.idfrees [.lst _] = true; rfl) (by rfl) ?_
 rw [<- w85_eq]
 unfold w85
 dsimp only [av]
 rw [aS]
 simp only [Nat.zero_add]
 obtain ⟨σ3, q1, q2, q3, q4, q5⟩ := q78 (l := l) (by omega) ⟨Tr.nil.put 0 (some (.cells [.i .i64 0, .i .i64 0, .s [], .nilz true, .nilz true] 35 false)), 1⟩
 dsimp only at q1 q2 q3 q4 q5
 have g0 := (q2 0 (by decide)).trans (af _ _ _)
 rw [q1]
 obtain ⟨σ4, ⟨r, hrun⟩, n4, k4, l', p, s, hrow, hv⟩ := sortV (σ := σ3) (id := 1) l (by omega) (fun hne => by have := q5 az hne; rw [gI] at this; exact this)
 have hl' := p.length_eq
 have hd' : Dif l' := hd.perm p.symm
 have ho' : ∀ f ∈ l', smF f := fun f hf => ho f (p.mem_iff.1 hf)
 have hm1 : l' ≠ [] -> 1 < σ4.n := fun hne => by
  rw [n4]; exact q4 (fun q => hne (List.eq_nil_of_length_eq_zero (by rw [hl', q]; rfl)))
 have hm0 : 1 <= σ4.n := by rw [n4]; exact q3
 have g0 := (k4 0 (by decide)).trans g0
 rw [hrun.eq, <- hv, <- rq hd p s, bld5, aa, aS]
 clear q1 q2 q3 q4 q5 hrun n4 k4 p s hv hd
 obtain ⟨h4, m⟩ := σ4
 dsimp only at g0 hm0 hm1 hrow |-
 rw [gz rfl (af _ _ _) rfl rfl, aF, iw elF.ty, aa]
 refine uG (X := Nat) (fun _ => .ptr 0 0) (fun _ => .ptr m 0) (fun _ => bB l' 1) (fun _ => bB l' 1) (fun _ => .i .i64 (l'.length : Nat)) (fun j => .i .i64 (j : Nat))
  (fun j σ => j <= l'.length /\ m < σ.n /\ σ.h.get 0 = some (.cells [.i .i64 0, .i .i64 0, .s [], .nilz true, .nilz true] 35 false) /\ (l' ≠ [] -> cD σ.h 1 l') /\ ∃ x, σ.h.get m = some (.cells (aH (cj []) (.nilz true) x) 35 false) /\ OwnW 52 (m + 1) σ.h σ.n ((l'.take j).map az) x) (fun j => l'.length - j) ?_ 0 _
  ⟨Nat.zero_le _, by dsimp only; omega, ?_, ?_, .nilz true, af _ _ _, OwnW.none⟩
 ·rintro R j ⟨h, n⟩ ⟨hj, hn, b0, hrow, x, bm, o⟩ hR
  dsimp only at hj hn b0 hrow bm o hR |-
  rw [cw, aa]
  refine aU (fun hlt => ?_) (fun hge => ?_)
  ·have hj' : j < l'.length := by omega
   have hne : l' ≠ [] := fun q => by rw [q] at hj'; cases hj'
   have hm1 := hm1 hne
   have hrow := hrow hne
   have e1 : cD ((h.put n (some (.cells [.s [], .i .i64 0, .i .i64 0, .s [], .nilz true, .nilz true] 52 false))).put n (some (.cells (az (l'.getD j default)).cells 52 false))) 1 l' := by
    unfold cD; rw [ae _ _ (by omega), ae _ _ (by omega)]; exact hrow
   rw [join6_eq, eZ elF.ty elF.sz hj', aa, rl hrow hj', aa, aS, tX, aF]
   have e2 : ((h.put n (some (.cells [.s [], .i .i64 0, .i .i64 0, .s [], .nilz true, .nilz true] 52 false))).put n (some (.cells (az (l'.getD j default)).cells 52 false))).get m = some (.cells (aH (cj []) (.nilz true) x) 35 false) := by
    rw [ae _ _ (by omega), ae _ _ (by omega)]; exact bm
   have e3 : ((h.put n (some (.cells [.s [], .i .i64 0, .i .i64 0, .s [], .nilz true, .nilz true] 52 false))).put n (some (.cells (az (l'.getD j default)).cells 52 false))).get 0 = some (.cells [.i .i64 0, .i .i64 0, .s [], .nilz true, .nilz true] 35 false) := by
    rw [ae _ _ (by omega), ae _ _ (by omega)]; exact b0
   have e4 : OwnW 52 (m + 1) ((h.put n (some (.cells [.s [], .i .i64 0, .i .i64 0, .s [], .nilz true, .nilz true] 52 false))).put n (some (.cells (az (l'.getD j default)).cells 52 false))) (n + 1) ((l'.take j).map az) x :=
    o.same (fun i _ hi => by rw [ae _ _ (by omega), ae _ _ (by omega)]) (by omega)
   have e5 : ac T0 ((h.put n (some (.cells [.s [], .i .i64 0, .i .i64 0, .s [], .nilz true, .nilz true] 52 false))).put n (some (.cells (az (l'.getD j default)).cells 52 false))) 52 (.ptr n 0) = some (az (l'.getD j default)) := by
    rw [cN, af, bP (Nat.zero_le _)]; exact iH _
   have e6 : ac T0 ((h.put n (some (.cells [.s [], .i .i64 0, .i .i64 0, .s [], .nilz true, .nilz true] 52 false))).put n (some (.cells (az (l'.getD j default)).cells 52 false))) 9 (.ptr n (0 + 0)) = some (.s (l'.getD j default).name) := by
    rw [cN, af, bP (Nat.zero_le _)]; exact dQ _
   generalize ((h.put n (some (.cells [.s [], .i .i64 0, .i .i64 0, .s [], .nilz true, .nilz true] 52 false))).put n (some (.cells (az (l'.getD j default)).cells 52 false))) = h6 at e1 e2 e3 e4 e5 e6 |-
   have i1 : ((j : Nat) : Int) + 1 = ((j + 1 : Nat) : Int) := by omega
   simp (disch := first | omega | assumption | (intros; simp only [dl2]; try omega)) only [aa, aC, cx, i1, iw elF.ty, bG]
   have tail : ∀ K : AV -> AV -> AV -> AV -> AV -> AV -> AS -> Prop, (∀ (x' : AV) (σ' : AS), x'.cells = [x'] -> x'.leaf = true -> σ'.h.get m = some (.cells (aH (cj []) (.nilz true) x) 35 false) -> OwnW 52 (m + 1) σ'.h σ'.n ((l'.take (j + 1)).map az) x' -> n + 1 <= σ'.n -> (∀ i, i < m + 1 -> σ'.h.get i = h6.get i) ->
     K (.ptr 0 0) (.ptr m 0) (bB l' 1) (bB l' 1) (.i .i64 (l'.length : Nat)) (.i .i64 (j : Nat)) ⟨σ'.h.put m (some (.cells (aH (cj []) (.nilz true) x') 35 false)), σ'.n⟩) ->
     (oV 35 (am 4 (.ptr m 0)) fun t35 => oV 36 (ac T0 h6 33 t35) fun t36 => oV 37 (ac T0 h6 52 (.ptr n 0)) fun t37 => oV 38 (cE T0 33 1 [(0, t37)]) fun t38 =>
      oM 39 (aD T0 ⟨h6, n + 1⟩ 33 33 t36 t38) fun t39 sx10 => oV 40 (am 4 (.ptr m 0)) fun t40 => oH (aB T0 sx10.h 33 t40 t39) sx10 fun sx11 => K (.ptr 0 0) (.ptr m 0) (bB l' 1) (bB l' 1) (.i .i64 (l'.length : Nat)) (.i .i64 (j : Nat)) sx11) := by
    intro K hK
    obtain ⟨x', σ', ha, hw, hn', hk⟩ := ou (l' := [l'.getD j default]) e4 (by omega) (by rw [List.length_take]; simp only [List.length_cons, List.length_nil]; omega)
    have gm := (hk m (by omega)).trans e2
    rw [bT, aa, Nat.zero_add, l4 e2, aa, e5, aa, eH, aa]
    rw [show aD T0 ⟨h6, n + 1⟩ 33 33 x (.lst [az (l'.getD j default)]) = some (x', σ') from ha, aM, aa, s4 gm hw.cells hw.leaf, aF]
    refine hK x' σ' hw.cells hw.leaf gm ?_ hn' hk
    rw [show l'.take (j + 1) = l'.take j ++ [l'.getD j default] from iX hj']
    exact hw
   have fin : ∀ (x' : AV) (σ' : AS), x'.cells = [x'] -> x'.leaf = true -> σ'.h.get m = some (.cells (aH (cj []) (.nilz true) x) 35 false) -> OwnW 52 (m + 1) σ'.h σ'.n ((l'.take (j + 1)).map az) x' -> n + 1 <= σ'.n -> (∀ i, i < m + 1 -> σ'.h.get i = h6.get i) ->
     R (.ptr 0 0) (.ptr m 0) (bB l' 1) (bB l' 1) (.i .i64 (l'.length : Nat)) (.i .i64 ((j + 1 : Nat) : Int)) ⟨σ'.h.put m (some (.cells (aH (cj []) (.nilz true) x') 35 false)), σ'.n⟩ := by
    intro x' σ' hc hlf hg hw hn' hk
    refine hR (j + 1) ⟨_, _⟩ ⟨by omega, by dsimp only; omega, ?_, fun _ => ?_, x', af _ _ _, hw.same (fun i hi _ => ae _ _ (by omega)) (Nat.le_refl _)⟩ (by omega)
    ·dsimp only; rw [ae _ _ (by omega), hk 0 (by omega)]; exact e3
    ·dsimp only; unfold cD; rw [ae _ _ (by omega), hk 1 (by omega)]; exact e1
   by_cases hjl : j + 1 = l'.length
   ·rw [decide_eq_true (by omega), yc]
    simp (disch := first | omega | assumption | (intros; simp only [dl2]; try omega)) only [aa, bw, aG]
    exact tail (fun a b c d e f s => R a b c d e (.i .i64 ((j + 1 : Nat) : Int)) s) fin
   ·have hnm : (l'.getD (j + 1) default).name ≠ (l'.getD j default).name := by
     have hjn : j + 1 < l'.length := by omega
     have := List.pairwise_iff_getElem.1 hd' j (j + 1) hj' hjn (by omega)
     simp only [List.getD_eq_getElem?_getD, List.getElem?_eq_getElem hj', List.getElem?_eq_getElem hjn, Option.getD_some]
     exact fun e => this e.symm
    rw [decide_eq_false (by omega), yl]
    simp (disch := first | omega | assumption | (intros; simp only [dl2]; try omega)) only [aa, eZ elF.ty elF.sz (show j + 1 < l'.length by omega), bT, rl9 e1 (show j + 1 < l'.length by omega), e6, gn, beq_false_of_ne hnm, Bool.not_false, bK, aG, Nat.add_zero]
    exact tail (fun a b c d e f s => R a b c d e (.i .i64 ((j + 1 : Nat) : Int)) s) fin
  ·clear hR
   have hall : l'.take j = l' := List.take_of_length_le (by omega)
   rw [hall] at o
   rw [l5 bm, aa]
   obtain ⟨σ', hr, hn', hk⟩ := g107 (σ := ⟨h, n⟩) o (by omega) ho'
   rw [hr.eq, dx rfl ((hk 0 (by omega)).trans b0), aF, oK, aa]
   exact ⟨1, _, yI (cj l'), rfl⟩
 ·dsimp only; rw [ae _ _ (by omega), ae _ _ (by omega)]; exact g0
 ·intro hne; have := hm1 hne; dsimp only; unfold cD; rw [ae _ _ (by omega), ae _ _ (by omega)]; exact hrow hne
theorem g85 {σ : AS} {id : Nat} {Z : List AV} {l : List Fld} (hZ : mF Z) (hg : σ.h.get id = some (.cells (ay az l ++ Z) 52 true)) (hl : l.length <= 100000) (ho : ∀ f ∈ l, smF f) (hd : Dif l) :
  ∃ σ', Runs T0 85 [.sl id 0 l.length none] σ (aj (cj (kX l))) σ' /\ σ'.n = σ.n /\ ∀ j, j ≠ id -> σ'.h.get j = σ.h.get j := by
 have hz : cV (fz T0 σ.h 3) [.sl id 0 l.length none] = some [.lst (l.map az)] := by
  have := mh (cap := none) (g := true) (C := Z) elF.rowT (RowE.mapE elF l) (h := σ.h) (id := id) (by rw [<- bR]; exact hg)
  rw [List.length_map] at this
  exact bp this rfl
 obtain ⟨k, hk⟩ := Runs.give (T := T0) (f := 85) (σ := σ) (by kernel_rfl) (by kernel_rfl) (by kernel_rfl) (.inl (by kernel_rfl)) rfl (show AV.idfree.idfrees [.lst (l.map az)] = true from rfl) rfl hz (c85 l hl ho hd)
 refine ⟨_, hk, rfl, fun j hj => ?_⟩
 dsimp only
 rw [fF, if_neg]
 intro hm
 rw [List.flatMap_cons, List.flatMap_nil, List.append_nil] at hm
 exact hj (pb hg (by rw [dw, eP elF, hZ.1]; rfl) k j hm)
theorem app1 {h : Tr AB} {n id : Nat} {Z : List AV} {l : List Fld} (f : Fld) (hZ : mF Z) (hg : h.get id = some (.cells (ay az l ++ Z) 52 true)) (hl : l.length <= 1000000 - 1) :
  ∃ id' σ' Z', aD T0 ⟨h, n⟩ 33 33 (.sl id 0 l.length none) (.lst [az f]) = some (.sl id' 0 (l.length + 1) none, σ') /\ mF Z' /\ σ'.h.get id' = some (.cells (ay az (l ++ [f]) ++ Z') 52 true) /\ (id' = id ∨ id' = n) /\ n <= σ'.n /\ ∀ j, j ≠ id -> j ≠ n -> σ'.h.get j = h.get j := by
 obtain ⟨zv, hzv⟩ := Option.isSome_iff_exists.1 elF.rowT.zr
 have nr := lO (h := h) (RowE.mapE elF [f])
 rw [show aN ([f].map az) = (az f).cells by rw [<- bR, fy]] at nr
 have nr : bO h (5 + 1) 1 (.lst [az f]) = some (az f).cells := nr
 have hs : cq (l.length + 1) 96 = true := gA (by decide) (by omega)
 have hlf : aQ (az f).cells = true := lU f
 have b1 : Nat.beq 52 52 = true := rfl
 obtain ⟨hZ1, k, hk⟩ := hZ
 have hrl : (ay az l).length = l.length * (5 + 1) := bV elF l
 cases k with
 | zero =>
  have hZ0 : Z = [] := List.eq_nil_of_length_eq_zero (by omega)
  subst hZ0
  rw [List.append_nil] at hg
  have b2 : Nat.beq (l.length * (5 + 1)) (ay az l).length = true := by rw [hrl]; exact Nat.beq_refl _
  refine ⟨n, ⟨(h.put id none).put n (some (.cells (ay az l ++ (az f).cells) 52 true)), n + 1⟩, [], ?_, ⟨rfl, 0, rfl⟩, ?_, .inr rfl, Nat.le_succ _, fun j h1 h2 => by dsimp only; rw [ae _ _ h2, ae _ _ h1]⟩
  ·unfold aD
   simp only [elF.ty, elF.sz, elF.bytes, hzv, iJ, List.length_cons, List.length_nil, Nat.zero_add, nr, hg, hlf, hs, b1, b2]
  ·dsimp only; rw [af, cL, fy, List.append_nil]
 | succ k =>
  have b2 : Nat.beq (l.length * (5 + 1)) (ay az l ++ Z).length = false := by
   cases hb : Nat.beq (l.length * (5 + 1)) (ay az l ++ Z).length
   ·rfl
   ·have := Nat.eq_of_beq_eq_true hb; rw [List.length_append, hrl, hk] at this; omega
  have st : bN (ay az l ++ Z) (l.length * (5 + 1)) (az f).cells = some (ay az l ++ ((az f).cells ++ Z.drop (5 + 1))) := by
   rw [<- hrl, show Z.drop (5 + 1) = Z.drop (az f).cells.length by rw [br]]
   exact ly _ _ _ (by rw [br, hk]; omega)
  refine ⟨id, ⟨h.put id (some (.cells (ay az l ++ ((az f).cells ++ Z.drop (5 + 1))) 52 true)), n⟩, Z.drop (5 + 1), ?_, ⟨jg _ hZ1, k, by rw [List.length_drop, hk]; omega⟩, ?_, .inl rfl, Nat.le_refl _, fun j h1 h2 => ae _ _ h1⟩
  ·unfold aD
   simp only [elF.ty, elF.sz, elF.bytes, hzv, iJ, List.length_cons, List.length_nil, Nat.zero_add, nr, hg, hlf, hs, b1, b2, st]
  ·dsimp only; rw [af, cL, fy, List.append_assoc]
theorem bY {h : Tr AB} {id e : Nat} {g : Bool} {w : Val} (hg : h.get id = some (.cells (aj w).cells e g)) : ac T0 h 35 (.ptr id 0) = some (aj w) := by
 rw [cM hg (Nat.zero_le _)]; exact iG w
def io (v : Val) (nm : List UInt8) (x : Val) : Val := cj (kX (eJ v nm ++ [.mk nm x]))
theorem c86 (v : Val) (nm : List UInt8) (x : Val) (sm : smV v) (hn : nm.length <= 100000) (sx : smV x) (hl : (eJ v nm).length + 1 <= 100000) (ho : ∀ f ∈ eJ v nm, smF f) (hd : Dif (eJ v nm ++ [.mk nm x])) : R T0 86 [aj v, .s nm, aj x] (aj (io v nm x)) := by
 refine r86 _ _ _ (by rw [aw, aw]; rfl) (by rw [aw, aw]; rfl) ?_
 unfold w86
 dsimp only [av]
 rw [aS, aS, aS]
 simp only [Nat.zero_add, Nat.reduceAdd]
 have b0 : (((Tr.nil.put 0 (some (.cells (aj v).cells 35 false))).put 1 (some (.cells (aj x).cells 35 false))).put 2 (some (.cells [.i .i64 0, .i .i64 0, .s [], .nilz true, .nilz true] 35 false)) : Tr AB).get 0 = some (.cells (aj v).cells 35 false) := by
  rw [ae _ _ (by decide), ae _ _ (by decide), af]
 have b1 : (((Tr.nil.put 0 (some (.cells (aj v).cells 35 false))).put 1 (some (.cells (aj x).cells 35 false))).put 2 (some (.cells [.i .i64 0, .i .i64 0, .s [], .nilz true, .nilz true] 35 false)) : Tr AB).get 1 = some (.cells (aj x).cells 35 false) := by
  rw [ae _ _ (by decide), af]
 have b2 : (((Tr.nil.put 0 (some (.cells (aj v).cells 35 false))).put 1 (some (.cells (aj x).cells 35 false))).put 2 (some (.cells [.i .i64 0, .i .i64 0, .s [], .nilz true, .nilz true] 35 false)) : Tr AB).get 2 = some (.cells [.i .i64 0, .i .i64 0, .s [], .nilz true, .nilz true] 35 false) := af _ _ _
 generalize (((Tr.nil.put 0 (some (.cells (aj v).cells 35 false))).put 1 (some (.cells (aj x).cells 35 false))).put 2 (some (.cells [.i .i64 0, .i .i64 0, .s [], .nilz true, .nilz true] 35 false)) : Tr AB) = h at b0 b1 b2 |-
 rw [bY b0, aa]
 have ho' : ∀ f ∈ eJ v nm ++ [Fld.mk nm x], smF f := fun f hf => by
  rcases List.mem_append.1 hf with hf | hf
  ·exact ho f hf
  ·rw [List.mem_singleton.1 hf]; exact .of hn sx
 have fin : ∀ (t14 : AV) (σ5 : AS), (∃ σ', Runs T0 85 [t14] σ5 (aj (io v nm x)) σ' /\ σ'.h.get 2 = some (.cells [.i .i64 0, .i .i64 0, .s [], .nilz true, .nilz true] 35 false)) ->
   oC T0 15 85 [t14] σ5 fun t15 sx6 => oD (aY T0 sx6.h 35 (.ptr 2 0) t15) fun i bx1 => oT ((bU sx6.n (gb [[]]) [] [] i []) && (ce [] i [])) (oS ⟨(sx6.h.put i (some bx1)), sx6.n⟩ fun sx7 => oV 6 (ac T0 sx7.h 35 (.ptr 2 0)) fun t6x1 => oZ T0 sx7 t6x1 (fun r2 => r2 = aj (io v nm x))) := by
  rintro t14 σ5 ⟨σ', hr, h2⟩
  rw [hr.eq, ez gw h2 (bg _) (fj _) (cb _ _ (by rw [bg]; rfl)), bt]
  rw [dp rfl rfl, dl, oK, aa]
  exact ⟨1, _, yI _, rfl⟩
 rcases c108 v nm sm with ⟨he, t, hR⟩ | ⟨Z, hZ, hR⟩
 ·rw [hR.eqA, mP rfl, bY b1, aa, qO, aa, mP rfl, eH, aa, dl]
  obtain ⟨x', σ', ha, hw, hn', hk⟩ := ou (h := h.put 3 none) (n := 3 + 1) (m := 4) (x := .nilz t) (l := []) (l' := [Fld.mk nm x]) OwnW.none (by decide) (by simp)
  rw [show aD T0 ⟨h.put 3 none, 3 + 1⟩ 33 33 (.nilz t) (.lst [az (.mk nm x)]) = some (x', σ') from ha, aM]
  refine fin _ _ ?_
  rcases hw with ⟨q, _⟩ | ⟨id, q1, rfl, q2, q3, q4⟩
  ·cases q
  ·obtain ⟨σ2, hr2, _, hk2⟩ := g85 (σ := σ') (id := id) (Z := []) (l := [Fld.mk nm x]) ⟨rfl, 0, rfl⟩ (by rw [List.append_nil, bR]; exact q4) (by simp) (fun f hf => ho' f (List.mem_append_right _ hf)) (List.pairwise_singleton _ _)
   refine ⟨σ2, ?_, ?_⟩
   ·unfold io; rw [he]; exact hr2
   ·rw [hk2 2 (by omega), hk 2 (by decide), ae _ _ (by decide)]; exact b2
 ·rw [hR.eqA, mP rfl, bY b1, aa, qO, aa, mP rfl, eH, aa, dl]
  obtain ⟨id', σ', Z', ha, hZ', hg', hid, hn', hk⟩ := app1 (h := h.put 3 (some (.cells (ay az (eJ v nm) ++ Z) 52 true))) (n := 3 + 1) (id := 3) (.mk nm x) hZ (af _ _ _) (by omega)
  rw [ha, aM]
  refine fin _ _ ?_
  obtain ⟨σ2, hr2, _, hk2⟩ := g85 (σ := σ') (id := id') (l := eJ v nm ++ [Fld.mk nm x]) hZ' hg' (by rw [List.length_append]; exact hl) ho' hd
  refine ⟨σ2, ?_, ?_⟩
  ·rw [List.length_append] at hr2; exact hr2
  ·rw [hk2 2 (by omega), hk 2 (by decide) (by decide), ae _ _ (by decide)]; exact b2
def iI (l : List Val) : Val := .mk 4 0 [] l []
theorem bld4 (L : List AV) : aO T0 35 [(0, .i .i64 4), (3, .lst L)] = some (.agg [.i .i64 4, .i .i64 0, .s [], .lst L, .nilz true]) := by kernel_rfl
theorem vY {l : List Val} (hl : l.length <= 100000) (ho : ∀ f ∈ l, smV f) : smV (iI l) := smV.of ⟨show (Lit.int .i64 4).wf = true by decide, show (Lit.int .i64 0).wf = true by decide⟩ (by simp [iI, Val.s]) hl (by simp [iI, Val.fields]) ho (fun x hx => by cases hx)
theorem c87 (l : List Val) (hl : l.length <= 100000) (ho : ∀ f ∈ l, smV f) : R T0 87 [.lst (l.map aj)] (aj (iI l)) := by
 refine R.mkG (an := an87) (by kernel_rfl) (by kernel_rfl) (show T0.fn 87 = some Tryz.f87 by kernel_rfl) (show Tryz.f87.body = some (bx Tryz.f87) by kernel_rfl) (by kernel_rfl) (by kernel_rfl) (by show AV.idfree.idfrees [.lst _] = true; rfl) (by rfl) ?_
 rw [<- w87_eq]
 unfold w87
 dsimp only [av]
 have hr : R T0 107 [.agg [.i .i64 4, .i .i64 0, .s [], .lst (l.map aj), .nilz true]] (aj (iI l)) :=
  R.nrmH (by kernel_rfl) (by kernel_rfl) (by kernel_rfl) (.inl (by kernel_rfl)) rfl (fG _) (by rw [aw]; rfl) (c107 _ (iI l) (Nat.le_refl _) (vY hl ho))
 rw [aS]
 simp only [Nat.zero_add]
 rw [bld4, aa, hr.eq, dx rfl (af _ _ _), aF, oK, aa]
 exact ⟨1, _, yI _, rfl⟩
theorem g87 {σ : AS} {m : Nat} {x : AV} {l : List Val} (o : OwnW 35 m σ.h σ.n (l.map aj) x) (hl : l.length <= 100000) (ho : ∀ f ∈ l, smV f) :
  ∃ σ', Runs T0 87 [x] σ (aj (iI l)) σ' /\ σ'.n = σ.n /\ ∀ j, j < m -> σ'.h.get j = σ.h.get j := by
 have hr := c87 l hl ho
 have hz : cV (fz T0 σ.h 3) [x] = some [.lst (l.map aj)] := bp (fzW elV.rowT (RowE.mapE elV l) o) rfl
 rcases o with ⟨he, b, rfl⟩ | ⟨id, q1, rfl, q2, q3, q4⟩
 ·refine ⟨σ, R.runs ?_ σ, rfl, fun j _ => rfl⟩
  rw [he] at hr
  exact R.nrmH (args' := [.lst []]) (by kernel_rfl) (by kernel_rfl) (by kernel_rfl) (.inr (by kernel_rfl)) rfl rfl rfl hr
 ·obtain ⟨k, hk⟩ := Runs.give (T := T0) (f := 87) (σ := σ) (by kernel_rfl) (by kernel_rfl) (by kernel_rfl) (.inl (by kernel_rfl)) rfl (show AV.idfree.idfrees [.lst (l.map aj)] = true from rfl) rfl hz hr
  refine ⟨_, hk, rfl, fun j hj => qo (m := m) ?_ hj⟩
  intro i him
  rw [List.flatMap_cons, List.flatMap_nil, List.append_nil] at him
  rw [pb q4 (by rw [<- bR]; exact eP elV l) k i him]; exact q2
def kY (v : Val) (nm : List UInt8) (j : Nat) : List Fld := if v.kind = 5 then (v.fields.take j).filter (fm nm) else []
theorem othK_end {v : Val} {nm : List UInt8} {j : Nat} (h : v.fields.length <= j) : kY v nm j = eJ v nm := by
 unfold kY eJ; rw [List.take_of_length_le h]
theorem zt {v : Val} {nm : List UInt8} {j : Nat} (hk : v.kind = 5) (hj : j < v.fields.length) (h : ((v.fields.getD j default).name == nm) = false) : kY v nm (j + 1) = kY v nm j ++ [v.fields.getD j default] := by
 unfold kY; rw [if_pos hk, if_pos hk, iX hj, List.filter_append]
 simp only [List.filter_cons, fm, h, Bool.not_false, if_true, List.filter_nil]
theorem zu {v : Val} {nm : List UInt8} {j : Nat} (hk : v.kind = 5) (hj : j < v.fields.length) (h : ((v.fields.getD j default).name == nm) = true) : kY v nm (j + 1) = kY v nm j := by
 unfold kY; rw [if_pos hk, if_pos hk, iX hj, List.filter_append]
 have : [v.fields.getD j default].filter (fm nm) = [] := by
  rw [List.filter_cons_of_neg (by unfold fm; rw [h]; exact Bool.false_ne_true), List.filter_nil]
 rw [this, List.append_nil]
theorem othK_len {v : Val} {nm : List UInt8} {j : Nat} (hj : j <= v.fields.length) : (kY v nm j).length <= j := by
 unfold kY; split
 ·exact Nat.le_trans (List.length_filter_le _ _) (by rw [List.length_take]; omega)
 ·exact Nat.zero_le _
theorem zk {n m : Nat} {h : Tr AB} {x : AV} {l : List Fld} (o : OwnW 52 m h n (l.map az) x) : (l = [] /\ ∃ t, x = .nilz t) ∨ ∃ id Z, mF Z /\ x = .sl id 0 l.length none /\ h.get id = some (.cells (ay az l ++ Z) 52 true) := by
 rcases o with ⟨he, b, rfl⟩ | ⟨id, q1, rfl, q2, q3, q4⟩
 ·exact .inl ⟨List.map_eq_nil_iff.1 he, b, rfl⟩
 ·exact .inr ⟨id, [], ⟨rfl, 0, rfl⟩, by rw [List.length_map], by rw [List.append_nil, bR]; exact q4⟩
theorem c109 (v : Val) (nm : List UInt8) (sm : smV v) : RowOut 109 [aj v, .s nm] (eJ v nm) := by
 obtain ⟨-, ls, ll, lf, ol, of_⟩ := bJ sm
 refine RowOut.mk (an := an109) (by kernel_rfl) (by kernel_rfl) (show T0.fn 109 = some Tryz.f109 by kernel_rfl) (show Tryz.f109.body = some (bx Tryz.f109) by kernel_rfl) (by kernel_rfl) (by kernel_rfl) (by rw [aw]; rfl) (by rw [aw]; rfl) ?_
 rw [<- w109_eq]
 unfold w109
 dsimp only [av]
 rw [aS]
 refine gJ (X := Nat × AV) (fun y => y.2) (fun _ => .ptr 0 0) (fun _ => .s nm) (fun y => .i .i64 (y.1 : Nat)) (fun y σ => y.1 <= v.fields.length /\ 1 <= σ.n /\ σ.h.get 0 = some (.cells (aj v).cells 35 false) /\ OwnW 52 1 σ.h σ.n ((kY v nm y.1).map az) y.2) (fun y => v.fields.length - y.1) ?_ (0, .nilz true) _
  ⟨Nat.zero_le _, Nat.le_refl _, af _ _ _, by
   have : kY v nm 0 = [] := by unfold kY; split <;> rfl
   dsimp only; rw [this]; exact OwnW.none⟩
 rintro R ⟨j, x⟩ ⟨h, n⟩ ⟨hj, hn, hg, o⟩ hR
 dsimp only at hj hn hg o hR |-
 have fin : kY v nm j = eJ v nm -> (eJ v nm = [] /\ ∃ t, x = .nilz t) ∨ ∃ id Z, mF Z /\ x = .sl id 0 (eJ v nm).length none /\ h.get id = some (.cells (ay az (eJ v nm) ++ Z) 52 true) := fun e => by
  rw [e] at o; exact zk o
 by_cases hj' : j < v.fields.length
 ·by_cases k5 : v.kind = 5
  ·cases hs : ((v.fields.getD j default).name == nm)
   ·obtain ⟨x', σ', ha, hw, hn', hk⟩ := ou (l' := [v.fields.getD j default]) o hn (by have := othK_len (nm := nm) hj; simp only [List.length_singleton]; omega)
    have ha : aD T0 ⟨h, n⟩ 33 33 x (.lst [az (v.fields.getD j default)]) = some (x', σ') := ha
    simp (disch := first | omega | assumption | (intros; simp only [dl3]; try omega)) only [vb0, ne_eq, bj, vb9, dF, aC, vb1, bz, ca, vb5, hg, cU, cX, gn, hs, eH, ha]
    refine hR (j + 1, x') σ' ⟨by dsimp only; omega, by omega, by rw [hk 0 (by decide)]; exact hg, ?_⟩ (by dsimp only; omega)
    dsimp only; rw [zt k5 hj' hs]; exact hw
   ·simp (disch := first | omega | assumption | (intros; simp only [dl3]; try omega)) only [vb0, ne_eq, bj, vb9, dF, aC, vb1, bz, ca, vb5, hg, cU, cX, gn, hs]
    refine hR (j + 1, x) ⟨h, n⟩ ⟨by dsimp only; omega, hn, hg, ?_⟩ (by dsimp only; omega)
    dsimp only; rw [zu k5 hj' hs]; exact o
  ·simp (disch := first | omega | assumption | (intros; simp only [dl3]; try omega)) only [vb0, ne_eq, bj, vb9, dF, aC, vb1, bz, ca, vb5, hg, cU, cX, gn]
   exact fin (by unfold kY eJ; rw [if_neg k5, if_neg k5])
 ·simp (disch := first | omega | assumption | (intros; simp only [dl3]; try omega)) only [vb0, ne_eq, bj, vb9, dF, aC, vb1, bz, ca, vb5, hg, cU, cX]
  exact fin (othK_end (by omega))
theorem vM {h : Tr AB} {n m : Nat} {x : AV} {l l' : List Val} (o : OwnW 35 m h n (l.map aj) x) (hm : m <= n) (hl : l.length + l'.length <= 1000000) :
  ∃ x' σ', aD T0 ⟨h, n⟩ 32 32 x (.lst (l'.map aj)) = some (x', σ') /\ OwnW 35 m σ'.h σ'.n ((l ++ l').map aj) x' /\ n <= σ'.n /\ ∀ j, j < m -> σ'.h.get j = h.get j := by
 have := appW (h := h) elV.rowT o hm (RowE.mapE elV l) (RowE.mapE elV l') (gA (by decide) (by rw [List.length_map, List.length_map]; exact hl))
 rwa [<- List.map_append] at this
theorem take_snV {l : List Val} {j : Nat} (hj : j < l.length) : l.take (j + 1) = l.take j ++ [l.getD j default] := by
 rw [List.take_add_one, List.getElem?_eq_getElem hj]; simp [List.getD_eq_getElem?_getD, hj]
theorem bldkns (v : Val) : aO T0 35 [(0, .i .i64 v.kind), (1, .i .i64 v.n), (2, .s v.s)] = some (.agg (aH v (.nilz true) (.nilz true))) := by kernel_rfl
theorem l0 {h : Tr AB} {v : Val} {A B : AV} {id e : Nat} {g : Bool} (hg : h.get id = some (.cells (aH v A B) e g)) : ac T0 h 3 (.ptr id 0) = some (.i .i64 v.kind) := by rw [cM hg (Nat.zero_le _)]; exact nU _ _
theorem l1 {h : Tr AB} {v : Val} {A B : AV} {id e : Nat} {g : Bool} (hg : h.get id = some (.cells (aH v A B) e g)) : ac T0 h 3 (.ptr id 1) = some (.i .i64 v.n) := by rw [cM hg (show 1 <= 5 by decide)]; exact nU _ _
theorem l2 {h : Tr AB} {v : Val} {A B : AV} {id e : Nat} {g : Bool} (hg : h.get id = some (.cells (aH v A B) e g)) : ac T0 h 9 (.ptr id 2) = some (.s v.s) := by rw [cM hg (show 2 <= 5 by decide)]; exact lM _ _
theorem c125 (k : Nat) : ∀ v : Val, SizeOf.sizeOf v <= k -> smV v -> R T0 125 [aj v] (aj v) := by
 induction k with
 | zero => intro v h; obtain ⟨_, _, _, _, _⟩ := v; simp only [Val.mk.sizeOf_spec] at h; omega
 | succ k ih =>
  intro v hsz sm
  obtain ⟨-, ls, ll, lf, ol, of_⟩ := bJ sm
  refine r125 _ (fG v) (gG v) ?_
  unfold w125
  dsimp only [av]
  rw [aS, aS]
  simp only [Nat.zero_add, Nat.reduceAdd]
  have b0 : ((Tr.nil.put 0 (some (.cells (aj v).cells 35 false))).put 1 (some (.cells [.i .i64 0, .i .i64 0, .s [], .nilz true, .nilz true] 35 false)) : Tr AB).get 0 = some (.cells (aH v (.lst (v.list.map aj)) (.lst (v.fields.map az))) 35 false) := by
   rw [ae _ _ (by decide), af, fN]
  have b1 : ((Tr.nil.put 0 (some (.cells (aj v).cells 35 false))).put 1 (some (.cells [.i .i64 0, .i .i64 0, .s [], .nilz true, .nilz true] 35 false)) : Tr AB).get 1 = some (.cells [.i .i64 0, .i .i64 0, .s [], .nilz true, .nilz true] 35 false) := af _ _ _
  generalize ((Tr.nil.put 0 (some (.cells (aj v).cells 35 false))).put 1 (some (.cells [.i .i64 0, .i .i64 0, .s [], .nilz true, .nilz true] 35 false)) : Tr AB) = h at b0 b1 |-
  rw [bT, aa, l0 b0, aa, bT, aa, l1 b0, aa, bT, aa, l2 b0, aa, bldkns, aa, aS, gz rfl (af _ _ _) rfl rfl, aF]
  refine gJ (X := Nat) (fun _ => .ptr 1 0) (fun _ => .ptr 2 0) (fun _ => .ptr 0 0) (fun j => .i .i64 (j : Nat))
   (fun j σ => j <= v.list.length /\ 3 <= σ.n /\ σ.h.get 0 = some (.cells (aH v (.lst (v.list.map aj)) (.lst (v.fields.map az))) 35 false) /\ σ.h.get 1 = some (.cells [.i .i64 0, .i .i64 0, .s [], .nilz true, .nilz true] 35 false) /\ ∃ x, σ.h.get 2 = some (.cells (aH v x (.nilz true)) 35 false) /\ OwnW 35 3 σ.h σ.n ((v.list.take j).map aj) x) (fun j => v.list.length - j) ?_ 0 _
   ⟨Nat.zero_le _, Nat.le_refl _, by dsimp only; rw [ae _ _ (by decide), ae _ _ (by decide)]; exact b0, by dsimp only; rw [ae _ _ (by decide), ae _ _ (by decide)]; exact b1, .nilz true, af _ _ _, OwnW.none⟩
  clear b0 b1 h
  rintro R j ⟨h, n⟩ ⟨hj, hn, b0, b1, x, bm, o⟩ hR
  dsimp only at hj hn b0 b1 bm o hR |-
  rw [bT, aa, l3 b0, aa, ii, aa, cw, aa, List.length_map]
  refine aU (fun hlt => ?_) (fun hge => ?_)
  ·have hj' : j < v.list.length := by omega
   have hm := bh hj'
   have er := fun (d : Nat) (σ : AS) (K : AV -> AS -> Prop) => (ih _ (by have := dj v hm; omega) (ol _ hm)).eq d σ K
   obtain ⟨x', σ', ha, hw, hn', hk⟩ := vM (l' := [v.list.getD j default]) o hn (by rw [List.length_take]; simp only [List.length_singleton]; omega)
   have ha : aD T0 ⟨h, n⟩ 32 32 x (.lst [aj (v.list.getD j default)]) = some (x', σ') := ha
   have gm := (hk 2 (by decide)).trans bm
   have ia := rQ (enc := aj) (l := v.list) (k := .i64) (n := (j : Int)) (by omega) (by omega) bg
   rw [Int.toNat_natCast] at ia
   simp (disch := first | omega | assumption | (intros; simp only [dl2]; try omega)) only [bT, Nat.zero_add, aa, l3 bm, l3 b0, ia, dP, fS, er, pm, ha, aM, t3 gm hw.cells hw.leaf, bt]
   rw [dp rfl rfl, dl]
   simp (disch := first | omega | assumption | (intros; simp only [dl2]; try omega)) only [aa, aC, cx]
   refine hR (j + 1) ⟨_, _⟩ ⟨by omega, by dsimp only; omega, ?_, ?_, x', af _ _ _, ?_⟩ (by omega)
   ·dsimp only; rw [ae _ _ (by decide), hk 0 (by decide)]; exact b0
   ·dsimp only; rw [ae _ _ (by decide), hk 1 (by decide)]; exact b1
   ·rw [take_snV hj']; exact hw.same (fun i hi _ => ae _ _ (by omega)) (Nat.le_refl _)
  ·clear hR
   rw [show v.list.take j = v.list from List.take_of_length_le (by omega)] at o
   refine gJ (X := Nat) (fun _ => .ptr 1 0) (fun _ => .ptr 2 0) (fun _ => .ptr 0 0) (fun j => .i .i64 (j : Nat))
    (fun i σ => i <= v.fields.length /\ n <= σ.n /\ σ.h.get 0 = some (.cells (aH v (.lst (v.list.map aj)) (.lst (v.fields.map az))) 35 false) /\ σ.h.get 1 = some (.cells [.i .i64 0, .i .i64 0, .s [], .nilz true, .nilz true] 35 false) /\ OwnW 35 3 σ.h n (v.list.map aj) x /\ ∃ y, σ.h.get 2 = some (.cells (aH v x y) 35 false) /\ OwnW 52 n σ.h σ.n ((v.fields.take i).map az) y) (fun i => v.fields.length - i) ?_ 0 ⟨h, n⟩
    ⟨Nat.zero_le _, Nat.le_refl _, b0, b1, o, .nilz true, bm, OwnW.none⟩
   clear b0 b1 bm o hge hj
   rintro R i ⟨h2, n2⟩ ⟨hi, hn2, b0, b1, o, y, bm, oy⟩ hR
   dsimp only at hi hn2 b0 b1 bm o oy hR |-
   rw [bT, aa, l4 b0, aa, jT, aa, cw, aa, List.length_map]
   refine aU (fun hlt => ?_) (fun hge => ?_)
   ·have hi' : i < v.fields.length := by omega
    have hm := bh hi'
    have er := fun (d : Nat) (σ : AS) (K : AV -> AS -> Prop) => (ih _ (by have := cr v hm; omega) (eO (of_ _ hm)).2).eq d σ K
    obtain ⟨y', σ', ha, hw, hn', hk⟩ := ou (l' := [v.fields.getD i default]) oy hn2 (by rw [List.length_take]; simp only [List.length_singleton]; omega)
    have ha : aD T0 ⟨h2, n2⟩ 33 33 y (.lst [az (v.fields.getD i default)]) = some (y', σ') := ha
    have gm := (hk 2 (by omega)).trans bm
    have ia := nW (enc := az) (l := v.fields) (k := .i64) (n := (i : Int)) (by omega) (by omega) br
    rw [Int.toNat_natCast] at ia
    have ef : Fld.mk (v.fields.getD i default).name (v.fields.getD i default).v = v.fields.getD i default := by cases v.fields.getD i default; rfl
    have n9 := dQ (v.fields.getD i default)
    have n35 := gY (v.fields.getD i default)
    simp (disch := first | omega | assumption | (intros; simp only [dl2]; try omega)) only [bz, Nat.zero_add, aa, l4 bm, l4 b0, ia, dP, n9, n35, er, qO, ef, eH, ha, aM, t4 gm hw.cells hw.leaf, bt]
    rw [dp rfl rfl, dl]
    simp (disch := first | omega | assumption | (intros; simp only [dl2]; try omega)) only [aa, aC, cx]
    refine hR (i + 1) ⟨_, _⟩ ⟨by omega, by dsimp only; omega, ?_, ?_, ?_, y', af _ _ _, ?_⟩ (by omega)
    ·dsimp only; rw [ae _ _ (by decide), hk 0 (by omega)]; exact b0
    ·dsimp only; rw [ae _ _ (by decide), hk 1 (by omega)]; exact b1
    ·exact o.same (fun q hq1 hq2 => by dsimp only; rw [ae _ _ (by omega), hk q hq2]) (Nat.le_refl _)
    ·rw [iX hi']; exact hw.same (fun q hq _ => ae _ _ (by omega)) (Nat.le_refl _)
   ·clear hR
    rw [show v.fields.take i = v.fields from List.take_of_length_le (by omega)] at oy
    rw [l5 bm, aa, gz rfl b1 o.leaf oy.leaf, aF, l5 (af _ _ _), aa]
    have o' : OwnW 35 3 (h2.put 1 (some (.cells (aH v x y) 35 false))) n (v.list.map aj) x := o.same (fun q hq _ => ae _ _ (by omega)) (Nat.le_refl _)
    have oy' : OwnW 52 n (h2.put 1 (some (.cells (aH v x y) 35 false))) n2 (v.fields.map az) y := oy.same (fun q hq _ => ae _ _ (by omega)) (Nat.le_refl _)
    refine ⟨4, _, eA (fzW elV.rowT (RowE.mapE elV _) o') (fzW elF.rowT (RowE.mapE elF _) oy'), ?_⟩
    cases v; rfl
theorem e125 {v : Val} (sm : smV v) {d : Nat} {σ : AS} {K : AV -> AS -> Prop} : oC T0 d 125 [aj v] σ K = K (aj v) σ := (c125 _ v (Nat.le_refl _) sm).eq d σ K
theorem x124 (a0 a1 : AV) {σ : AS} {Q : AV -> AS -> Prop} (h : w124 (av T0) a0 a1 σ Q) : ∃ r σ', Runs T0 124 [a0, a1] σ r σ' /\ Q r σ' :=
 Runs.ex (by kernel_rfl) (by kernel_rfl) (show T0.fn 124 = some Tryz.f124 by kernel_rfl) (by kernel_rfl) (by kernel_rfl) (by kernel_rfl) (by rw [w124_eq] at h; exact h)
theorem iaW {h : Tr AB} {m n j : Nat} {x : AV} {l : List Fld} (o : OwnW 52 m h n (l.map az) x) (hj : j < l.length) : ∃ p off, ai T0 33 x (.i .i64 (j : Nat)) = some (.ptr p off) /\ m <= p /\ p < n /\ ∀ h' : Tr AB, h'.get p = h.get p -> ac T0 h' 52 (.ptr p off) = some (az (l.getD j default)) /\ ac T0 h' 9 (.ptr p (off + 0)) = some (.s (l.getD j default).name) := by
 rcases o with ⟨he, b, rfl⟩ | ⟨id, q1, rfl, q2, q3, q4⟩
 ·rw [List.map_eq_nil_iff.1 he] at hj; cases hj
 ·rw [<- bR] at q4
  refine ⟨id, j * (5 + 1), ?_, q2, q3, fun h' e => ⟨?_, ?_⟩⟩
  ·rw [List.length_map]; exact jz hj
  ·exact rl (show cD h' id l from e.trans q4) hj
  ·exact rl9 (show cD h' id l from e.trans q4) hj
theorem c124 {h : Tr AB} {n m : Nat} {x : AV} (l : List Fld) (f : Fld) (o : OwnW 52 m h n (l.map az) x) (hm : m <= n) (hl : l.length <= 500000) (hd : ∀ g ∈ l, g.name ≠ f.name) :
  ∃ r σ', Runs T0 124 [x, az f] ⟨h, n⟩ r σ' /\ OwnW 52 (n + 1) σ'.h σ'.n ((nd f l).map az) r /\ n + 1 <= σ'.n /\ ∀ j, j < n -> σ'.h.get j = h.get j := by
 refine x124 _ _ ?_
 unfold w124
 dsimp only [av]
 rw [aS]
 refine gW (X := Bool × List Fld × AV × Nat) (fun y => y.2.2.1) (fun _ => .ptr n 0) (fun y => .b y.1) (fun _ => x) (fun y => .i .i64 (y.2.2.2 : Nat))
  (fun y σ => y.2.2.2 <= l.length /\ y.2.1 ++ (if y.1 = true then l.drop y.2.2.2 else nd f (l.drop y.2.2.2)) = nd f l /\ n + 1 <= σ.n /\ σ.h.get n = some (.cells (az f).cells 52 false) /\ (∀ j, j < n -> σ.h.get j = h.get j) /\ OwnW 52 (n + 1) σ.h σ.n (y.2.1.map az) y.2.2.1) (fun y => l.length - y.2.2.2) ?_ (false, [], .nilz true, 0) _
  ⟨Nat.zero_le _, by simp, Nat.le_refl _, af _ _ _, fun j hj => ae _ _ (by dsimp only; omega), OwnW.none⟩
 rintro R ⟨ins, acc, ax, j⟩ ⟨h1, n1⟩ ⟨hj, he, hn1, hg, hk, oa⟩ hR
 dsimp only at hj he hn1 hg hk oa hR |-
 have o1 : OwnW 52 m h1 n (l.map az) x := o.same (fun i _ hi => hk i hi) (Nat.le_refl _)
 have hlen : ak T0 h1 .len [33] [x] = some (.i .i64 (l.length : Nat)) := by rw [lenW elF.ty o1, List.length_map]
 have hal : acc.length <= l.length + 1 := by
  have := congrArg List.length he
  rw [List.length_append, (gu f l).length_eq, List.length_cons] at this; omega
 have hf : ac T0 h1 52 (.ptr n 0) = some (az f) := by rw [cM hg (Nat.zero_le _)]; exact iH f
 have hf9 : ac T0 h1 9 (.ptr n (0 + 0)) = some (.s f.name) := by rw [cM hg (Nat.zero_le _)]; exact dQ f
 rw [hlen, aa, cw, aa]
 by_cases hj' : j < l.length
 ·obtain ⟨p, off, hia, hp1, hp2, hld⟩ := iaW o1 hj'
  have hgm := List.getElem_mem hj'
  have hgd : l.getD j default = l[j] := by simp [List.getD_eq_getElem?_getD, hj']
  have hne := hd _ hgm
  rw [<- hgd] at hne
  have edr : l.drop j = l.getD j default :: l.drop (j + 1) := by rw [hgd]; exact List.drop_eq_getElem_cons hj'
  have rest : ∀ (fl : Bool) (acc' : List Fld) (ax' : AV) (h2 : Tr AB) (n2 : Nat), acc'.length <= l.length + 1 -> acc' ++ (l.getD j default :: (if fl = true then l.drop (j + 1) else nd f (l.drop (j + 1)))) = nd f l -> n + 1 <= n2 -> h2.get n = some (.cells (az f).cells 52 false) -> (∀ j, j < n -> h2.get j = h.get j) -> OwnW 52 (n + 1) h2 n2 (acc'.map az) ax' ->
    ∃ x' σ', aD T0 ⟨h2, n2⟩ 33 33 ax' (.lst [az (l.getD j default)]) = some (x', σ') /\ R x' (.ptr n 0) (.b fl) x (.i .i64 ((j + 1 : Nat) : Int)) σ' := by
   intro fl acc' ax' h2 n2 hal' he' hn2 hg2 hk2 o2
   obtain ⟨x', σ', ha, hw, hn', hkk⟩ := ou (l' := [l.getD j default]) o2 hn2 (by simp only [List.length_singleton]; omega)
   refine ⟨x', σ', ha, hR (fl, acc' ++ [l.getD j default], x', j + 1) σ' ⟨by dsimp only; omega, ?_, by omega, by rw [hkk n (by omega)]; exact hg2, fun i hi => by rw [hkk i (by omega)]; exact hk2 i hi, hw⟩ (by dsimp only; omega)⟩
   dsimp only; rw [List.append_assoc]; exact he'
  have e52 := (hld h1 rfl).1
  have e9 := (hld h1 rfl).2
  have hsn : (!((l.getD j default).name == f.name)) = true := by rw [beq_false_of_ne hne]; rfl
  have hcond : (Op.bytesLess f.name (l.getD j default).name || f.name == (l.getD j default).name) = !(ltF (l.getD j default) f) := by
   unfold ltF
   rw [beq_false_of_ne (fun e => hne e.symm), Bool.or_false]
   cases q1 : Op.bytesLess f.name (l.getD j default).name <;> cases q2 : Op.bytesLess (l.getD j default).name f.name
   ·exact absurd (bl_eq _ _ q2 q1) hne
   ·rfl
   ·rfl
   ·have := mz _ _ q1; rw [this] at q2; cases q2
  have i1 : ((j : Nat) : Int) + 1 = ((j + 1 : Nat) : Int) := by omega
  rw [decide_eq_true (by omega), aG, uQ, uQ, cJ, aa]
  cases ins with
  | true =>
   simp only [if_true] at he
   rw [edr] at he
   obtain ⟨x', σ', ha, hr⟩ := rest true acc ax h1 n1 hal he hn1 hg hk oa
   rw [Bool.not_true, gft_8, bK, aa, aA]
   simp (disch := first | omega | assumption | (intros; simp only [dl2]; try omega)) only [hia, aa, bT, e9, hf9, gn, hsn, aG, e52, eH, ha, aM, aC, cx, i1]
   exact hr
  | false =>
   simp only [Bool.false_eq_true, if_false] at he
   rw [edr, nd] at he
   rw [Bool.not_false, gtt_8]
   cases hlt : ltF (l.getD j default) f with
   | true =>
    rw [if_pos hlt] at he
    obtain ⟨x', σ', ha, hr⟩ := rest false acc ax h1 n1 hal he hn1 hg hk oa
    simp (disch := first | omega | assumption | (intros; simp only [dl2]; try omega)) only [hia, aa, bT, e9, hf9, tF, hcond, hlt, Bool.not_true, bw, aA, gn, hsn, aG, e52, eH, ha, aM, aC, cx, i1]
    exact hr
   | false =>
    rw [if_neg (by rw [hlt]; exact Bool.false_ne_true)] at he
    obtain ⟨x2, ⟨h2, n2⟩, ha2, hw2, hn2, hk2⟩ := ou (l' := [f]) oa hn1 (by simp only [List.length_singleton]; omega)
    have ha2 : aD T0 ⟨h1, n1⟩ 33 33 ax (.lst [az f]) = some (x2, ⟨h2, n2⟩) := ha2
    dsimp only at hw2 hn2 hk2
    have e52' := (hld h2 (hk2 p (by omega))).1
    have e9' := (hld h2 (hk2 p (by omega))).2
    have hg2 := (hk2 n (by omega)).trans hg
    have hf9' : ac T0 h2 9 (.ptr n (0 + 0)) = some (.s f.name) := by rw [cM hg2 (Nat.zero_le _)]; exact dQ f
    have hal2 : (acc ++ [f]).length <= l.length + 1 := by
     have := congrArg List.length he
     rw [List.length_append, (gu f l).length_eq, List.length_cons, List.length_cons, List.length_cons] at this
     rw [List.length_append, List.length_singleton]; omega
    obtain ⟨x', σ', ha, hr⟩ := rest true (acc ++ [f]) x2 h2 n2 hal2 (by rw [List.append_assoc]; exact he) (by omega) hg2 (fun i hi => (hk2 i (by omega)).trans (hk i hi)) hw2
    simp (disch := first | omega | assumption | (intros; simp only [dl2]; try omega)) only [hia, aa, bT, e9, hf9, tF, hcond, hlt, Bool.not_false, bw, aG, hf, ha2, e9', hf9', gn, hsn, e52', eH, ha, aM, aC, cx, i1]
    exact hr
 ·rw [decide_eq_false (by omega), aA, iL, cJ, aa]
  rw [List.drop_of_length_le (show l.length <= j by omega)] at he
  cases ins with
  | true =>
   simp only [if_true, List.append_nil] at he
   rw [Bool.not_true, aA, <- he]
   exact ⟨oa, hn1, hk⟩
  | false =>
   simp only [Bool.false_eq_true, if_false] at he
   obtain ⟨x2, ⟨h2, n2⟩, ha2, hw2, hn2, hk2⟩ := ou (l' := [f]) oa hn1 (by simp only [List.length_singleton]; omega)
   have ha2 : aD T0 ⟨h1, n1⟩ 33 33 ax (.lst [az f]) = some (x2, ⟨h2, n2⟩) := ha2
   dsimp only at hw2 hn2 hk2
   rw [Bool.not_false, aG, hf, aa, eH, aa, ha2, aM, <- he]
   exact ⟨hw2, by dsimp only; omega, fun i hi => (hk2 i (by omega)).trans (hk i hi)⟩
theorem zg {l : List Fld} (hd : Dif l) {j : Nat} (hj : j < l.length) : nd (l.getD j default) (kX (l.take j)) = kX (l.take (j + 1)) := by
 rw [iX hj]
 have hd1 : Dif (l.take j ++ [l.getD j default]) := by
  rw [<- iX hj]; exact hd.sublist (List.take_sublist _ _)
 refine rq hd1 ?_ (qq _ _ (pO _))
 exact ((gu _ _).trans ((gq _).cons _)).trans (List.perm_append_singleton _ _).symm
theorem c110 (l : List Fld) (hl : l.length <= 100000) (ho : ∀ f ∈ l, smF f) (hd : Dif l) : R T0 110 [.lst (l.map az)] (aj (cj (kX l))) := by
 refine R.mkG (an := an110) (by kernel_rfl) (by kernel_rfl) (show T0.fn 110 = some Tryz.f110 by kernel_rfl) (show Tryz.f110.body = some (bx Tryz.f110) by kernel_rfl) (by kernel_rfl) (by kernel_rfl) (by show AV.idfree.idfrees [.lst _] = true; rfl) (by rfl) ?_
 rw [<- w110_eq]
 unfold w110
 dsimp only [av]
 rw [aS, bld5, aa, aS]
 simp only [Nat.zero_add, Nat.reduceAdd]
 rw [gz rfl (af _ _ _) rfl rfl, aF]
 refine gJ (X := Nat) (fun _ => .ptr 0 0) (fun _ => .ptr 1 0) (fun _ => .lst (l.map az)) (fun j => .i .i64 (j : Nat))
  (fun j σ => j <= l.length /\ 2 <= σ.n /\ σ.h.get 0 = some (.cells [.i .i64 0, .i .i64 0, .s [], .nilz true, .nilz true] 35 false) /\ ∃ x, σ.h.get 1 = some (.cells (aH (cj []) (.nilz true) x) 35 false) /\ OwnW 52 2 σ.h σ.n ((kX (l.take j)).map az) x) (fun j => l.length - j) ?_ 0 _
  ⟨Nat.zero_le _, Nat.le_refl _, by dsimp only; rw [ae _ _ (by decide), ae _ _ (by decide), af], .nilz true, af _ _ _, OwnW.none⟩
 rintro R j ⟨h, n⟩ ⟨hj, hn, b0, x, bm, o⟩ hR
 dsimp only at hj hn b0 bm o hR |-
 rw [jT, aa, cw, aa, List.length_map]
 refine aU (fun hlt => ?_) (fun hge => ?_)
 ·have hj' : j < l.length := by omega
  have hm := bh hj'
  have er := fun (d : Nat) (σ : AS) (K : AV -> AS -> Prop) => e125 (eO (ho _ hm)).2 (d := d) (σ := σ) (K := K)
  have ia := nW (enc := az) (l := l) (k := .i64) (n := (j : Int)) (by omega) (by omega) br
  rw [Int.toNat_natCast] at ia
  have ef : Fld.mk (l.getD j default).name (l.getD j default).v = l.getD j default := by cases l.getD j default; rfl
  have n9 := dQ (l.getD j default)
  have n35 := gY (l.getD j default)
  obtain ⟨r, σ', hrun, hw, hn', hk⟩ := c124 (h := h) (n := n) (kX (l.take j)) (l.getD j default) o hn (by rw [tY, List.length_take]; omega) (fun g hg e => by
   have := (iX hj' ▸ hd.sublist (List.take_sublist (j + 1) l) : Dif (l.take j ++ [l.getD j default]))
   exact (List.pairwise_append.1 this).2.2 g ((gq _).mem_iff.1 hg) _ (List.mem_singleton.2 rfl) e)
  have gm := (hk 1 (by omega)).trans bm
  simp (disch := first | omega | assumption | (intros; simp only [dl2]; try omega)) only [bz, Nat.zero_add, aa, l4 bm, ia, dP, n9, n35, er, qO, ef, hrun.eq, t4 gm hw.cells hw.leaf, bt]
  rw [dp rfl rfl, dl]
  simp (disch := first | omega | assumption | (intros; simp only [dl2]; try omega)) only [aa, aC, cx]
  rw [zg hd hj'] at hw
  refine hR (j + 1) ⟨_, _⟩ ⟨by omega, by dsimp only; omega, ?_, r, af _ _ _, ?_⟩ (by omega)
  ·dsimp only; rw [ae _ _ (by decide), hk 0 (by omega)]; exact b0
  ·rcases hw with w | ⟨id, w1, w2, w3, w4, w5⟩
   ·exact .inl w
   ·exact .inr ⟨id, w1, w2, by omega, w4, by dsimp only; rw [ae _ _ (by omega)]; exact w5⟩
 ·clear hR
  rw [show l.take j = l from List.take_of_length_le (by omega)] at o
  rw [l5 bm, aa, gz rfl b0 rfl o.leaf, aF, l5 (af _ _ _), aa]
  have o' := o.same (h' := h.put 0 (some (.cells (aH (cj []) (.nilz true) x) 35 false))) (n' := n) (fun q hq _ => ae _ _ (by omega)) (Nat.le_refl _)
  exact ⟨4, _, eA (v := cj []) (l := []) (f := kX l) (cC 2 (a := .nilz true) rfl) (fzW elF.rowT (RowE.mapE elF _) o'), rfl⟩
theorem g110 {σ : AS} {id : Nat} {Z : List AV} {l : List Fld} (hZ : mF Z) (hg : σ.h.get id = some (.cells (ay az l ++ Z) 52 true)) (hl : l.length <= 100000) (ho : ∀ f ∈ l, smF f) (hd : Dif l) :
  ∃ σ', Runs T0 110 [.sl id 0 l.length none] σ (aj (cj (kX l))) σ' /\ σ'.n = σ.n /\ ∀ j, j ≠ id -> σ'.h.get j = σ.h.get j := by
 have hz : cV (fz T0 σ.h 3) [.sl id 0 l.length none] = some [.lst (l.map az)] := by
  have := mh (cap := none) (g := true) (C := Z) elF.rowT (RowE.mapE elF l) (h := σ.h) (id := id) (by rw [<- bR]; exact hg)
  rw [List.length_map] at this
  exact bp this rfl
 obtain ⟨k, hk⟩ := Runs.give (T := T0) (f := 110) (σ := σ) (by kernel_rfl) (by kernel_rfl) (by kernel_rfl) (.inl (by kernel_rfl)) rfl (show AV.idfree.idfrees [.lst (l.map az)] = true from rfl) rfl hz (c110 l hl ho hd)
 refine ⟨_, hk, rfl, fun j hj => ?_⟩
 dsimp only
 rw [fF, if_neg]
 intro hm
 rw [List.flatMap_cons, List.flatMap_nil, List.append_nil] at hm
 exact hj (pb hg (by rw [dw, eP elF, hZ.1]; rfl) k j hm)
theorem c89 (v : Val) (nm : List UInt8) (x : Val) (sm : smV v) (hn : nm.length <= 100000) (sx : smV x) (hl : (eJ v nm).length + 1 <= 100000) (ho : ∀ f ∈ eJ v nm, smF f) (hd : Dif (eJ v nm ++ [.mk nm x])) : R T0 89 [aj v, .s nm, aj x] (aj (io v nm x)) := by
 refine r89 _ _ _ (by rw [aw, aw]; rfl) (by rw [aw, aw]; rfl) ?_
 unfold w89
 dsimp only [av]
 rw [aS, aS, aS]
 simp only [Nat.zero_add, Nat.reduceAdd]
 have b0 : (((Tr.nil.put 0 (some (.cells (aj v).cells 35 false))).put 1 (some (.cells (aj x).cells 35 false))).put 2 (some (.cells [.i .i64 0, .i .i64 0, .s [], .nilz true, .nilz true] 35 false)) : Tr AB).get 0 = some (.cells (aj v).cells 35 false) := by
  rw [ae _ _ (by decide), ae _ _ (by decide), af]
 have b1 : (((Tr.nil.put 0 (some (.cells (aj v).cells 35 false))).put 1 (some (.cells (aj x).cells 35 false))).put 2 (some (.cells [.i .i64 0, .i .i64 0, .s [], .nilz true, .nilz true] 35 false)) : Tr AB).get 1 = some (.cells (aj x).cells 35 false) := by
  rw [ae _ _ (by decide), af]
 have b2 : (((Tr.nil.put 0 (some (.cells (aj v).cells 35 false))).put 1 (some (.cells (aj x).cells 35 false))).put 2 (some (.cells [.i .i64 0, .i .i64 0, .s [], .nilz true, .nilz true] 35 false)) : Tr AB).get 2 = some (.cells [.i .i64 0, .i .i64 0, .s [], .nilz true, .nilz true] 35 false) := af _ _ _
 generalize (((Tr.nil.put 0 (some (.cells (aj v).cells 35 false))).put 1 (some (.cells (aj x).cells 35 false))).put 2 (some (.cells [.i .i64 0, .i .i64 0, .s [], .nilz true, .nilz true] 35 false)) : Tr AB) = h at b0 b1 b2 |-
 rw [bY b0, aa]
 have ho' : ∀ f ∈ eJ v nm ++ [Fld.mk nm x], smF f := fun f hf => by
  rcases List.mem_append.1 hf with hf | hf
  ·exact ho f hf
  ·rw [List.mem_singleton.1 hf]; exact .of hn sx
 have fin : ∀ (t16 : AV) (σ5 : AS), (∃ σ', Runs T0 110 [t16] σ5 (aj (io v nm x)) σ' /\ σ'.h.get 2 = some (.cells [.i .i64 0, .i .i64 0, .s [], .nilz true, .nilz true] 35 false)) ->
   oC T0 18 110 [t16] σ5 fun t18 sx6 => oH (aB T0 sx6.h 35 (.ptr 2 0) t18) sx6 fun sx7 => oV 6 (ac T0 sx7.h 35 (.ptr 2 0)) fun t6x1 => oZ T0 sx7 t6x1 (fun r2 => r2 = aj (io v nm x)) := by
  rintro t16 σ5 ⟨σ', hr, h2⟩
  rw [hr.eq, dx rfl h2, aF, oK, aa]
  exact ⟨1, _, yI _, rfl⟩
 rcases c109 v nm sm with ⟨he, t, hR⟩ | ⟨Z, hZ, hR⟩
 ·rw [hR.eq, bY b1, aa, qO, aa, eH, aa]
  obtain ⟨x', σ', ha, hw, hn', hk⟩ := ou (h := h) (n := 3) (m := 3) (x := .nilz t) (l := []) (l' := [Fld.mk nm x]) OwnW.none (by decide) (by simp)
  rw [show aD T0 ⟨h, 3⟩ 33 33 (.nilz t) (.lst [az (.mk nm x)]) = some (x', σ') from ha, aM]
  refine fin _ _ ?_
  rcases hw with ⟨q, _⟩ | ⟨id, q1, rfl, q2, q3, q4⟩
  ·cases q
  ·obtain ⟨σ2, hr2, _, hk2⟩ := g110 (σ := σ') (id := id) (Z := []) (l := [Fld.mk nm x]) ⟨rfl, 0, rfl⟩ (by rw [List.append_nil, bR]; exact q4) (by simp) (fun f hf => ho' f (List.mem_append_right _ hf)) (List.pairwise_singleton _ _)
   refine ⟨σ2, ?_, ?_⟩
   ·unfold io; rw [he]; exact hr2
   ·rw [hk2 2 (by omega), hk 2 (by decide)]; exact b2
 ·rw [hR.eqC]
  dsimp only
  rw [bY (show (h.put 3 (some (.cells (ay az (eJ v nm) ++ Z) 52 true))).get 1 = _ from (ae _ _ (by decide)).trans b1), aa, qO, aa, eH, aa]
  obtain ⟨id', σ', Z', ha, hZ', hg', hid, hn', hk⟩ := app1 (h := h.put 3 (some (.cells (ay az (eJ v nm) ++ Z) 52 true))) (n := 3 + 1) (id := 3) (.mk nm x) hZ (af _ _ _) (by omega)
  rw [ha, aM]
  refine fin _ _ ?_
  obtain ⟨σ2, hr2, _, hk2⟩ := g110 (σ := σ') (id := id') (l := eJ v nm ++ [Fld.mk nm x]) hZ' hg' (by rw [List.length_append]; exact hl) ho' hd
  refine ⟨σ2, ?_, ?_⟩
  ·rw [List.length_append] at hr2; exact hr2
  ·rw [hk2 2 (by omega), hk 2 (by decide) (by decide), ae _ _ (by decide)]; exact b2
theorem c85n : R T0 85 [.nilz true] (aj (cj [])) :=
 R.nrmH (args' := [.lst []]) (by kernel_rfl) (by kernel_rfl) (by kernel_rfl) (.inr (by kernel_rfl)) rfl rfl rfl (c85 [] (by simp) (fun f hf => by cases hf) List.Pairwise.nil)
def cP (x : XStep) : Val := if x.kind_ = 3 then cj [.mk x.name_ (gS x.value_)] else cj []
theorem bld3 (s : List UInt8) : aO T0 35 [(0, .i .i64 3), (2, .s s)] = some (.agg (aH (gS s) (.nilz true) (.nilz true))) := by kernel_rfl
theorem fr1 (n s : List UInt8) : aO T0 52 [(0, .s n), (1, .agg (aH (gS s) (.nilz true) (.nilz true)))] = some (.agg (.s n :: aH (gS s) (.nilz true) (.nilz true))) := by kernel_rfl
theorem fr2 (n s : List UInt8) : cE T0 33 1 [(0, .agg (.s n :: aH (gS s) (.nilz true) (.nilz true)))] = some (.lst [az (.mk n (gS s))]) := by rw [bk, aw]; kernel_rfl
theorem fr3 (L : List AV) : aO T0 35 [(0, .i .i64 5), (4, .lst L)] = some (.agg (aH (cj []) (.nilz true) (.lst L))) := by kernel_rfl
inductive PR where
 | ok (v : Val) : PR
 | er (e : Int) : PR
def fE (v : Val) (s : XStep) : Val := if 0 <= chI v s then (if s.kind_ = 1 then (v.fields.getD (chI v s).toNat default).v else v.list.getD (chI v s).toNat default) else cP s
def oB (v : Val) (s : XStep) (y : Val) : Val := if s.kind_ = 1 then io v s.name_ y else iI (if chI v s < 0 then v.list ++ [y] else v.list.set (chI v s).toNat y)
def wrK (v : Val) (s : XStep) : Prop := (s.kind_ = 1 /\ v.kind ≠ 5) ∨ (s.kind_ ≠ 1 /\ v.kind ≠ 4)
instance (v : Val) (s : XStep) : Decidable (wrK v s) := by unfold wrK; infer_instance
def ei : Val -> List XStep -> Val -> PR
 | _, [], x => .ok x
 | v, s :: p, x =>
  if wrK v s then .er 6
  else if s.kind_ = 2 /\ ((v.list.length : Nat) : Int) < s.index_ then .er 5
  else match ei (fE v s) p x with
   | .er e => .er e
   | .ok y => if s.kind_ = 3 /\ mtB y s.name_ s.value_ = false then .er 6 else .ok (oB v s y)
theorem lD (v x : Val) : ei v [] x = .ok x := by rw [ei]
theorem fD (v : Val) (s : XStep) (p : List XStep) (x : Val) : ei v (s :: p) x = if wrK v s then .er 6 else if s.kind_ = 2 /\ ((v.list.length : Nat) : Int) < s.index_ then .er 5 else match ei (fE v s) p x with
   | .er e => .er e
   | .ok y => if s.kind_ = 3 /\ mtB y s.name_ s.value_ = false then .er 6 else .ok (oB v s y) := by rw [ei]
theorem xp {v : Val} {s : XStep} {p : List XStep} {x : Val} (h : wrK v s) : ei v (s :: p) x = .er 6 := by rw [fD, if_pos h]
theorem un {v : Val} {s : XStep} {p : List XStep} {x : Val} (h : ¬ wrK v s) (h2 : s.kind_ = 2 /\ ((v.list.length : Nat) : Int) < s.index_) : ei v (s :: p) x = .er 5 := by rw [fD, if_neg h, if_pos h2]
theorem um {v : Val} {s : XStep} {p : List XStep} {x : Val} {e : Int} (h : ¬ wrK v s) (h2 : ¬ (s.kind_ = 2 /\ ((v.list.length : Nat) : Int) < s.index_)) (h3 : ei (fE v s) p x = .er e) : ei v (s :: p) x = .er e := by rw [fD, if_neg h, if_neg h2, h3]
theorem xq {v y : Val} {s : XStep} {p : List XStep} {x : Val} (h : ¬ wrK v s) (h2 : ¬ (s.kind_ = 2 /\ ((v.list.length : Nat) : Int) < s.index_)) (h3 : ei (fE v s) p x = .ok y) (h4 : s.kind_ = 3 /\ mtB y s.name_ s.value_ = false) : ei v (s :: p) x = .er 6 := by rw [fD, if_neg h, if_neg h2, h3]; exact if_pos h4
theorem pe {v y : Val} {s : XStep} {p : List XStep} {x : Val} (h : ¬ wrK v s) (h2 : ¬ (s.kind_ = 2 /\ ((v.list.length : Nat) : Int) < s.index_)) (h3 : ei (fE v s) p x = .ok y) (h4 : ¬ (s.kind_ = 3 /\ mtB y s.name_ s.value_ = false)) : ei v (s :: p) x = .ok (oB v s y) := by rw [fD, if_neg h, if_neg h2, h3]; exact if_neg h4
def prA : PR -> AV
 | .ok w => .tup [aj w, .i .i64 0]
 | .er e => .tup [aj default, .i .i64 e]
def Gd (v : Val) : Prop := smV v /\ ∀ q w, li v q = some w -> Dif w.fields /\ w.list.length <= 64 /\ w.fields.length <= 64
theorem Gd.here {v : Val} (h : Gd v) : Dif v.fields /\ v.list.length <= 64 /\ v.fields.length <= 64 := h.2 [] v (mf v)
theorem Gd.step {v w : Val} {x : XStep} (h : Gd v) (hs : fQ v x = some w) : Gd w := ⟨pL h.1 hs, fun q u hq => h.2 (x :: q) u (by rw [kA hs]; exact hq)⟩
theorem gd_leaf {v : Val} (sm : smV v) (hl : v.list = []) (hf : v.fields = []) : Gd v := by
 refine ⟨sm, fun q w hq => ?_⟩
 cases q with
 | nil =>
  rw [mf] at hq; injection hq with hq; subst hq
  rw [hl, hf]; exact ⟨List.Pairwise.nil, Nat.zero_le _, Nat.zero_le _⟩
 | cons x q =>
  exfalso
  have hb := jk (v := v) (x := x)
  cases hs : fQ v x with
  | none => rw [kB hs] at hq; cases hq
  | some u =>
   unfold fQ at hs
   split at hs
   ·cases hs
   ·rename_i h0
    have hb := hb (by omega)
    rw [hl, hf, List.length_nil, List.length_nil] at hb
    by_cases k : x.kind_ = 1
    ·have := hb.1 k; omega
    ·have := hb.2 k; omega
theorem smStr {s : List UInt8} (h : s.length <= 100000) : smV (gS s) := smV.of ⟨show (Lit.int .i64 3).wf = true by decide, show (Lit.int .i64 0).wf = true by decide⟩ h (by simp [gS, Val.list]) (by simp [gS, Val.fields]) (fun x h => by cases h) (fun x h => by cases h)
theorem yq {l : List Fld} (hl : l.length <= 1) (ho : ∀ f ∈ l, smF f) (hv : ∀ f ∈ l, f.v.list = [] /\ f.v.fields = []) : Gd (cj l) := by
 refine ⟨smMap (by omega) ho, fun q w hq => ?_⟩
 have e1 : (cj l).fields = l := rfl
 have e2 : (cj l).list = [] := rfl
 cases q with
 | nil =>
  rw [mf] at hq; injection hq with hq; subst hq
  rw [e1, e2]
  refine ⟨?_, Nat.zero_le _, by omega⟩
  match l, hl with
  | [], _ => exact List.Pairwise.nil
  | [a], _ => exact List.pairwise_singleton _ _
 | cons x q =>
  cases hs : fQ (cj l) x with
  | none => rw [kB hs] at hq; cases hq
  | some u =>
   rw [kA hs] at hq
   have hb := jk (v := cj l) (x := x)
   unfold fQ at hs
   rw [e1, e2] at hb hs
   generalize chI (cj l) x = c at hb hs
   split at hs
   ·cases hs
   ·rename_i h0
    have hb := hb (by omega)
    injection hs with hs
    by_cases k : x.kind_ = 1
    ·rw [if_pos k] at hs
     have h1 := hb.1 k
     have hm : l.getD c.toNat default ∈ l := bh (by omega)
     have hl := hv _ hm
     rw [hs] at hl
     exact (gd_leaf (hs ▸ (eO (ho _ hm)).2) hl.1 hl.2).2 q w hq
    ·have := hb.2 k; rw [List.length_nil] at this; omega
theorem vl {s : XStep} (hn : s.name_.length <= 100000) (hv : s.value_.length <= 100000) : Gd (cP s) := by
 unfold cP; split
 ·exact yq (by simp) (fun f hf => by rw [List.mem_singleton.1 hf]; exact .of hn (smStr hv)) (fun f hf => by rw [List.mem_singleton.1 hf]; exact ⟨rfl, rfl⟩)
 ·exact yq (by simp) (fun f hf => by cases hf) (fun f hf => by cases hf)
theorem qv {v : Val} {s : XStep} (h : Gd v) (hn : s.name_.length <= 100000) (hv : s.value_.length <= 100000) : Gd (fE v s) := by
 unfold fE; split
 ·rename_i h0
  refine h.step (x := s) ?_
  unfold fQ; rw [if_neg (by omega)]
 ·exact vl hn hv
theorem qd (v : Val) (nm : List UInt8) : (eJ v nm).length <= v.fields.length := by
 unfold eJ; split
 ·exact List.length_filter_le _ _
 ·exact Nat.zero_le _
theorem lH {v : Val} {nm : List UInt8} {f : Fld} (h : f ∈ eJ v nm) : f ∈ v.fields /\ f.name ≠ nm := by
 unfold eJ at h; split at h
 ·have := List.mem_filter.1 h
  refine ⟨this.1, fun e => ?_⟩
  have h2 := this.2; unfold fm at h2; rw [e] at h2; simp at h2
 ·cases h
theorem uu {v : Val} {nm : List UInt8} {x : Val} (h : Dif v.fields) : Dif (eJ v nm ++ [.mk nm x]) := by
 refine List.pairwise_append.2 ⟨?_, List.pairwise_singleton _ _, fun a ha b hb => ?_⟩
 ·unfold eJ; split
  ·exact h.sublist List.filter_sublist
  ·exact List.Pairwise.nil
 ·rw [List.mem_singleton.1 hb]; exact (lH ha).2
theorem smWith {v : Val} {nm : List UInt8} {y : Val} (h : Gd v) (hn : nm.length <= 100000) (sy : smV y) : smV (io v nm y) := by
 have hh := h.here
 have hl := qd v nm
 refine smMap (by rw [tY, List.length_append, List.length_singleton]; omega) (fun f hf => ?_)
 rcases List.mem_append.1 ((gq _).mem_iff.1 hf) with hf | hf
 ·exact (bJ h.1).2.2.2.2.2 f (lH hf).1
 ·rw [List.mem_singleton.1 hf]; exact .of hn sy
theorem smNew {v : Val} {s : XStep} {y : Val} (h : Gd v) (hn : s.name_.length <= 100000) (sy : smV y) : smV (oB v s y) := by
 have hh := h.here
 unfold oB; split
 ·exact smWith h hn sy
 ·split
  ·refine vY (by rw [List.length_append, List.length_singleton]; omega) (fun f hf => ?_)
   rcases List.mem_append.1 hf with hf | hf
   ·exact (bJ h.1).2.2.2.2.1 f hf
   ·rw [List.mem_singleton.1 hf]; exact sy
  ·refine vY (by rw [List.length_set]; omega) (fun f hf => ?_)
   rcases List.mem_or_eq_of_mem_set hf with hf | rfl
   ·exact (bJ h.1).2.2.2.2.1 f hf
   ·exact sy
def stS (s : XStep) : Prop := s.name_.length <= 100000 /\ s.value_.length <= 100000
theorem rr : ∀ (p : List XStep) (v x y : Val), (∀ s ∈ p, stS s) -> Gd v -> smV x -> ei v p x = .ok y -> smV y
 | [], v, x, y, _, _, sx, h => by rw [lD] at h; injection h with h; rw [<- h]; exact sx
 | s :: p, v, x, y, hp, hv, sx, h => by
  have hs := hp s (List.mem_cons_self ..)
  rw [fD] at h
  split at h
  ·cases h
  ·split at h
   ·cases h
   ·split at h
    ·cases h
    ·rename_i u hu
     have su := rr p _ x u (fun t ht => hp t (List.mem_cons_of_mem _ ht)) (qv hv hs.1 hs.2) sx hu
     split at h
     ·cases h
     ·injection h with h; rw [<- h]; exact smNew hv hs.1 su
theorem gy {s : XStep} (h : cf s = true) : stS s := by
 have := eI h
 exact ⟨by omega, by omega⟩
theorem bl_trans : ∀ a b c : List UInt8, Op.bytesLess a b = true -> Op.bytesLess b c = true -> Op.bytesLess a c = true := by
 intro a b c h1 h2
 cases hc : Op.bytesLess a c with
 | true => rfl
 | false => rw [bl_nt _ _ _ (mz _ _ h2) hc] at h1; cases h1
theorem ord_lt {l : List Fld} (h : ∀ i, i < l.length -> lJ l i = true) : ∀ i j, i < j -> j < l.length -> Op.bytesLess (l.getD i default).name (l.getD j default).name = true := by
 intro i j
 induction j with
 | zero => intro h; omega
 | succ j ih =>
  intro hij hj
  have h1 := h (j + 1) hj
  unfold lJ at h1
  rw [decide_eq_false (by omega), Bool.false_or, Nat.add_sub_cancel] at h1
  by_cases e : i = j
  ·rw [e]; exact h1
  ·exact bl_trans _ _ _ (ih (by omega) (by omega)) h1
theorem ord_dif {l : List Fld} (h : ∀ i, i < l.length -> lJ l i = true) : Dif l := by
 unfold Dif
 rw [List.pairwise_iff_getElem]
 intro i j hi hj hij e
 have := ord_lt h i j hij hj
 rw [List.getD_eq_getElem?_getD, List.getD_eq_getElem?_getD, List.getElem?_eq_getElem hi, List.getElem?_eq_getElem hj] at this
 simp only [Option.getD_some] at this
 rw [e] at this
 have h2 := mz _ _ this
 rw [h2] at this; cases this
theorem vT {k : Nat} {v w : Val} {x : XStep} (h : aW (k + 1) v = true) (hs : fQ v x = some w) : aW k w = true := by
 rw [aW] at h
 simp only [Bool.and_eq_true, List.all_eq_true] at h
 obtain ⟨⟨_, h2⟩, h3⟩ := h
 unfold fQ at hs
 split at hs
 ·cases hs
 ·rename_i h0
  have hb := jk (v := v) (x := x) (by omega)
  injection hs with hs; subst hs
  split
  ·rename_i k; have := hb.1 k
   exact (h3 (chI v x).toNat (List.mem_range.2 (by omega))).2
  ·rename_i k; have := hb.2 k
   exact h2 _ (bh (by omega))
theorem vU {k : Nat} {v : Val} (h : aW k v = true) : Dif v.fields /\ v.list.length <= 64 /\ v.fields.length <= 64 := by
 cases k with
 | zero => rw [aW] at h; cases h
 | succ k =>
  rw [aW] at h
  simp only [Bool.and_eq_true, List.all_eq_true] at h
  obtain ⟨⟨h1, _⟩, h3⟩ := h
  unfold jA at h1
  simp only [Bool.and_eq_true, decide_eq_true_eq] at h1
  exact ⟨ord_dif (fun i hi => (h3 i (List.mem_range.2 hi)).1.2), h1.1.2, h1.2⟩
theorem tQ : ∀ (q : List XStep) (k : Nat) (v w : Val), aW k v = true -> li v q = some w -> ∃ k', aW k' w = true
 | [], k, v, w, h, hq => by rw [mf] at hq; injection hq with hq; exact ⟨k, hq ▸ h⟩
 | x :: q, k, v, w, h, hq => by
  cases hs : fQ v x with
  | none => rw [kB hs] at hq; cases hq
  | some u =>
   rw [kA hs] at hq
   cases k with
   | zero => rw [aW] at h; cases h
   | succ k => exact tQ q k u w (vT h hs) hq
theorem pG {v : Val} (sm : smV v) (h : eV v = true) : Gd v := by
 unfold eV at h
 rw [Bool.and_eq_true] at h
 refine ⟨sm, fun q w hq => ?_⟩
 obtain ⟨k', hk⟩ := tQ q _ v w h.1 hq
 exact vU hk
section
variable {h : Tr AB} {x : XStep} {id e : Nat} {g : Bool}
theorem sk0 (hg : h.get id = some (.cells (aq x).cells e g)) : ac T0 h 3 (.ptr id 0) = some (.i .i64 x.kind_) := by rw [cM hg (Nat.zero_le _)]; exact da x
theorem sk1 (hg : h.get id = some (.cells (aq x).cells e g)) : ac T0 h 9 (.ptr id 1) = some (.s x.name_) := by rw [cM hg (show 1 <= 4 by decide)]; exact dA x
theorem sk2 (hg : h.get id = some (.cells (aq x).cells e g)) : ac T0 h 3 (.ptr id 2) = some (.i .i64 x.index_) := by rw [cM hg (show 2 <= 4 by decide)]; exact dX x
theorem sk3 (hg : h.get id = some (.cells (aq x).cells e g)) : ac T0 h 9 (.ptr id 3) = some (.s x.value_) := by rw [cM hg (show 3 <= 4 by decide)]; exact dW x
theorem skx (hg : h.get id = some (.cells (aq x).cells e g)) : ac T0 h 50 (.ptr id 0) = some (aq x) := by rw [cM hg (Nat.zero_le _)]; exact ie x
end
theorem c88 (x : XStep) : R T0 88 [aq x] (aj (cP x)) := by
 refine r88 _ rfl rfl ?_
 unfold w88
 dsimp only [av]
 rw [aS, aS]
 simp only [Nat.zero_add, Nat.reduceAdd]
 have g0 : ((Tr.nil.put 0 (some (.cells (aq x).cells 50 false))).put 1 (some (.cells [.i .i64 0, .i .i64 0, .s [], .nilz true, .nilz true] 35 false)) : Tr AB).get 0 = some (.cells (aq x).cells 50 false) := by rw [ae _ _ (by decide), af]
 have g1 : ((Tr.nil.put 0 (some (.cells (aq x).cells 50 false))).put 1 (some (.cells [.i .i64 0, .i .i64 0, .s [], .nilz true, .nilz true] 35 false)) : Tr AB).get 1 = some (.cells [.i .i64 0, .i .i64 0, .s [], .nilz true, .nilz true] 35 false) := af _ _ _
 generalize ((Tr.nil.put 0 (some (.cells (aq x).cells 50 false))).put 1 (some (.cells [.i .i64 0, .i .i64 0, .s [], .nilz true, .nilz true] 35 false)) : Tr AB) = h at g0 g1 |-
 simp only [bT, Nat.zero_add]
 rw [aa, sk0 g0, aa, bG, aa]
 by_cases k3 : x.kind_ = 3
 ·rw [decide_eq_true k3, aG, aa, sk1 g0, aa, aa, sk3 g0, aa, bld3, aa, fr1, aa, fr2, aa, fr3, aa, gz rfl g1 rfl rfl, aF, l5 (af _ _ _), aa]
  refine ⟨4, _, eA (v := cj []) (l := []) (f := [.mk x.name_ (gS x.value_)]) (cC 2 (a := .nilz true) rfl) (qw _), ?_⟩
  unfold cP; rw [if_pos k3]; rfl
 ·rw [decide_eq_false k3, aA, bld5, aa, gz rfl g1 rfl rfl, aF, l5 (af _ _ _), aa]
  refine ⟨4, _, eA (v := cj []) (l := []) (f := []) (cC 2 (a := .nilz true) rfl) (cC 2 (a := .nilz true) rfl), ?_⟩
  unfold cP; rw [if_neg k3]; rfl
theorem e88 {x : XStep} {d : Nat} {σ : AS} {K : AV -> AS -> Prop} : oC T0 d 88 [aq x] σ K = K (aj (cP x)) σ := (c88 x).eq d σ K
def rplV (l : List Val) (i : Nat) (x : Val) : List Val := l.take i ++ (x :: l.drop (i + 1))
theorem c90 (l : List Val) (i : Nat) (x : Val) (hl : l.length <= 100000) (hi : i <= l.length) : R T0 90 [.lst (l.map aj), .i .i64 (i : Nat), aj x] (.lst ((rplV l i x).map aj)) := by
 refine r90 _ _ _ (by rw [aw]; rfl) (by rw [aw]; rfl) ?_
 unfold w90
 dsimp only [av]
 rw [aS]
 simp only [Nat.zero_add]
 have g0 : (Tr.nil.put 0 (some (.cells (aj x).cells 35 false)) : Tr AB).get 0 = some (.cells (aj x).cells 35 false) := af _ _ _
 generalize (Tr.nil.put 0 (some (.cells (aj x).cells 35 false)) : Tr AB) = h at g0 |-
 rw [xK, aa, wZ hi, aa]
 obtain ⟨x1, ⟨h1, n1⟩, a1, o1, m1, k1⟩ := vM (h := h) (n := 1) (m := 1) (x := .nilz false) (l := []) (l' := l.take i) OwnW.none (by decide) (by rw [List.length_take, List.length_nil]; omega)
 dsimp only at o1 m1 k1
 rw [a1, aM]
 have g1 := (k1 0 (by decide)).trans g0
 rw [bY g1, aa, pm, aa]
 obtain ⟨x2, ⟨h2, n2⟩, a2, o2, m2, k2⟩ := vM (l' := [x]) o1 m1 (by rw [List.nil_append, List.length_take, List.length_singleton]; omega)
 dsimp only at o2 m2 k2
 have a2 : aD T0 ⟨h1, n1⟩ 32 32 x1 (.lst [aj x]) = some (x2, ⟨h2, n2⟩) := a2
 rw [a2, aM, iL, ii, aa, cw, aa, List.length_map]
 by_cases hlt : i < l.length
 ·rw [decide_eq_true (by omega), aG, aC, cx (by omega) (by omega), aa]
  have e1 : ((i : Nat) : Int) + 1 = ((i + 1 : Nat) : Int) := by omega
  rw [e1, sP (by omega), aa]
  obtain ⟨x3, ⟨h3, n3⟩, a3, o3, m3, k3⟩ := vM (l' := l.drop (i + 1)) o2 (by omega) (by rw [List.nil_append, List.length_append, List.length_take, List.length_singleton, List.length_drop]; omega)
  dsimp only at o3 m3 k3
  rw [a3, aM]
  refine ⟨3, _, fzW elV.rowT (RowE.mapE elV _) o3, ?_⟩
  unfold rplV; rw [List.nil_append, List.append_assoc]; rfl
 ·rw [decide_eq_false (by omega), aA]
  refine ⟨3, _, fzW elV.rowT (RowE.mapE elV _) o2, ?_⟩
  unfold rplV; rw [List.nil_append, List.drop_of_length_le (show l.length <= i + 1 by omega)]
theorem own_rowV {h : Tr AB} {n m id : Nat} {l : List Val} (hr : l ≠ [] -> h.get id = some (.cells (ay aj l) 35 true)) (hm : m <= id) (hn : l ≠ [] -> id < n) : OwnW 35 m h n (l.map aj) (bB l id) := by
 cases l with
 | nil => exact .inl ⟨rfl, false, rfl⟩
 | cons a l =>
  refine .inr ⟨id, by simp, by rw [List.length_map]; rfl, hm, hn (by simp), ?_⟩
  rw [hr (by simp), bR]
theorem own_set {h : Tr AB} {n m id i : Nat} {l : List Val} {y : Val} (hr : h.get id = some (.cells (ay aj l) 35 true)) (hi : i < l.length) (hm : m <= id) (hn : id < n) :
  aB T0 h 35 (.ptr id (i * (4 + 1))) (aj y) = some (h.put id (some (.cells (ay aj (l.set i y)) 35 true))) /\ OwnW 35 m (h.put id (some (.cells (ay aj (l.set i y)) 35 true))) n ((l.set i y).map aj) (bB l id) := by
 refine ⟨dU gw hr (bg y) (fj y) ?_, .inr ⟨id, ?_, ?_, hm, hn, by rw [af, bR]⟩⟩
 ·have := jK (k := 0) (y := y) (c := (aj y).cells) bg hi (cb _ _ (by rw [bg, bg]))
  exact this
 ·intro e
  have := congrArg List.length e
  rw [List.length_map, List.length_set, List.length_nil] at this; omega
 ·rw [List.length_map, List.length_set]; exact eY (by omega)
theorem wn {σ : AS} {K : AV -> Prop} {w : Val} {e : Int} : oZ T0 σ (.tup [aj w, .i .i64 e]) K = K (.tup [aj w, .i .i64 e]) := by
 rw [dv (by show AV.idfree.idfrees [aj w, .i .i64 e] = true; rw [aw]; rfl)]
 rw [aw]; rfl
theorem lF {σ : AS} {K : AV -> Prop} {e : Int} : oZ T0 σ (.tup [.agg [.i .i64 0, .i .i64 0, .s [], .nilz true, .nilz true], .i .i64 e]) K = K (.tup [aj default, .i .i64 e]) := dv rfl
theorem lE : ∀ (p : List XStep) (v x : Val) (e : Int), ei v p x = .er e -> e = 5 ∨ e = 6
 | [], v, x, e, h => by rw [lD] at h; cases h
 | s :: p, v, x, e, h => by
  rw [fD] at h
  split at h
  ·injection h with h; exact .inr h.symm
  ·split at h
   ·injection h with h; exact .inl h.symm
   ·split at h
    ·rename_i e' he; injection h with h; rw [<- h]; exact lE p _ x e' he
    ·split at h
     ·injection h with h; exact .inr h.symm
     ·cases h
theorem fresh3 {s : XStep} (k3 : s.kind_ = 3) : io (cj []) s.name_ (gS s.value_) = cP s := by
 unfold cP; rw [if_pos k3]; rfl
theorem with_e {v y : Val} {nm : List UInt8} (h : Gd v) (hn : nm.length <= 100000) (sy : smV y) {d : Nat} {σ : AS} {K : AV -> AS -> Prop} : oC T0 d 86 [aj v, .s nm, aj y] σ K = K (aj (io v nm y)) σ := by
 have hh := h.here
 have hl := qd v nm
 exact (c86 v nm y h.1 hn sy (by omega) (fun f hf => (bJ h.1).2.2.2.2.2 f (lH hf).1) (uu hh.1)).eq d σ K
theorem gd_map0 : Gd (cj []) := by
 have := vl (s := ⟨1, [], 0, []⟩) (by simp) (by simp)
 exact this
theorem c55 : ∀ (p : List XStep) (v x : Val), (∀ s ∈ p, cf s = true) -> Gd v -> smV x -> R T0 55 [aj v, .lst (p.map aq), aj x] (prA (ei v p x))
 | [], v, x, hp, hv, sx => by
  refine r55 _ _ _ (by rw [aw, aw]; rfl) (by rw [aw, aw]; rfl) ?_
  unfold w55
  dsimp only [av]
  rw [aS, aS, aS]
  simp only [Nat.zero_add, Nat.reduceAdd]
  have g1 : (((Tr.nil.put 0 (some (.cells (aj v).cells 35 false))).put 1 (some (.cells (aj x).cells 35 false))).put 2 (some (.cells [.i .i64 0, .i .i64 0, .s [], .nilz true, .nilz true] 35 false)) : Tr AB).get 1 = some (.cells (aj x).cells 35 false) := by
   rw [ae _ _ (by decide), af]
  have g2 : (((Tr.nil.put 0 (some (.cells (aj v).cells 35 false))).put 1 (some (.cells (aj x).cells 35 false))).put 2 (some (.cells [.i .i64 0, .i .i64 0, .s [], .nilz true, .nilz true] 35 false)) : Tr AB).get 2 = some (.cells [.i .i64 0, .i .i64 0, .s [], .nilz true, .nilz true] 35 false) := af _ _ _
  generalize (((Tr.nil.put 0 (some (.cells (aj v).cells 35 false))).put 1 (some (.cells (aj x).cells 35 false))).put 2 (some (.cells [.i .i64 0, .i .i64 0, .s [], .nilz true, .nilz true] 35 false)) : Tr AB) = h at g1 g2 |-
  rw [fi, aa, bG, aa, List.map_nil, List.length_nil, decide_eq_true (by decide), aG, bY g1, aa, dx rfl g2, aF, oK, aa, lD]
  rw [wn]; rfl
 | s :: p, v, x, hp, hv, sx => by
  have hs := hp s (List.mem_cons_self ..)
  have hst := gy hs
  have hk := eI hs
  have sm := hv.1
  have hh := hv.here
  have ih := c55 p (fE v s) x (fun t ht => hp t (List.mem_cons_of_mem _ ht)) (qv hv hst.1 hst.2) sx
  have hsm := rr p (fE v s) x
  have hsm := fun y => hsm y (fun t ht => gy (hp t (List.mem_cons_of_mem _ ht))) (qv hv hst.1 hst.2) sx
  have her := lE p (fE v s) x
  have hb := jk (v := v) (x := s)
  refine r55 _ _ _ (by rw [aw, aw]; rfl) (by rw [aw, aw]; rfl) ?_
  unfold w55
  dsimp only [av]
  rw [aS, aS, aS]
  simp only [Nat.zero_add, Nat.reduceAdd]
  have g0 : (((Tr.nil.put 0 (some (.cells (aj v).cells 35 false))).put 1 (some (.cells (aj x).cells 35 false))).put 2 (some (.cells [.i .i64 0, .i .i64 0, .s [], .nilz true, .nilz true] 35 false)) : Tr AB).get 0 = some (.cells (aH v (.lst (v.list.map aj)) (.lst (v.fields.map az))) 35 false) := by
   rw [ae _ _ (by decide), ae _ _ (by decide), af, fN]
  have g1 : (((Tr.nil.put 0 (some (.cells (aj v).cells 35 false))).put 1 (some (.cells (aj x).cells 35 false))).put 2 (some (.cells [.i .i64 0, .i .i64 0, .s [], .nilz true, .nilz true] 35 false)) : Tr AB).get 1 = some (.cells (aj x).cells 35 false) := by
   rw [ae _ _ (by decide), af]
  have g2 : (((Tr.nil.put 0 (some (.cells (aj v).cells 35 false))).put 1 (some (.cells (aj x).cells 35 false))).put 2 (some (.cells [.i .i64 0, .i .i64 0, .s [], .nilz true, .nilz true] 35 false)) : Tr AB).get 2 = some (.cells [.i .i64 0, .i .i64 0, .s [], .nilz true, .nilz true] 35 false) := af _ _ _
  generalize (((Tr.nil.put 0 (some (.cells (aj v).cells 35 false))).put 1 (some (.cells (aj x).cells 35 false))).put 2 (some (.cells [.i .i64 0, .i .i64 0, .s [], .nilz true, .nilz true] 35 false)) : Tr AB) = h at g0 g1 g2 |-
  have q2 : ac T0 h 50 (.iptr (aq s).cells) = some (aq s) := by rw [dP, du]
  have st3 : aY T0 (h.put 3 (some (.cells [.i .i64 0, .s [], .i .i64 0, .s []] 50 false))) 50 (.ptr 3 0) (aq s) = some (3, .cells (aq s).cells 50 false) :=
   ez (by kernel_rfl) (af _ _ _) rfl rfl (cb _ _ rfl)
  rw [fi, aa, bG, aa, List.length_map, List.length_cons, decide_eq_false (by omega), aA, nh, aa, q2, aa, xa, aa, jR rfl, st3, bt, dp rfl rfl, dl]
  have g0 : ((h.put 3 (some (.cells [.i .i64 0, .s [], .i .i64 0, .s []] 50 false))).put 3 (some (.cells (aq s).cells 50 false))).get 0 = some (.cells (aH v (.lst (v.list.map aj)) (.lst (v.fields.map az))) 35 false) := by
   rw [ae _ _ (by decide), ae _ _ (by decide)]; exact g0
  have g1 : ((h.put 3 (some (.cells [.i .i64 0, .s [], .i .i64 0, .s []] 50 false))).put 3 (some (.cells (aq s).cells 50 false))).get 1 = some (.cells (aj x).cells 35 false) := by
   rw [ae _ _ (by decide), ae _ _ (by decide)]; exact g1
  have g2 : ((h.put 3 (some (.cells [.i .i64 0, .s [], .i .i64 0, .s []] 50 false))).put 3 (some (.cells (aq s).cells 50 false))).get 2 = some (.cells [.i .i64 0, .i .i64 0, .s [], .nilz true, .nilz true] 35 false) := by
   rw [ae _ _ (by decide), ae _ _ (by decide)]; exact g2
  have g3 : ((h.put 3 (some (.cells [.i .i64 0, .s [], .i .i64 0, .s []] 50 false))).put 3 (some (.cells (aq s).cells 50 false))).get 3 = some (.cells (aq s).cells 50 false) := af _ _ _
  generalize ((h.put 3 (some (.cells [.i .i64 0, .s [], .i .i64 0, .s []] 50 false))).put 3 (some (.cells (aq s).cells 50 false))) = H at g0 g1 g2 g3 |-
  clear st3 q2
  simp only [bT, Nat.zero_add]
  have L0 := l0 g0
  have S0 := sk0 g3
  have Lv : ac T0 H 35 (.ptr 0 0) = some (aj v) := by rw [l5 g0, aw]; rfl
  have guard : ∀ (A B : AS -> Prop), (wrK v s -> A ⟨H, 4⟩) -> (¬ wrK v s -> B ⟨H, 4⟩) ->
    (oV 25 (some (.ptr 3 0)) fun t25 => oV 26 (ac T0 H 3 t25) fun t26 => oV 27 (ah T0 .eql 3 true t26 (.i .i64 1)) fun t27 =>
     oG [29, 30, 31] t27 true (fun (k : C3) => oV 29 (some (.ptr 0 0)) fun t29 => oV 30 (ac T0 H 3 t29) fun t30 => oV 31 (ah T0 .neq 3 true t30 (.i .i64 5)) fun t31 => k t29 t30 t31 ⟨H, 4⟩) ⟨H, 4⟩ fun t29 t30 t31 sx5 =>
     oV 32 (au t27 (some t31) (some (.b false))) fun t32 =>
     oG [34, 35, 36, 37] t32 false (fun (k : C4) => oV 34 (some (.ptr 3 0)) fun t34 => oV 35 (ac T0 sx5.h 3 t34) fun t35 => oV 36 (ah T0 .neq 3 true t35 (.i .i64 1)) fun t36 => k t34 t35 t36 t36 sx5) sx5 fun t34 t35 t36 t37 sx6 =>
     oG [38, 39, 40, 41] t37 true (fun (k : C4) => oV 38 (some (.ptr 0 0)) fun t38 => oV 39 (ac T0 sx6.h 3 t38) fun t39 => oV 41 (ah T0 .neq 3 false t39 (.i .i64 4)) fun t41 => k t38 t39 (.i .i64 4) t41 sx6) sx6 fun t38 t39 t40 t41 sx7 =>
     oG [42] t32 false (fun (k : C1) => oV 42 (au t37 (some t41) (some (.b false))) fun t42 => k t42 sx7) sx7 fun t42 sx8 =>
     oV 43 (au t32 (some (.b true)) (some t42)) fun t43 => oI t43 (A sx8) (B sx8)) := by
   intro A B hA hB
   rw [aa, S0, aa, bG, aa]
   by_cases k1 : s.kind_ = 1
   ·rw [decide_eq_true k1, gg, aa, L0, aa, cG, aa]
    dsimp only
    rw [bw, aa]
    by_cases k5 : v.kind = 5
    ·rw [decide_eq_false (fun q => q k5), oc, aa, S0, aa, cG, aa, decide_eq_false (fun q => q k1)]
     dsimp only
     rw [rV, jC, bK, aa]
     dsimp only
     rw [bK, aa, aA]
     exact hB (by unfold wrK; omega)
    ·rw [decide_eq_true k5, rT, uX, kN, bw, aa, aG]
     exact hA (by unfold wrK; omega)
   ·rw [decide_eq_false k1, jB, bK, aa, oc, aa, S0, aa, cG, aa, decide_eq_true k1]
    dsimp only
    rw [rS, aa, L0, aa, cG, aa]
    dsimp only
    rw [jC, bw, aa]
    dsimp only
    rw [bK, aa]
    by_cases k4 : v.kind = 4
    ·rw [decide_eq_false (fun q => q k4), aA]; exact hB (by unfold wrK; omega)
    ·rw [decide_eq_true k4, aG]; exact hA (by unfold wrK; omega)
  refine guard _ _ (fun hw => ?_) (fun hw => ?_)
  ·rw [gh, aa, ge rfl g2, aF, kJ, aa, xp hw, lF]; rfl
  clear guard
  dsimp only
  rw [Lv, aa, skx g3, aa, e49 sm, c85n.eq, aS]
  dsimp only
  simp only [Nat.reduceAdd]
  rw [dx rfl (af _ _ _), aF]
  have a0 : ((H.put 4 (some (.cells [.i .i64 0, .i .i64 0, .s [], .nilz true, .nilz true] 35 false))).put 4 (some (.cells (aj (cj [])).cells 35 false))).get 0 = some (.cells (aH v (.lst (v.list.map aj)) (.lst (v.fields.map az))) 35 false) := by
   rw [ae _ _ (by decide), ae _ _ (by decide)]; exact g0
  have a1 : ((H.put 4 (some (.cells [.i .i64 0, .i .i64 0, .s [], .nilz true, .nilz true] 35 false))).put 4 (some (.cells (aj (cj [])).cells 35 false))).get 1 = some (.cells (aj x).cells 35 false) := by
   rw [ae _ _ (by decide), ae _ _ (by decide)]; exact g1
  have a2 : ((H.put 4 (some (.cells [.i .i64 0, .i .i64 0, .s [], .nilz true, .nilz true] 35 false))).put 4 (some (.cells (aj (cj [])).cells 35 false))).get 2 = some (.cells [.i .i64 0, .i .i64 0, .s [], .nilz true, .nilz true] 35 false) := by
   rw [ae _ _ (by decide), ae _ _ (by decide)]; exact g2
  have a3 : ((H.put 4 (some (.cells [.i .i64 0, .i .i64 0, .s [], .nilz true, .nilz true] 35 false))).put 4 (some (.cells (aj (cj [])).cells 35 false))).get 3 = some (.cells (aq s).cells 50 false) := by
   rw [ae _ _ (by decide), ae _ _ (by decide)]; exact g3
  have a4 : ((H.put 4 (some (.cells [.i .i64 0, .i .i64 0, .s [], .nilz true, .nilz true] 35 false))).put 4 (some (.cells (aj (cj [])).cells 35 false))).get 4 = some (.cells (aj (cj [])).cells 35 false) := af _ _ _
  clear g0 g1 g2 g3 L0 S0 Lv
  generalize ((H.put 4 (some (.cells [.i .i64 0, .i .i64 0, .s [], .nilz true, .nilz true] 35 false))).put 4 (some (.cells (aj (cj [])).cells 35 false))) = h at a0 a1 a2 a3 a4 |-
  refine join7 (P := fun v0 v1 v2 v3 v4 v5 v6 σ => v0 = .ptr 2 0 /\ v1 = .i .i64 (chI v s) /\ v2 = .ptr 0 0 /\ v3 = .ptr 3 0 /\ v4 = .ptr 1 0 /\ v5 = .lst (p.map aq) /\ v6 = .ptr 4 0 /\ 5 <= σ.n /\ σ.h.get 0 = some (.cells (aH v (.lst (v.list.map aj)) (.lst (v.fields.map az))) 35 false) /\
    σ.h.get 1 = some (.cells (aj x).cells 35 false) /\ σ.h.get 2 = some (.cells [.i .i64 0, .i .i64 0, .s [], .nilz true, .nilz true] 35 false) /\ σ.h.get 3 = some (.cells (aq s).cells 50 false) /\ σ.h.get 4 = some (.cells (aj (fE v s)).cells 35 false) /\ ¬ (s.kind_ = 2 /\ ((v.list.length : Nat) : Int) < s.index_)) ?_ ?_
  ·intro k hk'
   have fin : ∀ w : Val, w = fE v s -> ¬ (s.kind_ = 2 /\ ((v.list.length : Nat) : Int) < s.index_) -> k (.ptr 2 0) (.i .i64 (chI v s)) (.ptr 0 0) (.ptr 3 0) (.ptr 1 0) (.lst (p.map aq)) (.ptr 4 0) ⟨h.put 4 (some (.cells (aj w).cells 35 false)), 5⟩ := by
    rintro w rfl hr
    refine hk' _ _ _ _ _ _ _ _ ⟨rfl, rfl, rfl, rfl, rfl, rfl, rfl, Nat.le_refl _, ?_, ?_, ?_, ?_, af _ _ _, hr⟩
    ·dsimp only; rw [ae _ _ (by decide)]; exact a0
    ·dsimp only; rw [ae _ _ (by decide)]; exact a1
    ·dsimp only; rw [ae _ _ (by decide)]; exact a2
    ·dsimp only; rw [ae _ _ (by decide)]; exact a3
   rw [nz, aa]
   by_cases hc : 0 <= chI v s
   ·have hb := hb hc
    have hnr : ¬ (s.kind_ = 2 /\ ((v.list.length : Nat) : Int) < s.index_) := by
     rintro ⟨k2, hl⟩
     have : chI v s = -1 := by unfold chI; rw [if_neg (fun q => by omega), if_neg (fun q => by omega), if_neg (fun q => by omega)]
     omega
    rw [decide_eq_true hc, gg, aa, sk0 a3, aa, bG, aa]
    dsimp only
    rw [bw, aa]
    by_cases k1 : s.kind_ = 1
    ·have hi := hb.1 k1
     rw [decide_eq_true k1, aG, aa, l4 a0, aa, nW hc hi br, aa, nT, aa, dP, gY, aa, dx (bg _) a4, aF]
     exact fin _ (by unfold fE; rw [if_pos hc, if_pos k1]) hnr
    ·have hi := hb.2 k1
     rw [decide_eq_false k1, aA, aa, aG, aa, l3 a0, aa, rQ hc hi bg, aa, dP, fS, aa, dx (bg _) a4, aF]
     exact fin _ (by unfold fE; rw [if_pos hc, if_neg k1]) hnr
   ·have ho : fE v s = cP s := by unfold fE; rw [if_neg hc]
    rw [decide_eq_false hc, jB, bK, aa, aA, aa, aA, aa, sk0 a3, aa, bG, aa]
    have hsame : h.put 4 (some (.cells (aj (cj [])).cells 35 false)) = h.put 4 (some (.cells (aj (cj [])).cells 35 false)) := rfl
    have fin0 : cP s = cj [] -> ¬ (s.kind_ = 2 /\ ((v.list.length : Nat) : Int) < s.index_) -> k (.ptr 2 0) (.i .i64 (chI v s)) (.ptr 0 0) (.ptr 3 0) (.ptr 1 0) (.lst (p.map aq)) (.ptr 4 0) ⟨h, 5⟩ := fun hf hr =>
     hk' _ _ _ _ _ _ _ _ ⟨rfl, rfl, rfl, rfl, rfl, rfl, rfl, Nat.le_refl _, a0, a1, a2, a3, by dsimp only; rw [ho, hf]; exact a4, hr⟩
    by_cases k2 : s.kind_ = 2
    ·rw [decide_eq_true k2, yb, aa, sk2 a3, aa, aa, l3 a0, aa, ii, aa, ck, aa]
     dsimp only
     rw [bw, aa, List.length_map]
     by_cases hl : ((v.list.length : Nat) : Int) < s.index_
     ·rw [decide_eq_true hl, aG, gh, aa, ge rfl a2, aF, kJ, aa, un hw ⟨k2, hl⟩, lF]; rfl
     ·rw [decide_eq_false hl, aA, aa, sk0 a3, aa, bG, aa, decide_eq_false (by omega), aA]
      exact fin0 (by unfold cP; rw [if_neg (by omega)]) (fun q => hl q.2)
    ·rw [decide_eq_false k2, yk, bK, aa, aA, aa, sk0 a3, aa, bG, aa]
     by_cases k3 : s.kind_ = 3
     ·have st4 : aY T0 h 35 (.ptr 4 0) (aj (cP s)) = some (4, .cells (aj (cP s)).cells 35 false) := ez gw a4 (bg _) (fj _) (cb _ _ (by rw [bg, bg]))
      rw [decide_eq_true k3, aG, bY a4, aa, aa, sk1 a3, aa, aa, sk3 a3, aa, e61, with_e gd_map0 hst.1 (smStr hst.2), fresh3 k3, st4, bt, dp rfl rfl, dl]
      exact fin _ ho.symm (fun q => k2 q.1)
     ·rw [decide_eq_false k3, aA]
      exact fin0 (by unfold cP; rw [if_neg k3]) (fun q => k2 q.1)
  clear a0 a1 a2 a3 a4
  rintro _ _ _ _ _ _ _ ⟨H, n⟩ ⟨rfl, rfl, rfl, rfl, rfl, rfl, rfl, hn, a0, a1, a2, a3, a4, hr⟩
  dsimp only at hn a0 a1 a2 a3 a4 |-
  rw [bY a4, aa, bY a1, aa, ih.eq]
  cases hp : ei (fE v s) p x with
  | er e =>
   have he := her e hp
   have c2 := ((ae (H.put n (some (.cells [.i .i64 0, .i .i64 0, .s [], .nilz true, .nilz true] 35 false))) (some (.cells (aj default).cells 35 false)) (show 2 ≠ n by omega)).trans (ae H _ (show 2 ≠ n by omega))).trans a2
   show oV 100 (aI 0 (.tup [aj default, .i .i64 e])) _
   rw [ex0, aa, show aI 1 (prA (.er e)) = some (.i .i64 e) from rfl, aa, aS, dx rfl (af _ _ _), aF, cG, aa, decide_eq_true (by omega), aG, gh, aa, ge rfl c2, aF, kJ, aa, um hw hr hp, lF]; rfl
  | ok y =>
   have sy := hsm y hp
   show oV 100 (aI 0 (.tup [aj y, .i .i64 0])) _
   rw [ex0, aa, show aI 1 (prA (.ok y)) = some (.i .i64 0) from rfl, aa, aS, dx rfl (af _ _ _), aF, cG, aa, decide_eq_false (by decide), aA]
   dsimp only
   have b0 := ((ae (H.put n (some (.cells [.i .i64 0, .i .i64 0, .s [], .nilz true, .nilz true] 35 false))) (some (.cells (aj y).cells 35 false)) (show 0 ≠ n by omega)).trans (ae H _ (show 0 ≠ n by omega))).trans a0
   have b2 := ((ae (H.put n (some (.cells [.i .i64 0, .i .i64 0, .s [], .nilz true, .nilz true] 35 false))) (some (.cells (aj y).cells 35 false)) (show 2 ≠ n by omega)).trans (ae H _ (show 2 ≠ n by omega))).trans a2
   have b3 := ((ae (H.put n (some (.cells [.i .i64 0, .i .i64 0, .s [], .nilz true, .nilz true] 35 false))) (some (.cells (aj y).cells 35 false)) (show 3 ≠ n by omega)).trans (ae H _ (show 3 ≠ n by omega))).trans a3
   have bn := af (H.put n (some (.cells [.i .i64 0, .i .i64 0, .s [], .nilz true, .nilz true] 35 false))) n (some (.cells (aj y).cells 35 false))
   generalize (H.put n (some (.cells [.i .i64 0, .i .i64 0, .s [], .nilz true, .nilz true] 35 false))).put n (some (.cells (aj y).cells 35 false)) = h at b0 b2 b3 bn |-
   clear a0 a1 a2 a3 a4
   have Lv : ac T0 h 35 (.ptr 0 0) = some (aj v) := by rw [l5 b0, aw]; rfl
   simp only [bT, Nat.zero_add]
   rw [aa, sk0 b3, aa, bG, aa]
   by_cases k1 : s.kind_ = 1
   ·rw [decide_eq_true k1, aG, Lv, aa, aa, sk1 b3, aa, bY bn, aa, with_e hv hst.1 sy, dx rfl b2, aF, oK, aa, pe hw hr hp (fun q => by omega), wn]
    unfold oB; rw [if_pos k1]; rfl
   ·rw [decide_eq_false k1, aA, aa, sk0 b3, aa, bG, aa]
    have fail : ∀ σ : AS, σ = ⟨h, n + 1⟩ -> (s.kind_ = 3 /\ mtB y s.name_ s.value_ = false) -> (oV 123 (aO T0 35 []) fun t123 => oH (aB T0 σ.h 35 (.ptr 2 0) t123) σ fun sx18 => oV 6 (ac T0 sx18.h 35 (.ptr 2 0)) fun t6x2 => oZ T0 sx18 (.tup [t6x2, .i .i64 6]) (fun r2 => r2 = prA (ei v (s :: p) x))) := by
     rintro σ rfl hf
     rw [gh, aa, ge rfl b2, aF, kJ, aa, xq hw hr hp hf, lF]; rfl
    have go : ¬ (s.kind_ = 3 /\ mtB y s.name_ s.value_ = false) ->
     (oV 124 (some (.ptr 0 3)) fun t124 =>
      oV 125 (ac T0 h 32 t124) fun t125 =>
      oC T0 126 77 [t125] ⟨h, n + 1⟩ fun t126 sx18 =>
      oJ [6, 15] (fun (k : C2) =>
       oV 128 (ah T0 .lss 3 true (.i .i64 (chI v s)) (.i .i64 0)) fun t128 =>
       oI t128 (oV 130 (ac T0 sx18.h 35 (.ptr n 0)) fun t130 =>
        oV 131 (cE T0 32 1 [(0, t130)]) fun t131 =>
        oM 132 (aD T0 sx18 32 32 t126 t131) fun t132 sx19 =>
        k (.ptr 2 0) t132 sx19)
       (oV 135 (ac T0 sx18.h 35 (.ptr n 0)) fun t135 =>
        oV 136 (ai T0 32 t126 (.i .i64 (chI v s))) fun t136 =>
        oH (aB T0 sx18.h 35 t136 t135) sx18 fun sx19 =>
        k (.ptr 2 0) t126 sx19))
      (fun t6x2 t15 sx19 =>
      oC T0 138 87 [t15] sx19 fun t138 sx20 =>
      oH (aB T0 sx20.h 35 t6x2 t138) sx20 fun sx21 =>
      oV 6 (ac T0 sx21.h 35 t6x2) fun t6x3 =>
      oZ T0 sx21 (.tup [t6x3, (.i .i64 0)]) (fun r2 => r2 = prA (ei v (s :: p) x)))) := by
     intro hm
     have hh2 := hh.2.1
     have smf := bJ sm
     rw [aa, l3 b0, aa]
     obtain ⟨⟨h2, n2⟩, q1, q2, q3, q4, q5⟩ := q77 (l := v.list) (by omega) ⟨h, n + 1⟩
     dsimp only at q1 q2 q3 q4 q5
     have hrow : v.list ≠ [] -> h2.get (n + 1) = some (.cells (ay aj v.list) 35 true) := fun hne => by have := q5 aj hne; rw [gI] at this; exact this
     have c2 := (q2 2 (by omega)).trans b2
     have cn := (q2 n (by omega)).trans bn
     have fin : ∀ (l : List Val) (t15 : AV) (h3 : Tr AB) (n3 : Nat), iI l = oB v s y -> l.length <= 100000 -> (∀ f ∈ l, smV f) -> OwnW 35 (n + 1) h3 n3 (l.map aj) t15 -> h3.get 2 = some (.cells [.i .i64 0, .i .i64 0, .s [], .nilz true, .nilz true] 35 false) ->
       (oC T0 138 87 [t15] ⟨h3, n3⟩ fun t138 sx20 => oH (aB T0 sx20.h 35 (.ptr 2 0) t138) sx20 fun sx21 => oV 6 (ac T0 sx21.h 35 (.ptr 2 0)) fun t6x3 => oZ T0 sx21 (.tup [t6x3, (.i .i64 0)]) (fun r2 => r2 = prA (ei v (s :: p) x))) := by
      intro l t15 h3 n3 hl hll hls o d2
      obtain ⟨σ', hrun, hn', hk'⟩ := g87 (σ := ⟨h3, n3⟩) o hll hls
      rw [hrun.eq, dx rfl ((hk' 2 (by omega)).trans d2), aF, oK, aa, pe hw hr hp hm, wn, hl]; rfl
     rw [q1, fp, cw, aa]
     by_cases hc : chI v s < 0
     ·obtain ⟨x', ⟨h3, n3⟩, ha, hw', hn', hk'⟩ := vM (h := h2) (n := n2) (m := n + 1) (l := v.list) (l' := [y]) (own_rowV hrow (Nat.le_refl _) q4) q3 (by rw [List.length_singleton]; omega)
      have ha : aD T0 ⟨h2, n2⟩ 32 32 (bB v.list (n + 1)) (.lst [aj y]) = some (x', ⟨h3, n3⟩) := ha
      dsimp only at hw' hn' hk'
      rw [decide_eq_true hc, aG, bY cn, aa, pm, aa, ha, aM]
      refine fin (v.list ++ [y]) _ _ _ (by unfold oB; rw [if_neg k1, if_pos hc]) (by rw [List.length_append, List.length_singleton]; omega) (fun f hf => ?_) hw' ((hk' 2 (by omega)).trans c2)
      rcases List.mem_append.1 hf with hf | hf
      ·exact smf.2.2.2.2.1 f hf
      ·rw [List.mem_singleton.1 hf]; exact sy
     ·have hi := (hb (by omega)).2 k1
      obtain ⟨i, hi'⟩ : ∃ i : Nat, chI v s = (i : Nat) := ⟨(chI v s).toNat, by omega⟩
      have hil : i < v.list.length := by omega
      have hne : v.list ≠ [] := fun q => by rw [q] at hil; cases hil
      obtain ⟨w1, w2⟩ := own_set (m := n + 1) (n := n2) (y := y) (hrow hne) hil (Nat.le_refl _) (q4 hne)
      rw [decide_eq_false hc, aA, bY cn, aa, hi', eZ elV.ty elV.sz hil, aa, w1, aF]
      refine fin (v.list.set i y) _ _ _ (by unfold oB; rw [if_neg k1, if_neg hc, hi']; rfl) (by rw [List.length_set]; omega) (fun f hf => ?_) w2 (by rw [ae _ _ (by omega)]; exact c2)
      rcases List.mem_or_eq_of_mem_set hf with hf | rfl
      ·exact smf.2.2.2.2.1 f hf
      ·exact sy
    by_cases k3 : s.kind_ = 3
    ·rw [decide_eq_true k3, rS, bY bn, aa, skx b3, aa, e76 sy, cJ, aa]
     dsimp only
     rw [bw, aa]
     cases hm : mtB y s.name_ s.value_ with
     | false => rw [Bool.not_false, aG]; exact fail _ rfl ⟨k3, hm⟩
     | true => rw [Bool.not_true, aA]; exact go (fun q => by rw [hm] at q; cases q.2)
    ·rw [decide_eq_false k3, rV, bK, aa, aA]; exact go (fun q => k3 q.1)
theorem e55 {p : List XStep} {v x : Val} (hp : ∀ s ∈ p, cf s = true) (hv : Gd v) (sx : smV x) {d : Nat} {σ : AS} {K : AV -> AS -> Prop} : oC T0 d 55 [aj v, .lst (p.map aq), aj x] σ K = K (prA (ei v p x)) σ := (c55 p v x hp hv sx).eq d σ K
theorem with_r {v y : Val} {nm : List UInt8} (h : Gd v) (hn : nm.length <= 100000) (sy : smV y) {d : Nat} {σ : AS} {K : AV -> AS -> Prop} : oC T0 d 89 [aj v, .s nm, aj y] σ K = K (aj (io v nm y)) σ := by
 have hh := h.here
 have hl := qd v nm
 exact (c89 v nm y h.1 hn sy (by omega) (fun f hf => (bJ h.1).2.2.2.2.2 f (lH hf).1) (uu hh.1)).eq d σ K
theorem bld4c (L : List AV) : aO T0 35 [(0, .i .i64 4), (3, .lst L)] = some (.agg (aH (iI []) (.lst L) (.nilz true))) := bld4 L
theorem ozl {σ : AS} {K : AV -> Prop} {l : List Val} {e : Int} : oZ T0 σ (.tup [.agg (aH (iI []) (.lst (l.map aj)) (.nilz true)), .i .i64 e]) K = K (.tup [aj (iI l), .i .i64 e]) := by
 rw [dv (by rfl), aw]; rfl
theorem rpl_new {v y : Val} {s : XStep} {i : Nat} (k1 : s.kind_ ≠ 1) (h : (chI v s < 0 /\ i = v.list.length) ∨ (chI v s = (i : Nat) /\ i < v.list.length)) : iI (rplV v.list i y) = oB v s y := by
 unfold oB rplV
 rw [if_neg k1]
 rcases h with ⟨h1, rfl⟩ | ⟨h1, h2⟩
 ·rw [if_pos h1, List.take_of_length_le (Nat.le_refl _), List.drop_of_length_le (Nat.le_succ _)]
 ·rw [if_neg (by omega), h1, Int.toNat_natCast, mL h2]
theorem c56 : ∀ (p : List XStep) (v x : Val), (∀ s ∈ p, cf s = true) -> Gd v -> smV x -> R T0 56 [aj v, .lst (p.map aq), aj x] (prA (ei v p x))
 | [], v, x, hp, hv, sx => by
  refine r56 _ _ _ (by rw [aw, aw]; rfl) (by rw [aw, aw]; rfl) ?_
  unfold w56
  dsimp only [av]
  rw [aS, aS, aS]
  simp only [Nat.zero_add, Nat.reduceAdd]
  have g1 : (((Tr.nil.put 0 (some (.cells (aj v).cells 35 false))).put 1 (some (.cells (aj x).cells 35 false))).put 2 (some (.cells [.i .i64 0, .i .i64 0, .s [], .nilz true, .nilz true] 35 false)) : Tr AB).get 1 = some (.cells (aj x).cells 35 false) := by
   rw [ae _ _ (by decide), af]
  have g2 : (((Tr.nil.put 0 (some (.cells (aj v).cells 35 false))).put 1 (some (.cells (aj x).cells 35 false))).put 2 (some (.cells [.i .i64 0, .i .i64 0, .s [], .nilz true, .nilz true] 35 false)) : Tr AB).get 2 = some (.cells [.i .i64 0, .i .i64 0, .s [], .nilz true, .nilz true] 35 false) := af _ _ _
  generalize (((Tr.nil.put 0 (some (.cells (aj v).cells 35 false))).put 1 (some (.cells (aj x).cells 35 false))).put 2 (some (.cells [.i .i64 0, .i .i64 0, .s [], .nilz true, .nilz true] 35 false)) : Tr AB) = h at g1 g2 |-
  rw [fi, aa, bG, aa, List.map_nil, List.length_nil, decide_eq_true (by decide), aG, bY g1, aa, dx rfl g2, aF, oK, aa, lD]
  rw [wn]; rfl
 | s :: p, v, x, hp, hv, sx => by
  have hs := hp s (List.mem_cons_self ..)
  have hst := gy hs
  have hk := eI hs
  have sm := hv.1
  have hh := hv.here
  have ih := c56 p (fE v s) x (fun t ht => hp t (List.mem_cons_of_mem _ ht)) (qv hv hst.1 hst.2) sx
  have hsm := rr p (fE v s) x
  have hsm := fun y => hsm y (fun t ht => gy (hp t (List.mem_cons_of_mem _ ht))) (qv hv hst.1 hst.2) sx
  have her := lE p (fE v s) x
  have hb := jk (v := v) (x := s)
  refine r56 _ _ _ (by rw [aw, aw]; rfl) (by rw [aw, aw]; rfl) ?_
  unfold w56
  dsimp only [av]
  rw [aS, aS, aS]
  simp only [Nat.zero_add, Nat.reduceAdd]
  have g0 : (((Tr.nil.put 0 (some (.cells (aj v).cells 35 false))).put 1 (some (.cells (aj x).cells 35 false))).put 2 (some (.cells [.i .i64 0, .i .i64 0, .s [], .nilz true, .nilz true] 35 false)) : Tr AB).get 0 = some (.cells (aH v (.lst (v.list.map aj)) (.lst (v.fields.map az))) 35 false) := by
   rw [ae _ _ (by decide), ae _ _ (by decide), af, fN]
  have g1 : (((Tr.nil.put 0 (some (.cells (aj v).cells 35 false))).put 1 (some (.cells (aj x).cells 35 false))).put 2 (some (.cells [.i .i64 0, .i .i64 0, .s [], .nilz true, .nilz true] 35 false)) : Tr AB).get 1 = some (.cells (aj x).cells 35 false) := by
   rw [ae _ _ (by decide), af]
  have g2 : (((Tr.nil.put 0 (some (.cells (aj v).cells 35 false))).put 1 (some (.cells (aj x).cells 35 false))).put 2 (some (.cells [.i .i64 0, .i .i64 0, .s [], .nilz true, .nilz true] 35 false)) : Tr AB).get 2 = some (.cells [.i .i64 0, .i .i64 0, .s [], .nilz true, .nilz true] 35 false) := af _ _ _
  generalize (((Tr.nil.put 0 (some (.cells (aj v).cells 35 false))).put 1 (some (.cells (aj x).cells 35 false))).put 2 (some (.cells [.i .i64 0, .i .i64 0, .s [], .nilz true, .nilz true] 35 false)) : Tr AB) = h at g0 g1 g2 |-
  have q2 : ac T0 h 50 (.iptr (aq s).cells) = some (aq s) := by rw [dP, du]
  have st3 : aB T0 (h.put 3 (some (.cells [.i .i64 0, .s [], .i .i64 0, .s []] 50 false))) 50 (.ptr 3 0) (aq s) = some ((h.put 3 (some (.cells [.i .i64 0, .s [], .i .i64 0, .s []] 50 false))).put 3 (some (.cells (aq s).cells 50 false))) :=
   dU (by kernel_rfl) (af _ _ _) rfl rfl (cb _ _ rfl)
  rw [fi, aa, bG, aa, List.length_map, List.length_cons, decide_eq_false (by omega), aA, nh, aa, q2, aa, aS, st3, aF]
  have g0 : ((h.put 3 (some (.cells [.i .i64 0, .s [], .i .i64 0, .s []] 50 false))).put 3 (some (.cells (aq s).cells 50 false))).get 0 = some (.cells (aH v (.lst (v.list.map aj)) (.lst (v.fields.map az))) 35 false) := by
   rw [ae _ _ (by decide), ae _ _ (by decide)]; exact g0
  have g1 : ((h.put 3 (some (.cells [.i .i64 0, .s [], .i .i64 0, .s []] 50 false))).put 3 (some (.cells (aq s).cells 50 false))).get 1 = some (.cells (aj x).cells 35 false) := by
   rw [ae _ _ (by decide), ae _ _ (by decide)]; exact g1
  have g2 : ((h.put 3 (some (.cells [.i .i64 0, .s [], .i .i64 0, .s []] 50 false))).put 3 (some (.cells (aq s).cells 50 false))).get 2 = some (.cells [.i .i64 0, .i .i64 0, .s [], .nilz true, .nilz true] 35 false) := by
   rw [ae _ _ (by decide), ae _ _ (by decide)]; exact g2
  have g3 : ((h.put 3 (some (.cells [.i .i64 0, .s [], .i .i64 0, .s []] 50 false))).put 3 (some (.cells (aq s).cells 50 false))).get 3 = some (.cells (aq s).cells 50 false) := af _ _ _
  generalize ((h.put 3 (some (.cells [.i .i64 0, .s [], .i .i64 0, .s []] 50 false))).put 3 (some (.cells (aq s).cells 50 false))) = H at g0 g1 g2 g3 |-
  clear st3 q2
  simp only [bT, Nat.zero_add]
  have L0 := l0 g0
  have S0 := sk0 g3
  have Lv : ac T0 H 35 (.ptr 0 0) = some (aj v) := by rw [l5 g0, aw]; rfl
  have guard : ∀ (A B : AS -> Prop), (wrK v s -> A ⟨H, 4⟩) -> (¬ wrK v s -> B ⟨H, 4⟩) ->
    (oV 19 (some (.ptr 3 0)) fun t19 => oV 20 (ac T0 H 3 t19) fun t20 => oV 21 (ah T0 .eql 3 true t20 (.i .i64 1)) fun t21 =>
     oG [23, 24, 25] t21 true (fun (k : C3) => oV 23 (some (.ptr 0 0)) fun t23 => oV 24 (ac T0 H 3 t23) fun t24 => oV 25 (ah T0 .neq 3 true t24 (.i .i64 5)) fun t25 => k t23 t24 t25 ⟨H, 4⟩) ⟨H, 4⟩ fun t23 t24 t25 sx6 =>
     oV 26 (au t21 (some t25) (some (.b false))) fun t26 =>
     oG [28, 29, 30, 31] t26 false (fun (k : C4) => oV 28 (some (.ptr 3 0)) fun t28 => oV 29 (ac T0 sx6.h 3 t28) fun t29 => oV 30 (ah T0 .neq 3 true t29 (.i .i64 1)) fun t30 => k t28 t29 t30 t30 sx6) sx6 fun t28 t29 t30 t31 sx7 =>
     oG [32, 33, 34] t31 true (fun (k : C3) => oV 32 (some (.ptr 0 0)) fun t32 => oV 33 (ac T0 sx7.h 3 t32) fun t33 => oV 34 (ah T0 .neq 3 true t33 (.i .i64 4)) fun t34 => k t32 t33 t34 sx7) sx7 fun t32 t33 t34 sx8 =>
     oG [35] t26 false (fun (k : C1) => oV 35 (au t31 (some t34) (some (.b false))) fun t35 => k t35 sx8) sx8 fun t35 sx9 =>
     oV 36 (au t26 (some (.b true)) (some t35)) fun t36 => oI t36 (A sx9) (B sx9)) := by
   intro A B hA hB
   rw [aa, S0, aa, bG, aa]
   by_cases k1 : s.kind_ = 1
   ·rw [decide_eq_true k1, gg, aa, L0, aa, cG, aa]
    dsimp only
    rw [bw, aa]
    by_cases k5 : v.kind = 5
    ·rw [decide_eq_false (fun q => q k5), oc, aa, S0, aa, cG, aa, decide_eq_false (fun q => q k1)]
     dsimp only
     rw [jB, jC, bK, aa]
     dsimp only
     rw [bK, aa, aA]
     exact hB (by unfold wrK; omega)
    ·rw [decide_eq_true k5, rT, uY, kN, bw, aa, aG]
     exact hA (by unfold wrK; omega)
   ·rw [decide_eq_false k1, jB, bK, aa, oc, aa, S0, aa, cG, aa, decide_eq_true k1]
    dsimp only
    rw [gg, aa, L0, aa, cG, aa]
    dsimp only
    rw [jC, bw, aa]
    dsimp only
    rw [bK, aa]
    by_cases k4 : v.kind = 4
    ·rw [decide_eq_false (fun q => q k4), aA]; exact hB (by unfold wrK; omega)
    ·rw [decide_eq_true k4, aG]; exact hA (by unfold wrK; omega)
  refine guard _ _ (fun hw => ?_) (fun hw => ?_)
  ·rw [gh, aa, ge rfl g2, aF, kJ, aa, xp hw, lF]; rfl
  clear guard
  dsimp only
  rw [aa, S0, aa, bG, aa]
  have hrange : ∀ (A B : AS -> Prop), (s.kind_ = 2 /\ ((v.list.length : Nat) : Int) < s.index_ -> A ⟨H, 4⟩) -> (¬ (s.kind_ = 2 /\ ((v.list.length : Nat) : Int) < s.index_) -> B ⟨H, 4⟩) ->
    (oG [42, 43, 44, 45, 46, 47] (.b (decide (s.kind_ = 2))) true (fun (k : C6) => oV 42 (some (.ptr 3 2)) fun t42 => oV 43 (ac T0 H 3 t42) fun t43 => oV 44 (some (.ptr 0 3)) fun t44 => oV 45 (ac T0 H 32 t44) fun t45 =>
     oV 46 (ak T0 H .len [32] [t45]) fun t46 => oV 47 (ah T0 .gtr 3 false t43 t46) fun t47 => k t42 t43 t44 t45 t46 t47 ⟨H, 4⟩) ⟨H, 4⟩ fun t42 t43 t44 t45 t46 t47 sx10 =>
     oV 48 (au (.b (decide (s.kind_ = 2))) (some t47) (some (.b false))) fun t48 => oI t48 (A sx10) (B sx10)) := by
   intro A B hA hB
   by_cases k2 : s.kind_ = 2
   ·rw [decide_eq_true k2, yb, aa, sk2 g3, aa, aa, l3 g0, aa, ii, aa, ck, aa]
    dsimp only
    rw [bw, aa, List.length_map]
    by_cases hl : ((v.list.length : Nat) : Int) < s.index_
    ·rw [decide_eq_true hl, aG]; exact hA ⟨k2, hl⟩
    ·rw [decide_eq_false hl, aA]; exact hB (fun q => hl q.2)
   ·rw [decide_eq_false k2, yk, bK, aa, aA]; exact hB (fun q => k2 q.1)
  refine hrange _ _ (fun hr => ?_) (fun hr => ?_)
  ·rw [gh, aa, ge rfl g2, aF, kJ, aa, un hw hr, lF]; rfl
  clear hrange
  dsimp only
  rw [Lv, aa, skx g3, aa, e51 sm hk.1, skx g3, aa, e88, aS]
  dsimp only
  simp only [Nat.reduceAdd]
  rw [dx rfl (af _ _ _), aF]
  have a0 : ((H.put 4 (some (.cells [.i .i64 0, .i .i64 0, .s [], .nilz true, .nilz true] 35 false))).put 4 (some (.cells (aj (cP s)).cells 35 false))).get 0 = some (.cells (aH v (.lst (v.list.map aj)) (.lst (v.fields.map az))) 35 false) := by
   rw [ae _ _ (by decide), ae _ _ (by decide)]; exact g0
  have a1 : ((H.put 4 (some (.cells [.i .i64 0, .i .i64 0, .s [], .nilz true, .nilz true] 35 false))).put 4 (some (.cells (aj (cP s)).cells 35 false))).get 1 = some (.cells (aj x).cells 35 false) := by
   rw [ae _ _ (by decide), ae _ _ (by decide)]; exact g1
  have a2 : ((H.put 4 (some (.cells [.i .i64 0, .i .i64 0, .s [], .nilz true, .nilz true] 35 false))).put 4 (some (.cells (aj (cP s)).cells 35 false))).get 2 = some (.cells [.i .i64 0, .i .i64 0, .s [], .nilz true, .nilz true] 35 false) := by
   rw [ae _ _ (by decide), ae _ _ (by decide)]; exact g2
  have a3 : ((H.put 4 (some (.cells [.i .i64 0, .i .i64 0, .s [], .nilz true, .nilz true] 35 false))).put 4 (some (.cells (aj (cP s)).cells 35 false))).get 3 = some (.cells (aq s).cells 50 false) := by
   rw [ae _ _ (by decide), ae _ _ (by decide)]; exact g3
  have a4 : ((H.put 4 (some (.cells [.i .i64 0, .i .i64 0, .s [], .nilz true, .nilz true] 35 false))).put 4 (some (.cells (aj (cP s)).cells 35 false))).get 4 = some (.cells (aj (cP s)).cells 35 false) := af _ _ _
  clear g0 g1 g2 g3 L0 S0 Lv
  generalize ((H.put 4 (some (.cells [.i .i64 0, .i .i64 0, .s [], .nilz true, .nilz true] 35 false))).put 4 (some (.cells (aj (cP s)).cells 35 false))) = h at a0 a1 a2 a3 a4 |-
  refine join7 (P := fun v0 v1 v2 v3 v4 v5 v6 σ => v0 = .ptr 2 0 /\ v1 = .ptr 4 0 /\ v2 = .i .i64 (chI v s) /\ v3 = .ptr 0 0 /\ v4 = .ptr 3 0 /\ v5 = .ptr 1 0 /\ v6 = .lst ((s :: p).map aq) /\ σ.n = 5 /\ σ.h.get 0 = some (.cells (aH v (.lst (v.list.map aj)) (.lst (v.fields.map az))) 35 false) /\
    σ.h.get 1 = some (.cells (aj x).cells 35 false) /\ σ.h.get 2 = some (.cells [.i .i64 0, .i .i64 0, .s [], .nilz true, .nilz true] 35 false) /\ σ.h.get 3 = some (.cells (aq s).cells 50 false) /\ σ.h.get 4 = some (.cells (aj (fE v s)).cells 35 false)) ?_ ?_
  ·intro k hk'
   have fin : ∀ w : Val, w = fE v s -> k (.ptr 2 0) (.ptr 4 0) (.i .i64 (chI v s)) (.ptr 0 0) (.ptr 3 0) (.ptr 1 0) (.lst ((s :: p).map aq)) ⟨h.put 4 (some (.cells (aj w).cells 35 false)), 5⟩ := by
    rintro w rfl
    refine hk' _ _ _ _ _ _ _ _ ⟨rfl, rfl, rfl, rfl, rfl, rfl, rfl, rfl, ?_, ?_, ?_, ?_, af _ _ _⟩
    ·dsimp only; rw [ae _ _ (by decide)]; exact a0
    ·dsimp only; rw [ae _ _ (by decide)]; exact a1
    ·dsimp only; rw [ae _ _ (by decide)]; exact a2
    ·dsimp only; rw [ae _ _ (by decide)]; exact a3
   rw [nz, aa]
   by_cases hc : 0 <= chI v s
   ·have hb := hb hc
    rw [decide_eq_true hc, gg, aa, sk0 a3, aa, bG, aa]
    dsimp only
    rw [bw, aa]
    by_cases k1 : s.kind_ = 1
    ·have hi := hb.1 k1
     rw [decide_eq_true k1, aG, aa, l4 a0, aa, nW hc hi br, aa, nT, aa, dP, gY, aa, dx (bg _) a4, aF]
     exact fin _ (by unfold fE; rw [if_pos hc, if_pos k1])
    ·have hi := hb.2 k1
     rw [decide_eq_false k1, aA, aa, aG, aa, l3 a0, aa, rQ hc hi bg, aa, dP, fS, aa, dx (bg _) a4, aF]
     exact fin _ (by unfold fE; rw [if_pos hc, if_neg k1])
   ·have ho : fE v s = cP s := by unfold fE; rw [if_neg hc]
    rw [decide_eq_false hc, jB, bK, aa, aA, aa, aA]
    exact hk' _ _ _ _ _ _ _ _ ⟨rfl, rfl, rfl, rfl, rfl, rfl, rfl, rfl, a0, a1, a2, a3, by dsimp only; rw [ho]; exact a4⟩
  clear a0 a1 a2 a3 a4
  rintro _ _ _ _ _ _ _ ⟨H, n⟩ ⟨rfl, rfl, rfl, rfl, rfl, rfl, rfl, hn, a0, a1, a2, a3, a4⟩
  dsimp only at hn a0 a1 a2 a3 a4 |-
  have st4 : ∀ w : Val, aY T0 H 35 (.ptr 4 0) (aj w) = some (4, .cells (aj w).cells 35 false) := fun w => ez gw a4 (bg _) (fj _) (cb _ _ (by rw [bg, bg]))
  rw [bY a4, aa, xa, aa, bY a1, aa, ih.eq]
  cases hp : ei (fE v s) p x with
  | er e =>
   have he := her e hp
   have c2 := (ae H (some (.cells (aj default).cells 35 false)) (show 2 ≠ 4 by omega)).trans a2
   show oV 81 (aI 0 (.tup [aj default, .i .i64 e])) _
   rw [ex0, aa, show aI 1 (prA (.er e)) = some (.i .i64 e) from rfl, aa, st4, bt, dp rfl rfl, dl, cG, aa, decide_eq_true (by omega), aG, gh, aa, ge rfl c2, aF, kJ, aa, um hw hr hp, lF]; rfl
  | ok y =>
   have sy := hsm y hp
   show oV 81 (aI 0 (.tup [aj y, .i .i64 0])) _
   rw [ex0, aa, show aI 1 (prA (.ok y)) = some (.i .i64 0) from rfl, aa, st4, bt, dp rfl rfl, dl, cG, aa, decide_eq_false (by decide), aA]
   dsimp only
   have b0 := (ae H (some (.cells (aj y).cells 35 false)) (show 0 ≠ 4 by omega)).trans a0
   have b2 := (ae H (some (.cells (aj y).cells 35 false)) (show 2 ≠ 4 by omega)).trans a2
   have b3 := (ae H (some (.cells (aj y).cells 35 false)) (show 3 ≠ 4 by omega)).trans a3
   have b4 := af H 4 (some (.cells (aj y).cells 35 false))
   generalize H.put 4 (some (.cells (aj y).cells 35 false)) = h at b0 b2 b3 b4 |-
   clear a0 a1 a2 a3 a4
   have Lv : ac T0 h 35 (.ptr 0 0) = some (aj v) := by rw [l5 b0, aw]; rfl
   simp only [bT, Nat.zero_add]
   have hmt : ∀ (A B : AS -> Prop), (s.kind_ = 3 /\ mtB y s.name_ s.value_ = false -> A ⟨h, n⟩) -> (¬ (s.kind_ = 3 /\ mtB y s.name_ s.value_ = false) -> B ⟨h, n⟩) ->
     (oV 87 (some (.ptr 3 0)) fun t87 => oV 88 (ac T0 h 3 t87) fun t88 => oV 89 (ah T0 .eql 3 true t88 (.i .i64 3)) fun t89 =>
      oG [91, 92, 93, 94, 95, 96, 97] t89 true (fun (k : C7) => oV 91 (ac T0 h 35 (.ptr 4 0)) fun t91 => oV 92 (some (.ptr 3 1)) fun t92 => oV 93 (ac T0 h 9 t92) fun t93 => oV 94 (some (.ptr 3 3)) fun t94 => oV 95 (ac T0 h 9 t94) fun t95 =>
       oC T0 96 80 [t91, t93, t95] ⟨h, n⟩ fun t96 sx18 => oV 97 (cF .not t96) fun t97 => k t91 t92 t93 t94 t95 t96 t97 sx18) ⟨h, n⟩ fun t91 t92 t93 t94 t95 t96 t97 sx18 =>
      oV 98 (au t89 (some t97) (some (.b false))) fun t98 => oI t98 (A sx18) (B sx18)) := by
    intro A B hA hB
    rw [aa, sk0 b3, aa, bG, aa]
    by_cases k3 : s.kind_ = 3
    ·rw [decide_eq_true k3, rR, bY b4, aa, aa, sk1 b3, aa, aa, sk3 b3, aa, e80 sy, cJ, aa]
     dsimp only
     rw [bw, aa]
     cases hm : mtB y s.name_ s.value_ with
     | false => rw [Bool.not_false, aG]; exact hA ⟨k3, hm⟩
     | true => rw [Bool.not_true, aA]; exact hB (fun q => by rw [hm] at q; cases q.2)
    ·rw [decide_eq_false k3, rU, bK, aa, aA]; exact hB (fun q => k3 q.1)
   refine hmt _ _ (fun hm => ?_) (fun hm => ?_)
   ·rw [gh, aa, ge rfl b2, aF, kJ, aa, xq hw hr hp hm, lF]; rfl
   clear hmt
   dsimp only
   rw [aa, sk0 b3, aa, bG, aa]
   by_cases k1 : s.kind_ = 1
   ·rw [decide_eq_true k1, aG, Lv, aa, aa, sk1 b3, aa, bY b4, aa, with_r hv hst.1 sy, dx rfl b2, aF, oK, aa, pe hw hr hp hm, wn]
    unfold oB; rw [if_pos k1]; rfl
   ·rw [decide_eq_false k1, aA]
    have fin : ∀ i : Nat, i <= v.list.length -> ((chI v s < 0 /\ i = v.list.length) ∨ (chI v s = (i : Nat) /\ i < v.list.length)) ->
      (oV 113 (some (.ptr 0 3)) fun t113 => oV 114 (ac T0 h 32 t113) fun t114 => oV 116 (ac T0 h 35 (.ptr 4 0)) fun t116 => oC T0 117 90 [t114, .i .i64 (i : Nat), t116] ⟨h, n⟩ fun t117 sx20 => oV 118 (aO T0 35 [(0, (.i .i64 4)), (3, t117)]) fun t118 =>
       oH (aB T0 sx20.h 35 (.ptr 2 0) t118) sx20 fun sx21 => oV 6 (ac T0 sx21.h 35 (.ptr 2 0)) fun t6x3 => oZ T0 sx21 (.tup [t6x3, (.i .i64 0)]) (fun r2 => r2 = prA (ei v (s :: p) x))) := by
     intro i hi hcase
     rw [aa, l3 b0, aa, bY b4, aa, (c90 v.list i y (by omega) hi).eq, bld4c, aa, gz rfl b2 rfl rfl, aF, l5 (af _ _ _), aa, ozl, rpl_new k1 hcase, pe hw hr hp hm]; rfl
    rw [ca, cw, aa]
    by_cases hc : chI v s < 0
    ·rw [decide_eq_true hc, aG, aa, l3 b0, aa, ii, aa, List.length_map]
     exact fin _ (Nat.le_refl _) (.inl ⟨hc, rfl⟩)
    ·have hi := (hb (by omega)).2 k1
     obtain ⟨i, hi'⟩ : ∃ i : Nat, chI v s = (i : Nat) := ⟨(chI v s).toNat, by omega⟩
     rw [decide_eq_false hc, aA]
     have := fin i (by omega) (.inr ⟨hi', by omega⟩)
     rw [<- hi'] at this; exact this
theorem e56 {p : List XStep} {v x : Val} (hp : ∀ s ∈ p, cf s = true) (hv : Gd v) (sx : smV x) {d : Nat} {σ : AS} {K : AV -> AS -> Prop} : oC T0 d 56 [aj v, .lst (p.map aq), aj x] σ K = K (prA (ei v p x)) σ := (c56 p v x hp hv sx).eq d σ K
def lx (v : Val) (p : List XStep) (x : Val) : PR :=
 if fc p = true /\ eV v = true /\ eV x = true then match ei v p x with
  | .er e => .er e
  | .ok w => if eV w = true then .ok w else .er 4
 else .er 1
theorem xh {v : Val} {p : List XStep} {x : Val} (h : ¬ (fc p = true /\ eV v = true /\ eV x = true)) : lx v p x = .er 1 := if_neg h
theorem xi {v : Val} {p : List XStep} {x : Val} {e : Int} (h : fc p = true /\ eV v = true /\ eV x = true) (hp : ei v p x = .er e) : lx v p x = .er e := by unfold lx; rw [if_pos h, hp]
theorem xg {v : Val} {p : List XStep} {x w : Val} (h : fc p = true /\ eV v = true /\ eV x = true) (hp : ei v p x = .ok w) (hw : eV w = true) : lx v p x = .ok w := by unfold lx; rw [if_pos h, hp]; exact if_pos hw
theorem ua {v : Val} {p : List XStep} {x w : Val} (h : fc p = true /\ eV v = true /\ eV x = true) (hp : ei v p x = .ok w) (hw : eV w = false) : lx v p x = .er 4 := by unfold lx; rw [if_pos h, hp]; exact if_neg (by rw [hw]; decide)
theorem smSet {v x w : Val} {p : List XStep} (sm : smV v) (sx : smV x) (h : lx v p x = .ok w) : smV w := by
 unfold lx at h
 split at h
 ·rename_i hh
  cases hp : ei v p x with
  | er e => rw [hp] at h; cases h
  | ok u =>
   rw [hp] at h
   dsimp only at h
   split at h
   ·injection h with h; rw [<- h]
    exact rr p v x u (fun s hs => gy ((jc hh.1).2 s hs)) (pG sm hh.2.1) sx hp
   ·cases h
 ·cases h
theorem tZ {σ : AS} {f g : Nat} {a1 : AV} {p : List XStep} {v x : Val} {A B : AS -> Prop}
  (h0 : ac T0 σ.h 35 (.ptr 0 0) = some (aj v)) (h1 : ac T0 σ.h 35 (.ptr 1 0) = some (aj x))
  (ef : ∀ (d : Nat) (σ : AS) (K : AV -> AS -> Prop), oC T0 d f [a1] σ K = K (.b (fc p)) σ) (eg : ∀ (u : Val) (d : Nat) (σ : AS) (K : AV -> AS -> Prop), u = v ∨ u = x -> oC T0 d g [aj u] σ K = K (.b (eV u)) σ)
  (hA : ¬ (fc p = true /\ eV v = true /\ eV x = true) -> A σ) (hB : fc p = true /\ eV v = true /\ eV x = true -> B σ) :
  oC T0 11 f [a1] σ fun t11 sx4 =>
  oV 12 (cF .not t11) fun t12 =>
  oG [14, 15, 16] t12 false (fun (k : C3) => oV 14 (ac T0 sx4.h 35 (.ptr 0 0)) fun t14 => oC T0 15 g [t14] sx4 fun t15 sx5 => oV 16 (cF .not t15) fun t16 => k t14 t15 t16 sx5) sx4 fun t14 t15 t16 sx5 =>
  oV 17 (au t12 (some (.b true)) (some t16)) fun t17 =>
  oG [19, 20, 21] t17 false (fun (k : C3) => oV 19 (ac T0 sx5.h 35 (.ptr 1 0)) fun t19 => oC T0 20 g [t19] sx5 fun t20 sx6 => oV 21 (cF .not t20) fun t21 => k t19 t20 t21 sx6) sx5 fun t19 t20 t21 sx6 =>
  oV 22 (au t17 (some (.b true)) (some t21)) fun t22 => oI t22 (A sx6) (B sx6) := by
 rw [ef, cJ, aa]
 cases hp : fc p with
 | false =>
  rw [Bool.not_false, kM, bw, aa, kM, bw, aa, aG]
  exact hA (fun q => by rw [hp] at q; cases q.1)
 | true =>
  rw [Bool.not_true, od, h0, aa, eg v _ _ _ (.inl rfl), cJ, aa]
  dsimp only
  rw [bK, aa]
  cases hv : eV v with
  | false =>
   rw [Bool.not_false, kM, bw, aa, aG]
   exact hA (fun q => by rw [hv] at q; cases q.2.1)
  | true =>
   rw [Bool.not_true, od, h1, aa, eg x _ _ _ (.inr rfl), cJ, aa]
   dsimp only
   rw [bK, aa]
   cases hx : eV x with
   | false => rw [Bool.not_false, aG]; exact hA (fun q => by rw [hx] at q; cases q.2.2)
   | true => rw [Bool.not_true, aA]; exact hB ⟨hp, hv, hx⟩
theorem c28 (v : Val) (p : List XStep) (x : Val) (sm : smV v) (sx : smV x) (hp : p.length <= 140737488351232) (ox : ∀ x ∈ p, bL x) : R T0 28 [aj v, .lst (p.map aq), aj x] (prA (lx v p x)) := by
 refine r28 _ _ _ (by rw [aw, aw]; rfl) (by rw [aw, aw]; rfl) ?_
 unfold w28
 dsimp only [av]
 rw [aS, aS, aS]
 simp only [Nat.zero_add, Nat.reduceAdd]
 have g0 : (((Tr.nil.put 0 (some (.cells (aj v).cells 35 false))).put 1 (some (.cells (aj x).cells 35 false))).put 2 (some (.cells [.i .i64 0, .i .i64 0, .s [], .nilz true, .nilz true] 35 false)) : Tr AB).get 0 = some (.cells (aj v).cells 35 false) := by
  rw [ae _ _ (by decide), ae _ _ (by decide), af]
 have g1 : (((Tr.nil.put 0 (some (.cells (aj v).cells 35 false))).put 1 (some (.cells (aj x).cells 35 false))).put 2 (some (.cells [.i .i64 0, .i .i64 0, .s [], .nilz true, .nilz true] 35 false)) : Tr AB).get 1 = some (.cells (aj x).cells 35 false) := by
  rw [ae _ _ (by decide), af]
 have g2 : (((Tr.nil.put 0 (some (.cells (aj v).cells 35 false))).put 1 (some (.cells (aj x).cells 35 false))).put 2 (some (.cells [.i .i64 0, .i .i64 0, .s [], .nilz true, .nilz true] 35 false)) : Tr AB).get 2 = some (.cells [.i .i64 0, .i .i64 0, .s [], .nilz true, .nilz true] 35 false) := af _ _ _
 generalize (((Tr.nil.put 0 (some (.cells (aj v).cells 35 false))).put 1 (some (.cells (aj x).cells 35 false))).put 2 (some (.cells [.i .i64 0, .i .i64 0, .s [], .nilz true, .nilz true] 35 false)) : Tr AB) = h at g0 g1 g2 |-
 refine tZ (p := p) (v := v) (x := x) (σ := ⟨h, 3⟩) (bY g0) (bY g1) (fun d σ K => e13 hp ox) (fun u d σ K hu => by rcases hu with rfl | rfl; exact e54 sm.ok; exact e54 sx.ok) (fun hn => ?_) (fun hy => ?_)
 ·rw [gh, aa, ge rfl g2, aF, kJ, aa, xh hn, lF]; rfl
 have hst := (jc hy.1).2
 have gd := pG sm hy.2.1
 dsimp only
 rw [bY g0, aa, bY g1, aa, e55 hst gd sx]
 cases hr : ei v p x with
 | er e =>
  have he := lE p v x e hr
  have c2 := ((ae (h.put 3 (some (.cells [.i .i64 0, .i .i64 0, .s [], .nilz true, .nilz true] 35 false))) (some (.cells (aj default).cells 35 false)) (show 2 ≠ 3 by omega)).trans (ae h _ (show 2 ≠ 3 by omega))).trans g2
  show oV 29 (aI 0 (.tup [aj default, .i .i64 e])) _
  rw [ex0, aa, show aI 1 (prA (.er e)) = some (.i .i64 e) from rfl, aa, aS, dx rfl (af _ _ _), aF, cG, aa, decide_eq_true (by omega), aG, gh, aa, ge rfl c2, aF, kJ, aa, xi hy hr, lF]; rfl
 | ok w =>
  have sw := rr p v x w (fun s hs => gy (hst s hs)) gd sx hr
  show oV 29 (aI 0 (.tup [aj w, .i .i64 0])) _
  rw [ex0, aa, show aI 1 (prA (.ok w)) = some (.i .i64 0) from rfl, aa, aS, dx rfl (af _ _ _), aF, cG, aa, decide_eq_false (by decide), aA]
  dsimp only
  have b2 := ((ae (h.put 3 (some (.cells [.i .i64 0, .i .i64 0, .s [], .nilz true, .nilz true] 35 false))) (some (.cells (aj w).cells 35 false)) (show 2 ≠ 3 by omega)).trans (ae h _ (show 2 ≠ 3 by omega))).trans g2
  have b3 := af (h.put 3 (some (.cells [.i .i64 0, .i .i64 0, .s [], .nilz true, .nilz true] 35 false))) 3 (some (.cells (aj w).cells 35 false))
  generalize (h.put 3 (some (.cells [.i .i64 0, .i .i64 0, .s [], .nilz true, .nilz true] 35 false))).put 3 (some (.cells (aj w).cells 35 false)) = H at b2 b3 |-
  rw [bY b3, aa, e54 sw.ok, cJ, aa]
  cases hw : eV w with
  | false => rw [Bool.not_false, aG, gh, aa, ge rfl b2, aF, kJ, aa, ua hy hr hw, lF]; rfl
  | true => rw [Bool.not_true, aA, bY b3, aa, e50 sw, dx rfl b2, aF, oK, aa, xg hy hr hw, wn]; rfl
theorem c29 (v : Val) (p : List XStep) (x : Val) (sm : smV v) (sx : smV x) (hp : p.length <= 140737488351232) (ox : ∀ x ∈ p, bL x) : R T0 29 [aj v, .lst (p.map aq), aj x] (prA (lx v p x)) := by
 refine r29 _ _ _ (by rw [aw, aw]; rfl) (by rw [aw, aw]; rfl) ?_
 unfold w29
 dsimp only [av]
 rw [aS, aS, aS]
 simp only [Nat.zero_add, Nat.reduceAdd]
 have g0 : (((Tr.nil.put 0 (some (.cells (aj v).cells 35 false))).put 1 (some (.cells (aj x).cells 35 false))).put 2 (some (.cells [.i .i64 0, .i .i64 0, .s [], .nilz true, .nilz true] 35 false)) : Tr AB).get 0 = some (.cells (aj v).cells 35 false) := by
  rw [ae _ _ (by decide), ae _ _ (by decide), af]
 have g1 : (((Tr.nil.put 0 (some (.cells (aj v).cells 35 false))).put 1 (some (.cells (aj x).cells 35 false))).put 2 (some (.cells [.i .i64 0, .i .i64 0, .s [], .nilz true, .nilz true] 35 false)) : Tr AB).get 1 = some (.cells (aj x).cells 35 false) := by
  rw [ae _ _ (by decide), af]
 have g2 : (((Tr.nil.put 0 (some (.cells (aj v).cells 35 false))).put 1 (some (.cells (aj x).cells 35 false))).put 2 (some (.cells [.i .i64 0, .i .i64 0, .s [], .nilz true, .nilz true] 35 false)) : Tr AB).get 2 = some (.cells [.i .i64 0, .i .i64 0, .s [], .nilz true, .nilz true] 35 false) := af _ _ _
 generalize (((Tr.nil.put 0 (some (.cells (aj v).cells 35 false))).put 1 (some (.cells (aj x).cells 35 false))).put 2 (some (.cells [.i .i64 0, .i .i64 0, .s [], .nilz true, .nilz true] 35 false)) : Tr AB) = h at g0 g1 g2 |-
 refine tZ (p := p) (v := v) (x := x) (σ := ⟨h, 3⟩) (bY g0) (bY g1) (fun d σ K => e14 hp ox) (fun u d σ K hu => by rcases hu with rfl | rfl; exact e30 sm.ok; exact e30 sx.ok) (fun hn => ?_) (fun hy => ?_)
 ·rw [gh, aa, ge rfl g2, aF, kJ, aa, xh hn, lF]; rfl
 have hst := (jc hy.1).2
 have gd := pG sm hy.2.1
 dsimp only
 rw [bY g0, aa, bY g1, aa, e56 hst gd sx]
 cases hr : ei v p x with
 | er e =>
  have he := lE p v x e hr
  have c2 := ((ae (h.put 3 (some (.cells [.i .i64 0, .i .i64 0, .s [], .nilz true, .nilz true] 35 false))) (some (.cells (aj default).cells 35 false)) (show 2 ≠ 3 by omega)).trans (ae h _ (show 2 ≠ 3 by omega))).trans g2
  show oV 29 (aI 0 (.tup [aj default, .i .i64 e])) _
  rw [ex0, aa, show aI 1 (prA (.er e)) = some (.i .i64 e) from rfl, aa, aS, dx rfl (af _ _ _), aF, cG, aa, decide_eq_true (by omega), aG, gh, aa, ge rfl c2, aF, kJ, aa, xi hy hr, lF]; rfl
 | ok w =>
  have sw := rr p v x w (fun s hs => gy (hst s hs)) gd sx hr
  show oV 29 (aI 0 (.tup [aj w, .i .i64 0])) _
  rw [ex0, aa, show aI 1 (prA (.ok w)) = some (.i .i64 0) from rfl, aa, aS, dx rfl (af _ _ _), aF, cG, aa, decide_eq_false (by decide), aA]
  dsimp only
  have b2 := ((ae (h.put 3 (some (.cells [.i .i64 0, .i .i64 0, .s [], .nilz true, .nilz true] 35 false))) (some (.cells (aj w).cells 35 false)) (show 2 ≠ 3 by omega)).trans (ae h _ (show 2 ≠ 3 by omega))).trans g2
  have b3 := af (h.put 3 (some (.cells [.i .i64 0, .i .i64 0, .s [], .nilz true, .nilz true] 35 false))) 3 (some (.cells (aj w).cells 35 false))
  generalize (h.put 3 (some (.cells [.i .i64 0, .i .i64 0, .s [], .nilz true, .nilz true] 35 false))).put 3 (some (.cells (aj w).cells 35 false)) = H at b2 b3 |-
  rw [bY b3, aa, e30 sw.ok, cJ, aa]
  cases hw : eV w with
  | false => rw [Bool.not_false, aG, gh, aa, ge rfl b2, aF, kJ, aa, ua hy hr hw, lF]; rfl
  | true => rw [Bool.not_true, aA, bY b3, aa, dx rfl b2, aF, oK, aa, xg hy hr hw, wn]; rfl
theorem e28 {v : Val} {p : List XStep} {x : Val} (sm : smV v) (sx : smV x) (hp : p.length <= 140737488351232) (ox : ∀ x ∈ p, bL x) {d : Nat} {σ : AS} {K : AV -> AS -> Prop} : oC T0 d 28 [aj v, .lst (p.map aq), aj x] σ K = K (prA (lx v p x)) σ := (c28 v p x sm sx hp ox).eq d σ K
theorem e29 {v : Val} {p : List XStep} {x : Val} (sm : smV v) (sx : smV x) (hp : p.length <= 140737488351232) (ox : ∀ x ∈ p, bL x) {d : Nat} {σ : AS} {K : AV -> AS -> Prop} : oC T0 d 29 [aj v, .lst (p.map aq), aj x] σ K = K (prA (lx v p x)) σ := (c29 v p x sm sx hp ox).eq d σ K
theorem prA_form (r : PR) (h : ∀ w, r = .ok w -> smV w) : ∃ w e, prA r = .tup [aj w, .i .i64 e] /\ smV w := by
 cases r with
 | ok w => exact ⟨w, 0, rfl, h w rfl⟩
 | er e => exact ⟨default, e, rfl, vX⟩
end Go.Proofs.YtmfhmlhaofpeiaaGreatDoor.Ev
