/- Texts of this session's, one behind the other. -/
import Derived.Test.YtmfhmlhaofpeiaaGreatDoorEvLi
import Derived.Test.YtmfhmlhaofpeiaaGreatDoorEv1
import Derived.Test.YtmfhmlhaofpeiaaGreatDoorEv2
import Derived.Test.YtmfhmlhaofpeiaaGreatDoorEv3
import Derived.Test.YtmfhmlhaofpeiaaGreatDoorEv4
import Derived.Test.YtmfhmlhaofpeiaaGreatDoorSh
import Derived.Test.YtmfhmlhaofpeiaaGreatDoorEvX
import Derived.Test.YtmfhmlhaofpeiaaGreatDoorEvT
import Derived.Test.YtmfhmlhaofpeiaaGreatDoorEvTy
import Derived.Test.YtmfhmlhaofpeiaaGreatDoorEvF
import Derived.Test.YtmfhmlhaofpeiaaGreatDoorV0
import Derived.Test.YtmfhmlhaofpeiaaGreatDoorOp
import Derived.Test.YtmfhmlhaofpeiaaGreatDoorV6
import Derived.Test.YtmfhmlhaofpeiaaGreatDoorEvG
import Derived.Test.YtmfhmlhaofpeiaaGreatDoorEvLg
import Derived.Test.YtmfhmlhaofpeiaaGreatDoorEvLh
import Derived.Test.YtmfhmlhaofpeiaaGreatDoorEvFe
import Derived.Test.YtmfhmlhaofpeiaaGreatDoorEvFf
import Derived.Test.YtmfhmlhaofpeiaaGreatDoorEvFd
import Derived.Test.YtmfhmlhaofpeiaaGreatDoorEvFb
import Derived.Test.YtmfhmlhaofpeiaaGreatDoorEvFc
import Derived.Test.YtmfhmlhaofpeiaaGreatDoorW2
namespace Go.Proofs.YtmfhmlhaofpeiaaGreatDoor.Ev
open Go Go.RowKit
set_option linter.unusedSimpArgs false
set_option linter.unusedVariables false
set_option maxRecDepth 100000
theorem x137 (a0 a1 a2 a3 a4 : AV) {σ : AS} {Q : AV -> AS -> Prop} (h : w137 (av T0) a0 a1 a2 a3 a4 σ Q) : ∃ r σ', Runs T0 137 [a0, a1, a2, a3, a4] σ r σ' /\ Q r σ' :=
 Runs.ex (by kernel_rfl) (by kernel_rfl) (show T0.fn 137 = some Tryz.f137 by kernel_rfl) (by kernel_rfl) (by kernel_rfl) (by kernel_rfl) (by rw [w137_eq] at h; exact h)
theorem cvA {h : Tr AB} (n : Int) : cH T0 h 3 137 (.i .i64 n) = some (.i .u64 (IntKind.wrap .u64 n)) := by kernel_rfl
theorem cvB {h : Tr AB} (n : Int) : cH T0 h 137 3 (.i .u64 n) = some (.i .i64 (IntKind.wrap .i64 n)) := by kernel_rfl
theorem wru {x : Nat} (hx : x <= 9000000) : IntKind.wrap .u64 (x : Nat) = (x : Nat) := by
 unfold IntKind.wrap; simp [IntKind.bits, IntKind.signed]; omega
theorem wv (x : Nat) : af T0 .shr 137 true (.i .u64 (x : Nat)) (.i .u64 1) = some (.i .u64 ((x / 2 : Nat) : Int)) := by
 have : af T0 .shr 137 true (.i .u64 (x : Nat)) (.i .u64 1) = some (.i .u64 (((x : Nat) : Int).fdiv 2)) := by kernel_rfl
 have e : ((x : Nat) : Int).fdiv 2 = ((x / 2 : Nat) : Int) := by rw [Int.fdiv_eq_ediv_of_nonneg _ (by omega)]; omega
 rw [this, e]
theorem mI {L R : List Fld} {i : Nat} (hi : i < L.length) (h : ∀ y R', R = y :: R' -> ltF y (L.getD i default) = false) : jA ltF (L.take (i + 1)) R := by
 intro L' x y R' h1 h2
 rw [dp hi] at h1
 have := (List.append_inj' h1 rfl).2
 injection this with this
 rw [<- this]; exact h y R' h2
theorem mJ {L R : List Fld} {i : Nat} (hi : i < R.length) (h : ∀ L' x, L = L' ++ [x] -> ltF (R.getD i default) x = false) : jA ltF L (R.drop i) := by
 intro L' x y R' h1 h2
 rw [fw hi] at h2
 injection h2 with h2 h3
 rw [<- h2]; exact h L' x h1
theorem oQ {R : List Fld} : jA ltF [] R := fun L' u w R' q _ => by simp at q
theorem oP {L : List Fld} : jA ltF L [] := fun L' u w R' _ q => by cases q
theorem oX {U V W : List Fld} {i : Nat} (hi : i < V.length) : (U ++ V ++ W).getD (U.length + i) default = V.getD i default := by
 simp only [List.getD_eq_getElem?_getD, List.append_assoc]
 rw [List.getElem?_append_right (by omega), Nat.add_sub_cancel_left, List.getElem?_append_left hi]
theorem c137_a {h : Tr AB} {n id N : Nat} (P B S : List Fld) (x : Fld) (hB : Srt ltF B) (hN : N = (P ++ [x] ++ B ++ S).length) (hN2 : N <= 1000000) (hg : cr h id (P ++ [x] ++ B ++ S)) :
  ∃ r σ', Runs T0 137 [.sl id 0 N none, .i .i64 (P.length : Nat), .i .i64 ((P.length + 1 : Nat) : Int), .i .i64 ((P.length + 1 + B.length : Nat) : Int), .fn 105 [] []] ⟨h, n⟩ r σ' /\ tN h n id r σ' (fun l' => ∃ C, l' = P ++ C ++ S /\ C.Perm ([x] ++ B) /\ Srt ltF C) := by
 refine x137 _ _ _ _ _ ?_
 unfold w137
 dsimp only [av]
 simp only [List.length_append, List.length_singleton] at hN
 have i1 : ((P.length + 1 : Nat) : Int) - (P.length : Nat) = 1 := by omega
 rw [bz, aa, cI (by omega) (by omega), i1, bZ, aa, decide_eq_true rfl, aE]
 refine gJ (X := Nat × Nat) (fun _ => .sl id 0 N none) (fun y => .i .i64 ((P.length + 1 + y.1 : Nat) : Int)) (fun _ => .i .i64 (P.length : Nat)) (fun _ => .fn 105 [] []) (fun y => .i .i64 ((P.length + 1 + y.2 : Nat) : Int))
  (fun y σ => σ = ⟨h, n⟩ /\ y.1 <= y.2 /\ y.2 <= B.length /\ jA ltF (B.take y.1) [x] /\ jA ltF [x] (B.drop y.2)) (fun y => y.2 - y.1) ?_ (0, B.length) _
  ⟨rfl, Nat.zero_le _, Nat.le_refl _, oQ, by dsimp only; rw [List.drop_length]; exact oP⟩
 rintro R ⟨lo, hi⟩ σ ⟨rfl, h1, h2, m1, m2⟩ hR
 dsimp only at h1 h2 m1 m2 hR |-
 have hx : (P ++ [x] ++ B ++ S).getD P.length default = x := by rw [List.append_assoc P, List.append_assoc P]; exact fL
 have ldx : ac T0 h 52 (.ptr id (P.length * (5 + 1))) = some (az x) := by rw [rl hg (by simp), hx]
 by_cases q : lo < hi
 ·obtain ⟨mi, hmi⟩ : ∃ mi, mi = (lo + hi) / 2 := ⟨_, rfl⟩
  have b1 : lo <= mi /\ mi < hi := by omega
  have i2 : ((P.length + 1 + lo : Nat) : Int) + ((P.length + 1 + hi : Nat) : Int) = ((2 * P.length + 2 + lo + hi : Nat) : Int) := by omega
  have i3 : (2 * P.length + 2 + lo + hi) / 2 = P.length + 1 + mi := by omega
  have ldm : ac T0 h 52 (.ptr id ((P.length + 1 + mi) * (5 + 1))) = some (az (B.getD mi default)) := by
   rw [rl hg (by simp; omega)]
   have := oX (U := P ++ [x]) (V := B) (W := S) (i := mi) (by omega)
   rw [List.length_append, List.length_singleton] at this
   rw [this]
  have i4 : ((P.length + 1 + mi : Nat) : Int) + 1 = ((P.length + 1 + (mi + 1) : Nat) : Int) := by omega
  cases hc : ltF (B.getD mi default) x
  ·simp (disch := first | omega | assumption | (intros; simp only [dl2]; try omega)) only [cc, sL, i2, cvA, wru, wv, i3, cvB, ldm, ldx, hc]
   exact hR (lo, mi) _ ⟨rfl, b1.1, by dsimp only; omega, m1, mJ (by omega) (fun L' u e => by
    have := (List.append_inj' (show [] ++ [x] = L' ++ [u] from e) rfl).2
    injection this with this
    rw [<- this]; exact hc)⟩ (by dsimp only; omega)
  ·simp (disch := first | omega | assumption | (intros; simp only [dl2]; try omega)) only [cc, sL, i2, cvA, wru, wv, i3, cvB, ldm, ldx, hc, i4]
   exact hR (mi + 1, hi) _ ⟨rfl, by dsimp only; omega, h2, mI (by omega) (fun y R' e => by injection e with e1 e2; rw [<- e1]; exact ordF.asym _ _ hc), m2⟩ (by dsimp only; omega)
 ·obtain rfl : lo = hi := by omega
  rw [da, aa, decide_eq_false (by omega), ay]
  clear hR
  refine fj (X := Nat) (fun _ => .sl id 0 N none) (fun _ => .i .i64 ((P.length + 1 + lo : Nat) : Int)) (fun c => .i .i64 ((P.length + c : Nat) : Int))
   (fun c σ => σ.n = n /\ (∀ j, j ≠ id -> σ.h.get j = h.get j) /\ c <= lo /\ cr σ.h id (P ++ B.take c ++ x :: (B.drop c ++ S))) (fun c => lo - c) ?_ 0 _
   ⟨rfl, fun j _ => rfl, Nat.zero_le _, by rw [List.take_zero, List.drop_zero]; simpa using hg⟩
  rintro R c ⟨h1', n1⟩ ⟨hn, hfr, hc, hr⟩ hR
  dsimp only at hn hfr hr hR |-
  subst hn
  have i5 : ((P.length + 1 + lo : Nat) : Int) - 1 = ((P.length + lo : Nat) : Int) := by omega
  by_cases q2 : c < lo
  ·have hcB : c < B.length := by omega
   obtain ⟨y, hy⟩ : ∃ y, y = B.getD c default := ⟨_, rfl⟩
   obtain ⟨U, hU⟩ : ∃ U, U = P ++ B.take c := ⟨_, rfl⟩
   obtain ⟨W, hW⟩ : ∃ W, W = B.drop (c + 1) ++ S := ⟨_, rfl⟩
   have hUl : U.length = P.length + c := by rw [hU, List.length_append, List.length_take]; omega
   have hWl : W.length = B.length - (c + 1) + S.length := by rw [hW, List.length_append, List.length_drop]
   have hr' : cr h1' id (U ++ x :: y :: W) := by rw [hU, hy, hW]; rw [fw hcB] at hr; simpa using hr
   have ll : (U ++ x :: y :: W).length = N := by simp only [List.length_append, List.length_cons]; omega
   have d0 : ac T0 h1' 52 (.ptr id (U.length * (5 + 1))) = some (az x) := by rw [rl hr' (by omega), fL]
   have d1 : ac T0 h1' 52 (.ptr id ((U.length + 1) * (5 + 1))) = some (az y) := by rw [rl hr' (by omega), mW]
   have s1 : bo T0 h1' 52 (.ptr id (U.length * (5 + 1))) (az y) = some (id, .cells (ax az (U ++ y :: y :: W)) 52 true) := by rw [rs hr' (by omega), ku]
   have hr2 : cr (h1'.put id (some (.cells (ax az (U ++ y :: y :: W)) 52 true))) id (U ++ y :: y :: W) := ah _ _ _
   have s2 : bo T0 (h1'.put id (some (.cells (ax az (U ++ y :: y :: W)) 52 true))) 52 (.ptr id ((U.length + 1) * (5 + 1))) (az x) = some (id, .cells (ax az (U ++ y :: x :: W)) 52 true) := by rw [rs hr2 (by simp), pI]
   have i6 : ((U.length : Nat) : Int) + 1 = ((U.length + 1 : Nat) : Int) := by omega
   have i7 : decide (((U.length : Nat) : Int) < ((P.length + lo : Nat) : Int)) = true := decide_eq_true (by omega)
   rw [<- hUl]
   simp (disch := first | omega | assumption | (intros; simp only [dl2]; try omega)) only [cc, bz, cI, i5, i7, aE, aC, i6, jv, d0, d1, s1, bK]
   rw [fG rfl rfl]
   try simp (disch := first | omega | assumption | (intros; simp only [dl2]; try omega)) only [aa, jv]
   rw [nL rfl, s2, bK, fG rfl rfl, fc]
   try simp (disch := first | omega | assumption | (intros; simp only [dl2]; try omega)) only [aa, aC, cI, i6]
   have := hR (c + 1) ⟨(h1'.put id (some (.cells (ax az (U ++ y :: y :: W)) 52 true))).put id (some (.cells (ax az (U ++ y :: x :: W)) 52 true)), n1⟩
    ⟨rfl, fun j hj => by dsimp only; rw [ae _ _ hj, ae _ _ hj]; exact hfr j hj, by omega, by
     have : P ++ B.take (c + 1) ++ x :: (B.drop (c + 1) ++ S) = U ++ y :: x :: W := by rw [hU, hy, hW, dp hcB]; simp
     dsimp only; rw [this]; exact ah _ _ _⟩ (by omega)
   rw [show P.length + (c + 1) = U.length + 1 by omega] at this
   exact this
  ·obtain rfl : c = lo := by omega
   rw [bz, aa, cI (by omega) (by omega), i5, da, aa, decide_eq_false (by omega), ay]
   refine ⟨rfl, rfl, hfr, _, ⟨B.take c ++ [x] ++ B.drop c, rfl, ?_, into ordF (by rw [List.take_append_drop]; exact hB) m1 m2⟩, by simpa using hr⟩
   have := List.perm_middle (l₁ := B.take c) (l₂ := B.drop c) (a := x)
   rw [List.take_append_drop] at this
   simpa using this
theorem c137_b {h : Tr AB} {n id N : Nat} (P A S : List Fld) (x : Fld) (hA : Srt ltF A) (h1A : A.length ≠ 1) (hN : N = (P ++ A ++ [x] ++ S).length) (hN2 : N <= 1000000) (hg : cr h id (P ++ A ++ [x] ++ S)) :
  ∃ r σ', Runs T0 137 [.sl id 0 N none, .i .i64 (P.length : Nat), .i .i64 ((P.length + A.length : Nat) : Int), .i .i64 ((P.length + A.length + 1 : Nat) : Int), .fn 105 [] []] ⟨h, n⟩ r σ' /\ tN h n id r σ' (fun l' => ∃ C, l' = P ++ C ++ S /\ C.Perm (A ++ [x]) /\ Srt ltF C) := by
 refine x137 _ _ _ _ _ ?_
 unfold w137
 dsimp only [av]
 simp only [List.length_append, List.length_singleton] at hN
 have i0 : ((P.length + A.length : Nat) : Int) - (P.length : Nat) = ((A.length : Nat) : Int) := by omega
 have i1 : ((P.length + A.length + 1 : Nat) : Int) - ((P.length + A.length : Nat) : Int) = 1 := by omega
 rw [bz, aa, cI (by omega) (by omega), i0, bZ, aa, decide_eq_false (by omega), ay]
 rw [bz, aa, cI (by omega) (by omega), i1, bZ, aa, decide_eq_true rfl, aE]
 refine gJ (X := Nat × Nat) (fun _ => .sl id 0 N none) (fun y => .i .i64 ((P.length + y.1 : Nat) : Int)) (fun _ => .i .i64 ((P.length + A.length : Nat) : Int)) (fun _ => .fn 105 [] []) (fun y => .i .i64 ((P.length + y.2 : Nat) : Int))
  (fun y σ => σ = ⟨h, n⟩ /\ y.1 <= y.2 /\ y.2 <= A.length /\ jA ltF (A.take y.1) [x] /\ jA ltF [x] (A.drop y.2)) (fun y => y.2 - y.1) ?_ (0, A.length) _
  ⟨rfl, Nat.zero_le _, Nat.le_refl _, oQ, by dsimp only; rw [List.drop_length]; exact oP⟩
 rintro R ⟨lo, hi⟩ σ ⟨rfl, h1, h2, m1, m2⟩ hR
 dsimp only at h1 h2 m1 m2 hR |-
 have hx : (P ++ A ++ [x] ++ S).getD (P.length + A.length) default = x := by
  rw [<- List.length_append, List.append_assoc (P ++ A)]; exact fL
 have ldx : ac T0 h 52 (.ptr id ((P.length + A.length) * (5 + 1))) = some (az x) := by rw [rl hg (by simp), hx]
 by_cases q : lo < hi
 ·obtain ⟨mi, hmi⟩ : ∃ mi, mi = (lo + hi) / 2 := ⟨_, rfl⟩
  have b1 : lo <= mi /\ mi < hi := by omega
  have i2 : ((P.length + lo : Nat) : Int) + ((P.length + hi : Nat) : Int) = ((2 * P.length + lo + hi : Nat) : Int) := by omega
  have i3 : (2 * P.length + lo + hi) / 2 = P.length + mi := by omega
  have ldm : ac T0 h 52 (.ptr id ((P.length + mi) * (5 + 1))) = some (az (A.getD mi default)) := by
   rw [rl hg (by simp; omega)]
   have := oX (U := P) (V := A) (W := [x] ++ S) (i := mi) (by omega)
   rw [<- this]; congr 2; simp
  have i4 : ((P.length + mi : Nat) : Int) + 1 = ((P.length + (mi + 1) : Nat) : Int) := by omega
  cases hc : ltF x (A.getD mi default)
  ·simp (disch := first | omega | assumption | (intros; simp only [dl2]; try omega)) only [cc, sL, i2, cvA, wru, wv, i3, cvB, ldm, ldx, hc, bX, Bool.not_false, Bool.not_true, i4]
   exact hR (mi + 1, hi) _ ⟨rfl, by dsimp only; omega, h2, mI (by omega) (fun y R' e => by injection e with e1 e2; rw [<- e1]; exact hc), m2⟩ (by dsimp only; omega)
  ·simp (disch := first | omega | assumption | (intros; simp only [dl2]; try omega)) only [cc, sL, i2, cvA, wru, wv, i3, cvB, ldm, ldx, hc, bX, Bool.not_false, Bool.not_true]
   exact hR (lo, mi) _ ⟨rfl, b1.1, by dsimp only; omega, m1, mJ (by omega) (fun L' u e => by
    have := (List.append_inj' (show [] ++ [x] = L' ++ [u] from e) rfl).2
    injection this with this
    rw [<- this]; exact ordF.asym _ _ hc)⟩ (by dsimp only; omega)
 ·obtain rfl : lo = hi := by omega
  rw [da, aa, decide_eq_false (by omega), ay]
  clear hR
  refine fj (X := Nat) (fun _ => .sl id 0 N none) (fun _ => .i .i64 ((P.length + lo : Nat) : Int)) (fun c => .i .i64 ((P.length + c : Nat) : Int))
   (fun c σ => σ.n = n /\ (∀ j, j ≠ id -> σ.h.get j = h.get j) /\ lo <= c /\ c <= A.length /\ cr σ.h id (P ++ A.take c ++ x :: (A.drop c ++ S))) (fun c => c - lo) ?_ A.length _
   ⟨rfl, fun j _ => rfl, h2, Nat.le_refl _, by rw [List.take_length, List.drop_length]; simpa using hg⟩
  rintro R c ⟨h1', n1⟩ ⟨hn, hfr, hc, hc2, hr⟩ hR
  dsimp only at hn hfr hr hR |-
  subst hn
  by_cases q2 : lo < c
  ·obtain ⟨c, rfl⟩ : ∃ d, c = d + 1 := ⟨c - 1, by omega⟩
   have hcA : c < A.length := by omega
   obtain ⟨y, hy⟩ : ∃ y, y = A.getD c default := ⟨_, rfl⟩
   obtain ⟨U, hU⟩ : ∃ U, U = P ++ A.take c := ⟨_, rfl⟩
   obtain ⟨W, hW⟩ : ∃ W, W = A.drop (c + 1) ++ S := ⟨_, rfl⟩
   have hUl : U.length = P.length + c := by rw [hU, List.length_append, List.length_take]; omega
   have hWl : W.length = A.length - (c + 1) + S.length := by rw [hW, List.length_append, List.length_drop]
   have hr' : cr h1' id (U ++ y :: x :: W) := by rw [hU, hy, hW]; rw [dp hcA] at hr; simpa using hr
   have ll : (U ++ y :: x :: W).length = N := by simp only [List.length_append, List.length_cons]; omega
   have d0 : ac T0 h1' 52 (.ptr id (U.length * (5 + 1))) = some (az y) := by rw [rl hr' (by omega), fL]
   have d1 : ac T0 h1' 52 (.ptr id ((U.length + 1) * (5 + 1))) = some (az x) := by rw [rl hr' (by omega), mW]
   have s1 : bo T0 h1' 52 (.ptr id ((U.length + 1) * (5 + 1))) (az y) = some (id, .cells (ax az (U ++ y :: y :: W)) 52 true) := by rw [rs hr' (by omega), pI]
   have hr2 : cr (h1'.put id (some (.cells (ax az (U ++ y :: y :: W)) 52 true))) id (U ++ y :: y :: W) := ah _ _ _
   have s2 : bo T0 (h1'.put id (some (.cells (ax az (U ++ y :: y :: W)) 52 true))) 52 (.ptr id (U.length * (5 + 1))) (az x) = some (id, .cells (ax az (U ++ x :: y :: W)) 52 true) := by rw [rs hr2 (by simp), ku]
   have i6 : ((U.length + 1 : Nat) : Int) - 1 = ((U.length : Nat) : Int) := by omega
   have i7 : decide (((P.length + lo : Nat) : Int) < ((U.length + 1 : Nat) : Int)) = true := decide_eq_true (by omega)
   rw [show P.length + (c + 1) = U.length + 1 by omega]
   simp (disch := first | omega | assumption | (intros; simp only [dl2]; try omega)) only [aa, dy, i7, aE, bz, cI, i6, jv, d0, d1, s1, bK]
   rw [fG rfl rfl]
   try simp (disch := first | omega | assumption | (intros; simp only [dl2]; try omega)) only [aa, jv]
   rw [nL rfl, s2, bK, fG rfl rfl, fc]
   try simp (disch := first | omega | assumption | (intros; simp only [dl2]; try omega)) only [aa, bz, cI, i6]
   have := hR c ⟨(h1'.put id (some (.cells (ax az (U ++ y :: y :: W)) 52 true))).put id (some (.cells (ax az (U ++ x :: y :: W)) 52 true)), n1⟩
    ⟨rfl, fun j hj => by dsimp only; rw [ae _ _ hj, ae _ _ hj]; exact hfr j hj, by omega, by omega, by
     have : P ++ A.take c ++ x :: (A.drop c ++ S) = U ++ x :: y :: W := by rw [hU, hy, hW, fw hcA]; simp
     dsimp only; rw [this]; exact ah _ _ _⟩ (by omega)
   rw [<- hUl] at this
   exact this
  ·obtain rfl : c = lo := by omega
   rw [dy, aa, decide_eq_false (by omega), ay]
   refine ⟨rfl, rfl, hfr, _, ⟨A.take c ++ [x] ++ A.drop c, rfl, ?_, into ordF (by rw [List.take_append_drop]; exact hA) m1 m2⟩, by simpa using hr⟩
   have := List.perm_middle (l₁ := A.take c) (l₂ := A.drop c) (a := x)
   rw [List.take_append_drop] at this
   refine List.Perm.trans (by simpa using this) ?_
   exact (List.perm_append_singleton x A).symm
theorem c137 (k : Nat) : ∀ (P A B S : List Fld) (h : Tr AB) (n id N : Nat), A.length + B.length <= k -> A ≠ [] -> B ≠ [] -> Srt ltF A -> Srt ltF B -> N = (P ++ A ++ B ++ S).length -> N <= 1000000 -> cr h id (P ++ A ++ B ++ S) ->
  ∃ r σ', Runs T0 137 [.sl id 0 N none, .i .i64 (P.length : Nat), .i .i64 ((P.length + A.length : Nat) : Int), .i .i64 ((P.length + A.length + B.length : Nat) : Int), .fn 105 [] []] ⟨h, n⟩ r σ' /\ tN h n id r σ' (fun l' => ∃ C, l' = P ++ C ++ S /\ C.Perm (A ++ B) /\ Srt ltF C) := by
 induction k with
 | zero => intro P A B S h n id N hk hA; exact absurd (List.eq_nil_of_length_eq_zero (by omega)) hA
 | succ k ih =>
  intro P A B S h n id N hk hAn hBn hA hB hN hN2 hg
  have pA := mG hAn
  have pB := mG hBn
  by_cases a1 : A.length = 1
  ·obtain ⟨x, rfl⟩ : ∃ x, A = [x] := List.length_eq_one_iff.1 a1
   have := c137_a (n := n) P B S x hB hN hN2 hg
   exact this
  by_cases b1 : B.length = 1
  ·obtain ⟨x, rfl⟩ : ∃ x, B = [x] := List.length_eq_one_iff.1 b1
   exact c137_b (n := n) P A S x hA a1 hN hN2 hg
  refine x137 _ _ _ _ _ ?_
  unfold w137
  dsimp only [av]
  simp only [List.length_append] at hN
  obtain ⟨a, ha⟩ : ∃ a, a = P.length := ⟨_, rfl⟩
  obtain ⟨p, hp⟩ : ∃ p, p = A.length := ⟨_, rfl⟩
  obtain ⟨q, hq⟩ : ∃ q, q = B.length := ⟨_, rfl⟩
  obtain ⟨M, hM⟩ : ∃ M, M = (p + q) / 2 := ⟨_, rfl⟩
  have i0 : ((P.length + A.length : Nat) : Int) - (P.length : Nat) = ((A.length : Nat) : Int) := by omega
  have i1 : ((P.length + A.length + B.length : Nat) : Int) - ((P.length + A.length : Nat) : Int) = ((B.length : Nat) : Int) := by omega
  have i2 : ((P.length : Nat) : Int) + ((P.length + A.length + B.length : Nat) : Int) = ((2 * a + p + q : Nat) : Int) := by omega
  have i3 : (2 * a + p + q) / 2 = a + M := by omega
  have i4 : ((a + M : Nat) : Int) + ((P.length + A.length : Nat) : Int) = ((2 * a + M + p : Nat) : Int) := by omega
  simp (disch := first | omega | assumption | (intros; simp only [dl2]; try omega)) only [aa, bz, aC, bZ, cI, i0, i1, i2, cW, ay, cvA, wru, wv, i3, cvB, i4]
  obtain ⟨lo0, hi0, hlh⟩ : ∃ lo0 hi0 : Nat, (M < p /\ lo0 = M - q /\ hi0 = M) ∨ (p <= M /\ lo0 = 0 /\ hi0 = p) := by
   by_cases g : M < p
   ·exact ⟨_, _, .inl ⟨g, rfl, rfl⟩⟩
   ·exact ⟨_, _, .inr ⟨by omega, rfl, rfl⟩⟩
  refine join9 (P := fun v0 v1 v2 v3 v4 v5 v6 v7 v8 σ => v0 = .fn 105 [] [] /\ v1 = .i .i64 ((a + p + q : Nat) : Int) /\ v2 = .i .i64 ((a + M : Nat) : Int) /\ v3 = .sl id 0 N none /\ v4 = .i .i64 ((a + lo0 : Nat) : Int) /\ v5 = .i .i64 (a : Nat) /\ v6 = .i .i64 ((a + p : Nat) : Int) /\ v7 = .i .i64 ((2 * a + M + p : Nat) : Int) /\ v8 = .i .i64 ((a + hi0 : Nat) : Int) /\ σ = ⟨h, n⟩) ?_ ?_
  ·intro K hK
   have hK := hK _ _ _ _ _ _ _ _ _ _ ⟨rfl, rfl, rfl, rfl, rfl, rfl, rfl, rfl, rfl, rfl⟩
   rw [ha, hp, hq] at hK
   rcases hlh with ⟨g1, g2, g3⟩ | ⟨g1, g2, g3⟩
   ·have i5 : ((2 * P.length + M + A.length : Nat) : Int) - ((P.length + A.length + B.length : Nat) : Int) = ((P.length + lo0 : Nat) : Int) := by omega
    rw [ha, hp]
    rw [g3] at hK
    simp (disch := first | omega | assumption | (intros; simp only [dl2]; try omega)) only [aa, dy, cL, aE, bz, cI, i5]
    exact hK
   ·rw [ha, hp]
    rw [g2, g3, Nat.add_zero, hp] at hK
    simp (disch := first | omega | assumption | (intros; simp only [dl2]; try omega)) only [aa, dy, cW, ay]
    exact hK
  ·rintro v0 v1 v2 v3 v4 v5 v6 v7 v8 σ ⟨rfl, rfl, rfl, rfl, rfl, rfl, rfl, rfl, rfl, rfl⟩
   have i6 : ((2 * a + M + p : Nat) : Int) - 1 = ((2 * a + M + p - 1 : Nat) : Int) := by omega
   rw [bz, aa, cI (by omega) (by omega), i6]
   have hl0 : lo0 <= hi0 /\ hi0 <= p /\ hi0 <= M /\ M - lo0 <= q := by omega
   refine loop10 (X := Nat × Nat) (fun _ => .fn 105 [] []) (fun _ => .i .i64 ((a + p + q : Nat) : Int)) (fun _ => .i .i64 ((a + M : Nat) : Int)) (fun _ => .sl id 0 N none) (fun y => .i .i64 ((a + y.1 : Nat) : Int)) (fun _ => .i .i64 (a : Nat)) (fun _ => .i .i64 ((a + p : Nat) : Int)) (fun _ => .i .i64 ((2 * a + M + p : Nat) : Int)) (fun _ => .i .i64 ((2 * a + M + p - 1 : Nat) : Int)) (fun y => .i .i64 ((a + y.2 : Nat) : Int))
    (fun y σ => σ = ⟨h, n⟩ /\ lo0 <= y.1 /\ y.1 <= y.2 /\ y.2 <= hi0 /\ jA ltF (A.take y.1) (B.drop (M - y.1)) /\ jA ltF (B.take (M - y.2)) (A.drop y.2)) (fun y => y.2 - y.1) ?_ (lo0, hi0) _
    ⟨rfl, Nat.le_refl _, hl0.1, Nat.le_refl _, by
     dsimp only
     rcases hlh with ⟨g1, g2, g3⟩ | ⟨g1, g2, g3⟩
     ·rw [List.drop_of_length_le (show B.length <= M - lo0 by omega)]; exact oP
     ·rw [g2, List.take_zero]; exact oQ, by
     dsimp only
     rcases hlh with ⟨g1, g2, g3⟩ | ⟨g1, g2, g3⟩
     ·rw [g3, Nat.sub_self, List.take_zero]; exact oQ
     ·rw [List.drop_of_length_le (show A.length <= hi0 by omega)]; exact oP⟩
   rintro R ⟨lo, hi⟩ σ ⟨rfl, h1, h2, h3, m1, m2⟩ hR
   dsimp only at h1 h2 h3 m1 m2 hR |-
   by_cases hlt : lo < hi
   ·obtain ⟨c, hc⟩ : ∃ c, c = (lo + hi) / 2 := ⟨_, rfl⟩
    have bc : lo <= c /\ c < hi := by omega
    have i7 : ((a + lo : Nat) : Int) + ((a + hi : Nat) : Int) = ((2 * a + lo + hi : Nat) : Int) := by omega
    have i8 : (2 * a + lo + hi) / 2 = a + c := by omega
    obtain ⟨d, hd⟩ : ∃ d, d = M - 1 - c := ⟨_, rfl⟩
    have i9 : ((2 * a + M + p - 1 : Nat) : Int) - ((a + c : Nat) : Int) = ((a + p + d : Nat) : Int) := by omega
    have i10 : ((a + c : Nat) : Int) + 1 = ((a + (c + 1) : Nat) : Int) := by omega
    have ldc : ac T0 h 52 (.ptr id ((a + c) * (5 + 1))) = some (az (A.getD c default)) := by
     rw [rl hg (by simp; omega), ha]
     have := oX (U := P) (V := A) (W := B ++ S) (i := c) (by omega)
     rw [<- this]; congr 2; simp
    have ldd : ac T0 h 52 (.ptr id ((a + p + d) * (5 + 1))) = some (az (B.getD d default)) := by
     rw [rl hg (by simp; omega), ha, hp]
     have := oX (U := P ++ A) (V := B) (W := S) (i := d) (by omega)
     rw [List.length_append] at this
     rw [<- this]
    cases hcmp : ltF (B.getD d default) (A.getD c default)
    ·simp (disch := first | omega | assumption | (intros; simp only [dl2]; try omega)) only [cc, sL, bz, i7, cvA, wru, wv, i8, cvB, i9, ldc, ldd, hcmp, bX, Bool.not_false, Bool.not_true, i10]
     refine hR (c + 1, hi) _ ⟨rfl, by dsimp only; omega, by dsimp only; omega, h3, ?_, m2⟩ (by dsimp only; omega)
     dsimp only
     refine mI (by omega) (fun y R' e => ?_)
     rw [show M - (c + 1) = d by omega, fw (show d < B.length by omega)] at e
     injection e with e1 e2
     rw [<- e1]; exact hcmp
    ·simp (disch := first | omega | assumption | (intros; simp only [dl2]; try omega)) only [cc, sL, bz, i7, cvA, wru, wv, i8, cvB, i9, ldc, ldd, hcmp, bX, Bool.not_false, Bool.not_true]
     refine hR (lo, c) _ ⟨rfl, h1, bc.1, by dsimp only; omega, m1, ?_⟩ (by dsimp only; omega)
     dsimp only
     refine mJ (by omega) (fun L' x e => ?_)
     rw [show M - c = d + 1 by omega, dp (show d < B.length by omega)] at e
     have := (List.append_inj' e rfl).2
     injection this with this
     rw [<- this]; exact ordF.asym _ _ hcmp
   ·obtain rfl : lo = hi := by omega
    rw [da, aa, decide_eq_false (by omega), ay]
    clear hR
    obtain ⟨s, hs⟩ : ∃ s, s = lo := ⟨_, rfl⟩
    rw [<- hs] at m1 m2 h1 h3 |-
    obtain ⟨A1, hA1⟩ : ∃ l, l = A.take s := ⟨_, rfl⟩
    obtain ⟨A2, hA2⟩ : ∃ l, l = A.drop s := ⟨_, rfl⟩
    obtain ⟨B1, hB1⟩ : ∃ l, l = B.take (M - s) := ⟨_, rfl⟩
    obtain ⟨B2, hB2⟩ : ∃ l, l = B.drop (M - s) := ⟨_, rfl⟩
    have sA : A = A1 ++ A2 := by rw [hA1, hA2, List.take_append_drop]
    have sB : B = B1 ++ B2 := by rw [hB1, hB2, List.take_append_drop]
    have lA1 : A1.length = s := by rw [hA1, List.length_take]; omega
    have lA2 : A2.length = p - s := by rw [hA2, List.length_drop, <- hp]
    have lB1 : B1.length = M - s := by rw [hB1, List.length_take]; omega
    have lB2 : B2.length = q - (M - s) := by rw [hB2, List.length_drop, <- hq]
    rw [<- hA1, <- hB2] at m1
    rw [<- hB1, <- hA2] at m2
    have hA' : Srt ltF (A1 ++ A2) := by rw [<- sA]; exact hA
    have hB' : Srt ltF (B1 ++ B2) := by rw [<- sB]; exact hB
    have hall := halves ordF hA' hB' m1 m2
    have hg' : cr h id (P ++ A1 ++ A2 ++ (B1 ++ B2) ++ S) := by
     have : P ++ A1 ++ A2 ++ (B1 ++ B2) ++ S = P ++ A ++ B ++ S := by rw [sA, sB]; simp
     rw [this]; exact hg
    have j0 : ((2 * a + M + p : Nat) : Int) - ((a + s : Nat) : Int) = ((a + p + (M - s) : Nat) : Int) := by omega
    rw [bz, aa, cI (by omega) (by omega), j0]
    refine join7 (P := fun v0 v1 v2 v3 v4 v5 v6 σ => v0 = .fn 105 [] [] /\ v1 = .i .i64 ((a + p + q : Nat) : Int) /\ v2 = .i .i64 ((a + p + (M - s) : Nat) : Int) /\ v3 = .i .i64 ((a + M : Nat) : Int) /\ v4 = .sl id 0 N none /\ v5 = .i .i64 ((a + s : Nat) : Int) /\ v6 = .i .i64 (a : Nat) /\ σ.n = n /\ (∀ j, j ≠ id -> σ.h.get j = h.get j) /\ cr σ.h id (P ++ A1 ++ B1 ++ (A2 ++ B2 ++ S))) ?_ ?_
    ·intro K hK
     by_cases g1 : s < p
     ·by_cases g2 : s < M
      ·obtain ⟨r, σ', hrun, hr1, hr2, hr3, l', rfl, hr4⟩ := c144 (n := n) (N := N) (P ++ A1) A2 B1 (B2 ++ S) (fun e => by rw [e, List.length_nil] at lA2; omega) (fun e => by rw [e, List.length_nil] at lB1; omega) (by simp only [List.length_append]; omega) hN2 (by simpa using hg')
       rw [List.length_append, <- ha, lA1, lA2, lB1, show a + s + (p - s) = a + p by omega] at hrun
       subst hr1
       simp (disch := first | omega | assumption | (intros; simp only [dl2]; try omega)) only [cc, cL, gM, bk, aE, hrun.eq]
       exact hK _ _ _ _ _ _ _ _ ⟨rfl, rfl, rfl, rfl, rfl, rfl, rfl, hr2, hr3, by simpa using hr4⟩
      ·have e : B1 = [] := List.eq_nil_of_length_eq_zero (by omega)
       simp (disch := first | omega | assumption | (intros; simp only [dl2]; try omega)) only [cc, cL, cW, gM, bk, ay]
       exact hK _ _ _ _ _ _ _ _ ⟨rfl, rfl, rfl, rfl, rfl, rfl, rfl, rfl, fun j _ => rfl, by rw [e] at hg' |-; simpa using hg'⟩
     ·have e : A2 = [] := List.eq_nil_of_length_eq_zero (by omega)
      simp (disch := first | omega | assumption | (intros; simp only [dl2]; try omega)) only [cc, cW, kO, bB, ay]
      exact hK _ _ _ _ _ _ _ _ ⟨rfl, rfl, rfl, rfl, rfl, rfl, rfl, rfl, fun j _ => rfl, by rw [e] at hg' |-; simpa using hg'⟩
    ·rintro v0 v1 v2 v3 v4 v5 v6 ⟨h1', n1⟩ ⟨rfl, rfl, rfl, rfl, rfl, rfl, rfl, hn1, hf1, hr1⟩
     dsimp only at hn1 hf1 hr1
     subst hn1
     refine join5 (P := fun v0 v1 v2 v3 v4 σ => v0 = .fn 105 [] [] /\ v1 = .i .i64 ((a + p + q : Nat) : Int) /\ v2 = .i .i64 ((a + p + (M - s) : Nat) : Int) /\ v3 = .i .i64 ((a + M : Nat) : Int) /\ v4 = .sl id 0 N none /\ σ.n = n1 /\ (∀ j, j ≠ id -> σ.h.get j = h.get j) /\ ∃ C1, C1.Perm (A1 ++ B1) /\ Srt ltF C1 /\ cr σ.h id (P ++ C1 ++ (A2 ++ B2 ++ S))) ?_ ?_
     ·intro K hK
      by_cases g1 : 0 < s
      ·by_cases g2 : s < M
       ·obtain ⟨r, σ', hrun, hr1', hr2, hr3, l', ⟨C1, rfl, hr5, hr6⟩, hr4⟩ := ih P A1 B1 (A2 ++ B2 ++ S) h1' n1 id N (by omega) (fun e => by rw [e, List.length_nil] at lA1; omega) (fun e => by rw [e, List.length_nil] at lB1; omega) hA'.left hB'.left (by simp only [List.length_append]; omega) hN2 (by simpa using hr1)
        rw [<- ha, lA1, lB1, show a + s + (M - s) = a + M by omega] at hrun
        subst hr1'
        simp (disch := first | omega | assumption | (intros; simp only [dl2]; try omega)) only [cc, cL, gM, bk, aE, hrun.eq]
        exact hK _ _ _ _ _ _ ⟨rfl, rfl, rfl, rfl, rfl, hr2, fun j hj => (hr3 j hj).trans (hf1 j hj), C1, hr5, hr6, hr4⟩
       ·have e : B1 = [] := List.eq_nil_of_length_eq_zero (by omega)
        simp (disch := first | omega | assumption | (intros; simp only [dl2]; try omega)) only [cc, cL, cW, gM, bk, ay]
        exact hK _ _ _ _ _ _ ⟨rfl, rfl, rfl, rfl, rfl, rfl, hf1, A1 ++ B1, List.Perm.refl _, by rw [e, List.append_nil]; exact hA'.left, by simpa using hr1⟩
      ·have e : A1 = [] := List.eq_nil_of_length_eq_zero (by omega)
       simp (disch := first | omega | assumption | (intros; simp only [dl2]; try omega)) only [cc, cW, kO, bB, ay]
       exact hK _ _ _ _ _ _ ⟨rfl, rfl, rfl, rfl, rfl, rfl, hf1, A1 ++ B1, List.Perm.refl _, by rw [e, List.nil_append]; exact hB'.left, by simpa using hr1⟩
     ·rintro v0 v1 v2 v3 v4 ⟨h2', n2⟩ ⟨rfl, rfl, rfl, rfl, rfl, hn2, hf2, C1, hC1, hC1s, hr2⟩
      dsimp only at hn2 hf2 hr2
      subst hn2
      have lC1 : C1.length = M := by have := hC1.length_eq; rw [List.length_append] at this; omega
      have fin : ∀ (C2 : List Fld) (h3 : Tr AB), (∀ j, j ≠ id -> h3.get j = h.get j) -> C2.Perm (A2 ++ B2) -> Srt ltF C2 -> cr h3 id (P ++ C1 ++ C2 ++ S) -> tN h n2 id (.tup []) ⟨h3, n2⟩ (fun l' => ∃ C, l' = P ++ C ++ S /\ C.Perm (A ++ B) /\ Srt ltF C) := fun C2 h3 hf3 hC2 hC2s hr3 => by
       refine ⟨rfl, rfl, hf3, _, ⟨C1 ++ C2, rfl, ?_, ?_⟩, by simpa using hr3⟩
       ·refine (List.Perm.append hC1 hC2).trans ?_
        rw [sA, sB]
        simp only [List.append_assoc]
        refine List.Perm.append_left A1 ?_
        rw [<- List.append_assoc, <- List.append_assoc]
        exact List.Perm.append_right B2 List.perm_append_comm
       ·exact glue_all hC1s hC2s (pC (rc hall hC1) hC2)
      by_cases g1 : s < p
      ·by_cases g2 : p - s < p + q - M
       ·obtain ⟨r, σ', hrun, hr1', hr2', hr3, l', ⟨C2, rfl, hr5, hr6⟩, hr4⟩ := ih (P ++ C1) A2 B2 S h2' n2 id N (by omega) (fun e => by rw [e, List.length_nil] at lA2; omega) (fun e => by rw [e, List.length_nil] at lB2; omega) hA'.right hB'.right (by simp only [List.length_append]; omega) hN2 (by simpa using hr2)
        rw [List.length_append, <- ha, lC1, lA2, lB2, show a + M + (p - s) = a + p + (M - s) by omega, show a + p + (M - s) + (q - (M - s)) = a + p + q by omega] at hrun
        subst hr1'
        simp (disch := first | omega | assumption | (intros; simp only [dl2]; try omega)) only [cc, cL, gM, bk, aE, hrun.eq]
        obtain ⟨h4, n4⟩ := σ'
        dsimp only at hr2' hr3 hr4
        subst hr2'
        exact fin C2 h4 (fun j hj => (hr3 j hj).trans (hf2 j hj)) hr5 hr6 hr4
       ·have e : B2 = [] := List.eq_nil_of_length_eq_zero (by omega)
        simp (disch := first | omega | assumption | (intros; simp only [dl2]; try omega)) only [cc, cL, cW, gM, bk, ay]
        exact fin (A2 ++ B2) h2' hf2 (List.Perm.refl _) (by rw [e, List.append_nil]; exact hA'.right) (by simpa using hr2)
      ·have e : A2 = [] := List.eq_nil_of_length_eq_zero (by omega)
       simp (disch := first | omega | assumption | (intros; simp only [dl2]; try omega)) only [cc, cW, kO, bB, ay]
       exact fin (A2 ++ B2) h2' hf2 (List.Perm.refl _) (by rw [e, List.nil_append]; exact hB'.right) (by simpa using hr2)
theorem x120 (a0 a1 a2 : AV) {σ : AS} {Q : AV -> AS -> Prop} (h : w120 (av T0) a0 a1 a2 σ Q) : ∃ r σ', Runs T0 120 [a0, a1, a2] σ r σ' /\ Q r σ' :=
 Runs.ex (by kernel_rfl) (by kernel_rfl) (show T0.fn 120 = some Tryz.f120 by kernel_rfl) (by kernel_rfl) (by kernel_rfl) (by kernel_rfl) (by rw [w120_eq] at h; exact h)
theorem x104 (a0 a1 : AV) {σ : AS} {Q : AV -> AS -> Prop} (h : w104 (av T0) a0 a1 σ Q) : ∃ r σ', Runs T0 104 [a0, a1] σ r σ' /\ Q r σ' :=
 Runs.ex (by kernel_rfl) (by kernel_rfl) (show T0.fn 104 = some Tryz.f104 by kernel_rfl) (by kernel_rfl) (by kernel_rfl) (by kernel_rfl) (by rw [w104_eq] at h; exact h)
def qW (bs : Nat) (Ds : List (List Fld)) : Prop := ∀ d ∈ Ds, d.length = bs /\ Srt ltF d
theorem gb {bs : Nat} : ∀ {Ds : List (List Fld)}, qW bs Ds -> Ds.flatten.length = bs * Ds.length
 | [], _ => by simp
 | d :: Ds, h => by
  have h1 := h d (List.mem_cons_self ..)
  have ih := gb (bs := bs) (Ds := Ds) (fun x hx => h x (List.mem_cons_of_mem _ hx))
  rw [List.flatten_cons, List.length_append, ih, h1.1, List.length_cons, Nat.mul_add, Nat.mul_one]; omega
theorem pS {bs : Nat} {Ds : List (List Fld)} {d : List Fld} (h : qW bs Ds) (h1 : d.length = bs) (h2 : Srt ltF d) : qW bs (Ds ++ [d]) := fun x hx => by
 rcases List.mem_append.1 hx with hx | hx
 ·exact h x hx
 ·rw [List.mem_singleton.1 hx]; exact ⟨h1, h2⟩
theorem kG (Ds : List (List Fld)) (d : List Fld) : (Ds ++ [d]).flatten = Ds.flatten ++ d := by simp
theorem c120 {h : Tr AB} {n id N : Nat} (l : List Fld) (hN : N = l.length) (hN2 : N <= 1000000) (hg : cr h id l) :
  ∃ r σ', Runs T0 120 [.sl id 0 N none, .i .i64 (N : Nat), .fn 105 [] []] ⟨h, n⟩ r σ' /\ tN h n id r σ' (fun l' => l'.Perm l /\ Srt ltF l') := by
 refine x120 _ _ _ ?_
 unfold w120
 dsimp only [av]
 refine uM (X := List (List Fld) × List Fld) (fun _ => .fn 105 [] []) (fun _ => .i .i64 (N : Nat)) (fun _ => .sl id 0 N none) (fun _ => .i .i64 20) (fun y => .i .i64 ((20 * y.1.length : Nat) : Int)) (fun y => .i .i64 ((20 * y.1.length + 20 : Nat) : Int))
  (fun y σ => σ.n = n /\ (∀ j, j ≠ id -> σ.h.get j = h.get j) /\ qW 20 y.1 /\ (y.1.flatten ++ y.2).Perm l /\ cr σ.h id (y.1.flatten ++ y.2)) (fun y => y.2.length) ?_ ([], l) _
  ⟨rfl, fun j _ => rfl, fun d hd => (by cases hd), List.Perm.refl _, hg⟩
 rintro R ⟨Ds, Rr⟩ ⟨h1, n1⟩ ⟨hn, hf, hD, hp, hr⟩ hR
 dsimp only at hn hf hD hp hr hR |-
 subst hn
 have hl := hp.length_eq
 have hdl := gb hD
 rw [List.length_append] at hl
 by_cases g : 20 <= Rr.length
 ·have e1 : Rr = Rr.take 20 ++ Rr.drop 20 := (List.take_append_drop _ _).symm
  have l20 : (Rr.take 20).length = 20 := by rw [List.length_take]; omega
  obtain ⟨r, σ', hrun, hr1, hr2, hr3, l', ⟨A', rfl, hr5, hr6⟩, hr4⟩ := c136 (h := h1) (n := n1) (id := id) (N := N) Ds.flatten (Rr.take 20) (Rr.drop 20) (by rw [List.append_assoc, <- e1, List.length_append]; omega) hN2 (by rw [List.append_assoc, <- e1]; exact hr)
  rw [hdl, l20] at hrun
  subst hr1
  have i1 : ((20 * Ds.length + 20 : Nat) : Int) + 20 = ((20 * Ds.length + 20 + 20 : Nat) : Int) := by omega
  simp (disch := first | omega | assumption | (intros; simp only [dl2]; try omega)) only [aa, gA, cL, aE, hrun.eq, aC, cI, i1]
  have hA : A'.length = 20 := by rw [hr5.length_eq, l20]
  have := hR (Ds ++ [A'], Rr.drop 20) σ' ⟨hr2, fun j hj => (hr3 j hj).trans (hf j hj), pS hD hA hr6, by
    dsimp only
    rw [kG, List.append_assoc]
    refine List.Perm.trans (List.Perm.append_left _ ?_) hp
    conv => rhs; rw [e1]
    exact List.Perm.append_right _ hr5, by dsimp only; rw [kG]; exact hr4⟩ (by dsimp only; rw [List.length_drop]; omega)
  dsimp only at this
  rw [List.length_append, List.length_singleton, show 20 * (Ds.length + 1) = 20 * Ds.length + 20 by omega] at this
  exact this
 ·obtain ⟨r, σ', hrun, hr1, hr2, hr3, l', ⟨A', rfl, hr5, hr6⟩, hr4⟩ := c136 (h := h1) (n := n1) (id := id) (N := N) Ds.flatten Rr [] (by rw [List.append_nil, List.length_append]; omega) hN2 (by rw [List.append_nil]; exact hr)
  rw [hdl, show 20 * Ds.length + Rr.length = N by omega] at hrun
  subst hr1
  rw [gA, aa, decide_eq_false (by omega), ay, hrun.eq]
  clear hR
  refine jR (X := Nat × List (List Fld) × List Fld) (fun _ => .fn 105 [] []) (fun _ => .i .i64 (N : Nat)) (fun _ => .sl id 0 N none) (fun y => .i .i64 (y.1 : Nat))
   (fun y σ => σ.n = n1 /\ (∀ j, j ≠ id -> σ.h.get j = h.get j) /\ 20 <= y.1 /\ y.1 <= 4000000 /\ qW y.1 y.2.1 /\ Srt ltF y.2.2 /\ y.2.2.length < y.1 /\ (y.2.1.flatten ++ y.2.2).Perm l /\ cr σ.h id (y.2.1.flatten ++ y.2.2)) (fun y => 4000000 - y.1) ?_ (20, Ds, A') _
   ⟨hr2, fun j hj => (hr3 j hj).trans (hf j hj), Nat.le_refl _, by dsimp only; omega, hD, hr6, by dsimp only; rw [hr5.length_eq]; omega, (List.Perm.append_left _ hr5).trans hp, by simpa using hr4⟩
  clear hr hr2 hr3 hr4 hr5 hr6 hrun hp hl hdl hD hf g
  rintro R ⟨bs, Ds, L⟩ ⟨h2, n2⟩ ⟨hn, hf, hb1, hb2, hD, hL, hLl, hp, hr⟩ hR
  dsimp only at hn hf hb1 hb2 hD hL hLl hp hr hR |-
  subst hn
  have hl := hp.length_eq
  have hdl := gb hD
  rw [List.length_append, hdl] at hl
  by_cases g : bs < N
  ·have i1 : (2 : Int) * (bs : Nat) = ((2 * bs : Nat) : Int) := by omega
   simp (disch := first | omega | assumption | (intros; simp only [dl2]; try omega)) only [cc, cL, aE, mm, cI, i1]
   refine uM (X := List (List Fld) × List (List Fld)) (fun _ => .fn 105 [] []) (fun _ => .i .i64 (N : Nat)) (fun _ => .sl id 0 N none) (fun _ => .i .i64 (bs : Nat)) (fun y => .i .i64 ((2 * bs * y.1.length : Nat) : Int)) (fun y => .i .i64 ((2 * bs + 2 * bs * y.1.length : Nat) : Int))
    (fun y σ => σ.n = n2 /\ (∀ j, j ≠ id -> σ.h.get j = h.get j) /\ qW (2 * bs) y.1 /\ qW bs y.2 /\ (y.1.flatten ++ (y.2.flatten ++ L)).Perm l /\ cr σ.h id (y.1.flatten ++ (y.2.flatten ++ L))) (fun y => y.2.length) ?_ ([], Ds) ⟨h2, n2⟩
    ⟨rfl, hf, fun d hd => (by cases hd), hD, hp, hr⟩
   clear hp hr hl hdl hD hf
   rintro R2 ⟨Dn, Td⟩ ⟨h3, n3⟩ ⟨hn3, hf, hDn, hTd, hp, hr⟩ hR2
   dsimp only at hn3 hf hDn hTd hp hr hR2 |-
   subst hn3
   have hl := hp.length_eq
   have l1 := gb hDn
   have l2 := gb hTd
   rw [List.length_append, List.length_append, l1, l2] at hl
   obtain ⟨u, hu⟩ : ∃ u, u = 2 * bs * Dn.length := ⟨_, rfl⟩
   rw [<- hu] at l1 hl |-
   have i3 : ((u : Nat) : Int) + (bs : Nat) = ((u + bs : Nat) : Int) := by omega
   have i4 : ((bs : Nat) : Int) * 2 = ((2 * bs : Nat) : Int) := by omega
   match Td, hTd, hp, hr, hR2, l2, hl with
   | [], hTd, hp, hr, hR2, l2, hl =>
    rw [List.length_nil, Nat.mul_zero, Nat.zero_add] at hl
    simp (disch := first | omega | assumption | (intros; simp only [dl2]; try omega)) only [cc, gA, cW, ay, aC, cI, i3, iD, mm, i4]
    have := hR (2 * bs, Dn, L) ⟨h3, n3⟩ ⟨rfl, hf, by dsimp only; omega, by dsimp only; omega, hDn, hL, by dsimp only; omega, by simpa using hp, by simpa using hr⟩ (by dsimp only; omega)
    exact this
   | [d], hTd, hp, hr, hR2, l2, hl =>
    rw [List.length_singleton, Nat.mul_one] at hl
    have hd := hTd d (List.mem_cons_self ..)
    by_cases hL0 : L = []
    ·have : L.length = 0 := by rw [hL0]; rfl
     simp (disch := first | omega | assumption | (intros; simp only [dl2]; try omega)) only [cc, gA, cW, ay, aC, cI, i3, iD, mm, i4]
     have := hR (2 * bs, Dn, d) ⟨h3, n3⟩ ⟨rfl, hf, by dsimp only; omega, by dsimp only; omega, hDn, hd.2, by dsimp only; omega, by rw [hL0] at hp; simpa using hp, by rw [hL0] at hr; simpa using hr⟩ (by dsimp only; omega)
     exact this
    ·have hLp := mG hL0
     have hr' : cr h3 id (Dn.flatten ++ d ++ L ++ []) := by simpa using hr
     obtain ⟨r, σ', hrun, hr1, hr2, hr3, l', ⟨C, rfl, hr5, hr6⟩, hr4⟩ := c137 _ Dn.flatten d L [] h3 n3 id N (Nat.le_refl _) (fun e => by rw [e, List.length_nil] at hd; omega) hL0 hd.2 hL (by simp only [List.length_append, List.length_nil]; omega) hN2 hr'
     rw [l1, hd.1, show u + bs + L.length = N by omega] at hrun
     subst hr1
     simp (disch := first | omega | assumption | (intros; simp only [dl2]; try omega)) only [cc, gA, cW, cL, ay, aE, aC, cI, i3, iD, mm, i4, hrun.eq]
     have hCl := hr5.length_eq
     rw [List.length_append] at hCl
     have := hR (2 * bs, Dn, C) σ' ⟨hr2, fun j hj => (hr3 j hj).trans (hf j hj), by dsimp only; omega, by dsimp only; omega, hDn, hr6, by dsimp only; omega, (List.Perm.append_left _ hr5).trans (by simpa using hp), by simpa using hr4⟩ (by dsimp only; omega)
     exact this
   | d1 :: d2 :: Td, hTd, hp, hr, hR2, l2, hl =>
    have hd1 := hTd d1 (List.mem_cons_self ..)
    have hd2 := hTd d2 (List.mem_cons_of_mem _ (List.mem_cons_self ..))
    rw [List.length_cons, List.length_cons, show bs * (Td.length + 1 + 1) = bs * Td.length + 2 * bs by rw [Nat.mul_add, Nat.mul_add]; omega] at hl
    have hTl := gb (bs := bs) (Ds := Td) (fun x hx => hTd x (List.mem_cons_of_mem _ (List.mem_cons_of_mem _ hx)))
    have hr' : cr h3 id (Dn.flatten ++ d1 ++ d2 ++ (Td.flatten ++ L)) := by simpa using hr
    obtain ⟨r, σ', hrun, hr1, hr2, hr3, l', ⟨C, rfl, hr5, hr6⟩, hr4⟩ := c137 _ Dn.flatten d1 d2 (Td.flatten ++ L) h3 n3 id N (Nat.le_refl _) (fun e => by rw [e, List.length_nil] at hd1; omega) (fun e => by rw [e, List.length_nil] at hd2; omega) hd1.2 hd2.2 (by simp only [List.length_append]; omega) hN2 hr'
    rw [l1, hd1.1, hd2.1, show u + bs + bs = 2 * bs + u by omega] at hrun
    subst hr1
    have i5 : ((2 * bs + u : Nat) : Int) + ((2 * bs : Nat) : Int) = ((2 * bs + (2 * bs + u) : Nat) : Int) := by omega
    simp (disch := first | omega | assumption | (intros; simp only [dl2]; try omega)) only [aa, gA, cL, aE, aC, cI, i3, mm, i1, i5, hrun.eq]
    have hCl := hr5.length_eq
    rw [List.length_append] at hCl
    have := hR2 (Dn ++ [C], Td) σ' ⟨hr2, fun j hj => (hr3 j hj).trans (hf j hj), pS hDn (by omega) hr6, fun x hx => hTd x (List.mem_cons_of_mem _ (List.mem_cons_of_mem _ hx)), by
      dsimp only
      rw [kG, List.append_assoc]
      refine List.Perm.trans (List.Perm.append_left _ (List.Perm.append_right _ hr5)) ?_
      simpa using hp, by dsimp only; rw [kG]; exact hr4⟩ (by dsimp only; simp only [List.length_cons]; omega)
    dsimp only at this
    rw [List.length_append, List.length_singleton, show 2 * bs * (Dn.length + 1) = 2 * bs + u by rw [Nat.mul_add, <- hu, Nat.mul_one]; omega] at this
    exact this
  ·rw [da, aa, decide_eq_false (by omega), ay]
   refine ⟨rfl, rfl, hf, _, ⟨hp, ?_⟩, hr⟩
   cases Ds with
   | nil => simpa using hL
   | cons d Ds =>
    have hd := hD d (List.mem_cons_self ..)
    rw [List.length_cons] at hl
    have hz : bs * Ds.length = 0 /\ L.length = 0 := by
     have : bs * (Ds.length + 1) = bs * Ds.length + bs := by rw [Nat.mul_add, Nat.mul_one]
     omega
    have h0 : Ds = [] := List.eq_nil_of_length_eq_zero (by
     rcases Nat.mul_eq_zero.1 hz.1 with e | e
     ·omega
     ·exact e)
    have hL0 : L = [] := List.eq_nil_of_length_eq_zero hz.2
    subst h0; subst hL0
    simpa using hd.2
theorem c104 {h : Tr AB} {n id N : Nat} (l : List Fld) (hN : N = l.length) (hN2 : N <= 1000000) (hg : cr h id l) :
  ∃ r σ', Runs T0 104 [.sl id 0 N none, .fn 105 [] []] ⟨h, n⟩ r σ' /\ tN h n id r σ' (fun l' => l'.Perm l /\ Srt ltF l') := by
 refine x104 _ _ ?_
 unfold w104
 dsimp only [av]
 obtain ⟨r, σ', hrun, hl⟩ := c120 (n := n) l hN hN2 hg
 rw [lV elF.ty, aa, hrun.eq]
 exact ⟨rfl, hl.2⟩
theorem c123 (f : Fld) (nm : List UInt8) : R T0 123 [az f, .iptr [.s nm]] (.b (f.name == nm)) := by
 refine r123 _ _ (by rw [bp, aw]; rfl) (by rw [bp, aw]; rfl) ?_
 unfold w123
 dsimp only [av]
 have q : aD T0 9 [AV.s nm] = some (.s nm) := lG _ _
 simp (disch := first | omega | assumption | (intros; simp only [dl3]; try omega)) only [vb4, ne_eq, vb8, vb1, br, cb, q]
theorem c72d (l : List Fld) (nm : List UInt8) (hl : l.length <= 1000000) : R T0 72 [.lst (l.map az), .fn 123 [] [.iptr [.s nm]]] (.i .i64 (cJ (fun f => f.name == nm) l)) := by
 refine r72 _ _ rfl rfl ?_
 unfold w72
 dsimp only [av]
 simp (disch := first | omega | assumption | (intros; simp only [dl3]; try omega)) only [aa, mM, bV]
 refine jR (X := Nat) (fun _ => .lst (l.map az)) (fun _ => .fn 123 [] [.iptr [.s nm]]) (fun _ => .i .i64 (l.length : Nat)) (fun j => .i .i64 (j : Nat)) (fun j σ => j <= l.length /\ (l.take j).all (fun f => !(f.name == nm)) = true) (fun j => l.length - j) ?_ 0 _ ⟨Nat.zero_le _, rfl⟩
 rintro R j σ ⟨hj, ha⟩ hR
 simp only [cc]
 refine aT (fun h => ?_) (fun h => ?_)
 ·have hj' : j < l.length := by omega
  have e := fun (d : Nat) (σ : AS) (K : AV -> AS -> Prop) => (c123 (l.getD j default) nm).eq d σ K
  cases hs : ((l.getD j default).name == nm)
  ·rw [hs] at e
   simp (disch := first | omega | assumption | (intros; simp only [dl3]; try omega)) only [vb4, ne_eq, aX, aC, vb1, kN, List.nil_append, List.cons_append, e]
   exact hR (j + 1) _ ⟨by omega, aO (d := default) ha hj' (by rw [hs]; rfl)⟩ (by omega)
  ·rw [hs] at e
   simp (disch := first | omega | assumption | (intros; simp only [dl3]; try omega)) only [vb4, ne_eq, aX, aC, vb1, kN, List.nil_append, List.cons_append, e]
   rw [iX (q := fun f : Fld => f.name == nm) (d := default) ha hj' hs]
 ·rw [gL (cu ha (by omega)), oc]
theorem fz_cl {h : Tr AB} {j e : Nat} {g : Bool} {nm : List UInt8} (hg : h.get j = some (.cells [.s nm] e g)) (k : Nat) : fz T0 h (k + 3) (.fn 123 [] [.ptr j 0]) = some (.fn 123 [] [.iptr [.s nm]]) := by
 have h1 : fz T0 h (k + 2) (.ptr j 0) = some (.iptr [.s nm]) := by
  unfold fz
  have b : Nat.ble 0 [AV.s nm].length = true := rfl
  have m : cU (fz T0 h (k + 1)) [AV.s nm] = some [.s nm] := be (db k rfl) rfl
  simp only [AV.idfree, hg, b, List.drop_zero, m, Option.map_some]
 unfold fz
 have i : (AV.fn 123 [] [.ptr j 0]).idfree = false := rfl
 have m1 : cU (fz T0 h (k + 2)) [] = some [] := rfl
 have m2 : cU (fz T0 h (k + 2)) [AV.ptr j 0] = some [.iptr [.s nm]] := be h1 zN
 simp only [i, m1, m2]
theorem l123 {σ : AS} {j e : Nat} {g : Bool} {nm : List UInt8} (hg : σ.h.get j = some (.cells [.s nm] e g)) (f : Fld) {d : Nat} {K : AV -> AS -> Prop} : oF T0 d (.fn 123 [] [.ptr j 0]) [az f] σ K = K (.b (f.name == nm)) σ := by
 rw [kN]
 have h1 : fz T0 σ.h 2 (.ptr j 0) = some (.iptr [.s nm]) := by
  unfold fz
  have b : Nat.ble 0 [AV.s nm].length = true := rfl
  have m : cU (fz T0 σ.h 1) [AV.s nm] = some [.s nm] := be (db 0 rfl) rfl
  simp only [AV.idfree, hg, b, List.drop_zero, m, Option.map_some]
 have hF : (az f).idfree = true := by rw [bp, aw]; rfl
 have hN : (az f).norm = az f := by rw [bp, aw]; rfl
 have h2 : fz T0 σ.h 2 (az f) = some (az f) := by rw [db 1 hF, hN]
 exact (R.lent (m := 2) (args' := [az f, .iptr [.s nm]]) (by kernel_rfl) (by kernel_rfl) (by kernel_rfl) (by rw [bp, aw]; rfl) (by rw [bp, aw]; rfl) (by rw [bp, aw]; rfl) rfl (be h2 (be h1 rfl)) (c123 f nm)).eq d K
theorem l72 {σ : AS} {j e : Nat} {g : Bool} {nm : List UInt8} (hg : σ.h.get j = some (.cells [.s nm] e g)) {x : AV} {l : List Fld} (hl : l.length <= 1000000) (hx : fz T0 σ.h 3 x = some (.lst (l.map az))) {d : Nat} {K : AV -> AS -> Prop} : oC T0 d 72 [x, .fn 123 [] [.ptr j 0]] σ K = K (.i .i64 (cJ (fun f => f.name == nm) l)) σ := by
 refine (R.lent (m := 3) (args' := [.lst (l.map az), .fn 123 [] [.iptr [.s nm]]]) (by kernel_rfl) (by kernel_rfl) (by kernel_rfl) ?_ rfl rfl rfl (be hx (be (fz_cl hg 0) rfl)) (c72d l nm hl)).eq d K
 show (x.idfree && (false && true)) = false
 cases x.idfree <;> rfl
theorem x122 (a0 a1 : AV) {σ : AS} {Q : AV -> AS -> Prop} (h : w122 (av T0) a0 a1 σ Q) : ∃ r σ', Runs T0 122 [a0, a1] σ r σ' /\ Q r σ' :=
 Runs.ex (by kernel_rfl) (by kernel_rfl) (show T0.fn 122 = some Tryz.f122 by kernel_rfl) (by kernel_rfl) (by kernel_rfl) (by kernel_rfl) (by rw [w122_eq] at h; exact h)
def sI (Z : List AV) : Prop := AV.idfree.idfrees Z = true /\ ∃ k, Z.length = k * (5 + 1)
def dX (nm : List UInt8) (f : Fld) : Bool := !(f.name == nm)
theorem dlsuf {T : Tab} {α : Type} {enc : α -> AV} {t e z by_ : Nat} {h : Tr AB} {id w N : Nat} (E : El T enc t e z by_) (hw : w < N) : aQ T h t (.sl id 0 N none) (some (.i .i64 (w : Nat))) none none = some (.sl id (w * (z + 1)) (N - w) none) := by
 have b1 : fR N N none = some N := rfl
 have b2 : fR N 0 (some (.i .i64 (w : Nat))) = some w := by
  simp only [fR, bnd]; rw [if_pos ⟨by omega, by omega⟩]; simp
 have b : bU N none (some (.i .i64 (w : Nat))) none none = some (w, N, none) := by
  simp only [bU, Option.getD_none, b1, b2]
 refine iQ ?_
 unfold dD
 simp only [E.ty, E.sz, b]
 cases w with
 | zero => simp
 | succ w =>
  rw [Nat.ble_eq_true_of_le (show w + 1 + 1 <= N from hw)]
  simp only [Nat.zero_add]
theorem sV (cs : List AV) : ∀ n, (dF cs n).length = n * cs.length
 | 0 => by simp [dF]
 | n + 1 => by rw [dF, List.length_append, sV cs n, Nat.add_mul]; omega
theorem rx {cs : List AV} (h : aM cs = true) : ∀ n, aM (dF cs n) = true
 | 0 => rfl
 | n + 1 => by rw [dF, kn, h, rx h n]; rfl
theorem ry {cs : List AV} (h : AV.idfree.idfrees cs = true) : ∀ n, AV.idfree.idfrees (dF cs n) = true
 | 0 => rfl
 | n + 1 => by rw [dF, dS, h, ry h n]; rfl
theorem c122 {h : Tr AB} {n id j0 e : Nat} {g : Bool} {nm : List UInt8} (l : List Fld) (hlp : 0 < l.length) (hl : l.length <= 1000000) (hid : id < n) (hj0 : j0 < n) (hne : j0 ≠ id) (hg : cr h id l) (hc : h.get j0 = some (.cells [.s nm] e g)) :
  ∃ r σ', Runs T0 122 [.sl id 0 l.length none, .fn 123 [] [.ptr j0 0]] ⟨h, n⟩ r σ' /\ r = .sl id 0 (l.filter (dX nm)).length none /\ n <= σ'.n /\ (∃ Z, sI Z /\ σ'.h.get id = some (.cells (ax az (l.filter (dX nm)) ++ Z) 52 true)) := by
 refine x122 _ _ ?_
 unfold w122
 dsimp only [av]
 have hx : fz T0 h 3 (.sl id 0 l.length none) = some (.lst (l.map az)) := by
  have := yR (cap := none) (g := true) (C := []) elF.rowT (RowE.mapE elF l) (h := h) (id := id) (by rw [List.append_nil, <- cz]; exact hg)
  rw [List.length_map] at this; exact this
 rw [l72 (σ := ⟨h, n⟩) hc hl hx]
 by_cases hall : l.all (fun f => !(f.name == nm)) = true
 ·rw [gL hall, bZ, aa, decide_eq_true rfl, aE]
  have hfl : l.filter (dX nm) = l := List.filter_eq_self.2 (fun f hf => List.all_eq_true.1 hall f hf)
  rw [hfl]
  exact ⟨rfl, Nat.le_refl _, [], ⟨rfl, 0, rfl⟩, by rw [List.append_nil]; exact hg⟩
 ·have hlt : l.findIdx (fun f => f.name == nm) < l.length := by
   rw [List.findIdx_lt_length]
   simp only [List.all_eq_true, Bool.not_eq_true'] at hall
   have : ∃ x, ¬ (x ∈ l -> (x.name == nm) = false) := Classical.not_forall.1 hall
   obtain ⟨x, hx⟩ := this
   have h1 : x ∈ l := Classical.byContradiction fun q => hx (fun q2 => absurd q2 q)
   exact ⟨x, h1, by cases hq : (x.name == nm) with | true => rfl | false => exact absurd (fun _ => hq) hx⟩
  obtain ⟨i, hi⟩ : ∃ i, i = l.findIdx (fun f => f.name == nm) := ⟨_, rfl⟩
  rw [<- hi] at hlt
  have hix : cJ (fun f : Fld => f.name == nm) l = (i : Nat) := by unfold cJ; rw [<- hi, if_pos hlt]
  have hq : (l[i].name == nm) = true := by subst hi; exact List.findIdx_getElem (w := hlt)
  have hbefore : ∀ f ∈ l.take i, dX nm f = true := fun f hf => by
   rw [List.mem_take_iff_getElem] at hf
   obtain ⟨k, hk, rfl⟩ := hf
   have := List.not_of_lt_findIdx (p := fun f : Fld => f.name == nm) (xs := l) (i := k) (by rw [<- hi]; omega)
   unfold dX; simpa using this
  have hsplit : l = l.take i ++ l[i] :: l.drop (i + 1) := by
   conv => lhs; rw [<- List.take_append_drop i l, List.drop_eq_getElem_cons hlt]
  have hfil : l.filter (dX nm) = l.take i ++ (l.drop (i + 1)).filter (dX nm) := by
   conv => lhs; rw [hsplit, List.filter_append, List.filter_cons_of_neg (by unfold dX; rw [hq]; exact Bool.false_ne_true)]
   rw [List.filter_eq_self.2 hbefore]
  have e1 : ((i : Nat) : Int) + 1 = ((i + 1 : Nat) : Int) := by omega
  rw [hix, bZ, aa, decide_eq_false (by omega), ay, aC, aa, cI (by omega) (by omega), e1]
  refine jR (X := (List Fld × List Fld × List Fld) × (Nat × Nat)) (fun x => .i .i64 (x.2.1 : Nat)) (fun _ => .sl id 0 l.length none) (fun _ => .fn 123 [] [.ptr j0 0]) (fun x => .i .i64 (x.2.2 : Nat))
   (fun x σ => x.2.1 = x.1.1.length /\ x.2.2 = x.1.1.length + x.1.2.1.length /\ n <= σ.n /\ x.1.2.1 ≠ [] /\ x.1.1 ++ x.1.2.2.filter (dX nm) = l.filter (dX nm) /\ x.1.1.length + x.1.2.1.length + x.1.2.2.length = l.length /\ cr σ.h id (x.1.1 ++ x.1.2.1 ++ x.1.2.2) /\ σ.h.get j0 = some (.cells [.s nm] e g)) (fun x => x.1.2.2.length) ?_ ((l.take i, [l[i]], l.drop (i + 1)), (i, i + 1)) _
   ⟨by dsimp only; rw [List.length_take]; omega, by dsimp only; rw [List.length_take, List.length_singleton]; omega, Nat.le_refl _, by simp, hfil.symm, by dsimp only; rw [List.length_take, List.length_singleton, List.length_drop]; omega, by
    have : l.take i ++ [l[i]] ++ l.drop (i + 1) = l := by rw [List.append_assoc]; exact hsplit.symm
    dsimp only; rw [this]; exact hg, hc⟩
  clear hx hix hq hbefore hsplit hfil e1 hi hlt hg hc hall
  rintro R ⟨⟨K, G, D⟩, w, jj⟩ ⟨h1, n1⟩ ⟨hw, hj, hn, hG, hf, hl2, hr, hc⟩ hR
  dsimp only at hw hj hn hG hf hl2 hr hc hR |-
  subst hw; subst hj
  have hGl := mG hG
  rw [lV elF.ty, aa, da, aa]
  cases D with
  | nil =>
   rw [List.length_nil] at hl2
   rw [List.filter_nil, List.append_nil] at hf
   rw [List.append_nil] at hr
   rw [decide_eq_false (by omega), ay, dlsuf elF (by omega), aa]
   obtain ⟨zv, z1, z2⟩ := zr_52
   have zl : zv.cells.length = 5 + 1 := by rw [z2]; rfl
   obtain ⟨m, hm⟩ : ∃ m, l.length - K.length = m + 1 := ⟨l.length - K.length - 1, by omega⟩
   have st : bQ (ax az (K ++ G)) (K.length * (5 + 1)) (dF zv.cells (m + 1)) = some (ax az K ++ dF zv.cells (m + 1)) := by
    rw [cD, <- cX elF]
    have lg : (dF zv.cells (m + 1)).length = (ax az G).length := by rw [sV, zl, cX elF, <- hm]; congr 1; omega
    rw [sR _ _ _ (by omega), List.drop_of_length_le (by omega), List.append_nil]
   have lf : aM (dF zv.cells (m + 1)) = true := rx (by rw [z2]; rfl) _
   have cl : jc T0 ⟨h1, n1⟩ 33 (.sl id (K.length * (5 + 1)) (l.length - K.length) none) = some (.tup [], ⟨h1.put id (some (.cells (ax az K ++ dF zv.cells (m + 1)) 52 true)), n1⟩) := by
    rw [hm]
    unfold jc
    have hr2 : h1.get id = some (.cells (ax az (K ++ G)) 52 true) := hr
    simp only [elF.ty, z1, hr2, lf, st]
   rw [cl, aZ, dl22 elF (by omega), aa]
   exact ⟨by rw [hf], hn, dF zv.cells (m + 1), ⟨ry (by rw [z2]; rfl) _, m + 1, by rw [sV, zl]⟩, by rw [<- hf]; exact ah _ _ _⟩
  | cons f D =>
   rw [List.length_cons] at hl2
   have hjn : j0 ≠ n1 := by omega
   have hin : id ≠ n1 := by omega
   have hr0 : cr h1 id ((K ++ G) ++ f :: D) := hr
   have lkg : (K ++ G).length = K.length + G.length := List.length_append
   have ldf : ac T0 h1 52 (.ptr id ((K.length + G.length) * (5 + 1))) = some (az f) := by
    rw [<- lkg, rl hr0 (by simp only [List.length_append, List.length_cons]; omega), fL]
   have c2 : (⟨(h1.put n1 (some (.cells [.s [], .i .i64 0, .i .i64 0, .s [], .nilz true, .nilz true] 52 false))).put n1 (some (.cells (az f).cells 52 false)), n1 + 1⟩ : AS).h.get j0 = some (.cells [.s nm] e g) := by dsimp only; rw [ae _ _ hjn, ae _ _ hjn]; exact hc
   have hr3 : cr ((h1.put n1 (some (.cells [.s [], .i .i64 0, .i .i64 0, .s [], .nilz true, .nilz true] 52 false))).put n1 (some (.cells (az f).cells 52 false))) id (K ++ G ++ f :: D) := by unfold cr; rw [ae _ _ hin, ae _ _ hin]; exact hr
   have ld2 : ac T0 ((h1.put n1 (some (.cells [.s [], .i .i64 0, .i .i64 0, .s [], .nilz true, .nilz true] 52 false))).put n1 (some (.cells (az f).cells 52 false))) 52 (.ptr n1 0) = some (az f) := by
    rw [cE, ah, bH (Nat.zero_le _)]; exact kA f
   have e3 : ((K.length + G.length : Nat) : Int) + 1 = ((K.length + G.length + 1 : Nat) : Int) := by omega
   rw [decide_eq_true (by omega), aE, iD, jv (by omega), aa, ldf, aa, bt, uh, aG]
   dsimp only
   rw [ld2, aa, l123 c2, bX, aa]
   cases hk : (f.name == nm)
   ·obtain ⟨g0, G', rfl⟩ : ∃ g0 G', G = g0 :: G' := by
     cases G with
     | nil => exact absurd rfl hG
     | cons a b => exact ⟨a, b, rfl⟩
    have hr4 : cr ((h1.put n1 (some (.cells [.s [], .i .i64 0, .i .i64 0, .s [], .nilz true, .nilz true] 52 false))).put n1 (some (.cells (az f).cells 52 false))) id (K ++ g0 :: (G' ++ f :: D)) := by simpa using hr3
    have stf : aA T0 ((h1.put n1 (some (.cells [.s [], .i .i64 0, .i .i64 0, .s [], .nilz true, .nilz true] 52 false))).put n1 (some (.cells (az f).cells 52 false))) 52 (.ptr id (K.length * (5 + 1))) (az f) = some (((h1.put n1 (some (.cells [.s [], .i .i64 0, .i .i64 0, .s [], .nilz true, .nilz true] 52 false))).put n1 (some (.cells (az f).cells 52 false))).put id (some (.cells (ax az (K ++ f :: (G' ++ f :: D))) 52 true))) := by
     have q1 := pN (enc := az) (y := f) (c := (az f).cells) (k := 0) bu (l := K ++ g0 :: (G' ++ f :: D)) (i := K.length) (by simp) (cy _ _ (by rw [bu, bu]))
     rw [ku] at q1
     exact dP tZ hr4 (bu f) (lM f) q1
    rw [List.length_cons] at hl2 |-
    have e4 : ((K.length : Nat) : Int) + 1 = ((K.length + 1 : Nat) : Int) := by omega
    have e5 : ((K.length + (G'.length + 1) : Nat) : Int) + 1 = ((K.length + (G'.length + 1) + 1 : Nat) : Int) := by omega
    rw [Bool.not_false, aE]
    dsimp only
    rw [ld2, aa, jv (by omega), aa, stf, aG, aC, aa, cI (by omega) (by omega), e4, aC, aa, cI (by omega) (by omega), e5]
    have := hR ((K ++ [f], G' ++ [f], D), (K.length + 1, K.length + (G'.length + 1) + 1)) ⟨((h1.put n1 (some (.cells [.s [], .i .i64 0, .i .i64 0, .s [], .nilz true, .nilz true] 52 false))).put n1 (some (.cells (az f).cells 52 false))).put id (some (.cells (ax az (K ++ f :: (G' ++ f :: D))) 52 true)), n1 + 1⟩
     ⟨by simp, by simp; omega, by dsimp only; omega, by simp, by rw [<- hf, List.filter_cons_of_pos (by unfold dX; rw [hk]; rfl)]; simp, by simp; omega, by
      have : K ++ [f] ++ (G' ++ [f]) ++ D = K ++ f :: (G' ++ f :: D) := by simp
      dsimp only; rw [this]; exact ah _ _ _, by dsimp only; rw [ae _ _ hne]; exact c2⟩ (by dsimp only; rw [List.length_cons]; omega)
    exact this
   ·rw [Bool.not_true, ay, aC, aa, cI (by omega) (by omega), e3]
    have := hR ((K, G ++ [f], D), (K.length, K.length + G.length + 1)) ⟨(h1.put n1 (some (.cells [.s [], .i .i64 0, .i .i64 0, .s [], .nilz true, .nilz true] 52 false))).put n1 (some (.cells (az f).cells 52 false)), n1 + 1⟩
     ⟨rfl, by dsimp only; rw [List.length_append, List.length_singleton]; omega, by dsimp only; omega, by simp, by rw [<- hf, List.filter_cons_of_neg (by unfold dX; rw [hk]; exact Bool.false_ne_true)], by dsimp only; rw [List.length_append, List.length_singleton]; omega, by simpa using hr3, c2⟩ (by dsimp only; rw [List.length_cons]; omega)
    exact this
def RowOut (f : Nat) (args : List AV) (l' : List Fld) : Prop := (l' = [] /\ ∃ t, R T0 f args (.nilz t)) ∨ ∃ Z, sI Z /\ RA T0 f args l'.length (.cells (ax az l' ++ Z) 52 true)
theorem RowOut.mk {f : Nat} {args : List AV} {l' : List Fld} {fn : Func} {c : Code} (h1 : T0.prim f = none) (h2 : fv T0 f args = none) (h3 : T0.fn f = some fn) (h4 : fn.body = some c) (h5 : T0.opened f = true) (hm : T0.mode f = 1) (h6 : AV.idfree.idfrees args = true) (h7 : AV.norm.norms args = args) {an : AN}
  (hv : bR (av T0) T0 fn c an args ⟨.nil, 0⟩ (fun r1 σ1 => (l' = [] /\ ∃ t, r1 = .nilz t) ∨ ∃ id Z, sI Z /\ r1 = .sl id 0 l'.length none /\ σ1.h.get id = some (.cells (ax az l' ++ Z) 52 true))) : RowOut f args l' := by
 obtain ⟨k, r1, σ1, e1, hq⟩ := di hv
 rcases hq with ⟨hl, t, rfl⟩ | ⟨id, Z, hZ, rfl, hg⟩
 ·refine .inl ⟨hl, t, k + 1, fun σ => ?_⟩
  unfold aF
  simp only [h1, h2, h3, h4, h5, hm, h6, h7, e1, ko]
 ·refine .inr ⟨Z, hZ, k + 1, fun σ => ?_⟩
  have hcs : AV.idfree.idfrees (ax az l' ++ Z) = true := by rw [dS, fE elF, hZ.1]; rfl
  unfold aF
  simp only [h1, h2, h3, h4, h5, hm, h6, h7, e1, ko, hg, hcs]
theorem c122n {σ : AS} {j0 e : Nat} {g b : Bool} {nm : List UInt8} (hc : σ.h.get j0 = some (.cells [.s nm] e g)) : ∃ r σ', Runs T0 122 [.nilz b, .fn 123 [] [.ptr j0 0]] σ r σ' /\ r = .nilz b := by
 refine x122 _ _ ?_
 unfold w122
 dsimp only [av]
 rw [l72 (l := []) hc (by decide) (db (T := T0) (h := σ.h) 2 (a := .nilz b) rfl)]
 rw [show cJ (fun f : Fld => f.name == nm) [] = -1 from rfl, bZ, aa, decide_eq_true rfl, aE]
def fU (v : Val) (nm : List UInt8) : List Fld := if v.kind = 5 then v.fields.filter (dX nm) else []
theorem c108 (v : Val) (nm : List UInt8) (sm : smV v) : RowOut 108 [ar v, .s nm] (fU v nm) := by
 obtain ⟨-, ls, ll, lf, ol, of_⟩ := bY sm
 refine RowOut.mk (an := an108) (by kernel_rfl) (by kernel_rfl) (show T0.fn 108 = some Tryz.f108 by kernel_rfl) (show Tryz.f108.body = some (bL Tryz.f108) by kernel_rfl) (by kernel_rfl) (by kernel_rfl) (by rw [aw]; rfl) (by rw [aw]; rfl) ?_
 rw [<- w108_eq]
 unfold w108
 dsimp only [av]
 rw [bt, bt]
 dsimp only
 simp only [Nat.zero_add, Nat.reduceAdd, cw]
 have b0 : ((Tr.nil.put 0 (some (.cells (ar v).cells 35 false))).put 1 (some (.cells (AV.s nm).cells 9 false)) : Tr AB).get 0 = some (.cells (aL v (.lst (v.list.map ar)) (.lst (v.fields.map az))) 35 false) := by
  rw [ae _ _ (by decide), ah, je]
 have b1 : ((Tr.nil.put 0 (some (.cells (ar v).cells 35 false))).put 1 (some (.cells (AV.s nm).cells 9 false)) : Tr AB).get 1 = some (.cells [.s nm] 9 false) := ah _ _ _
 generalize ((Tr.nil.put 0 (some (.cells (ar v).cells 35 false))).put 1 (some (.cells (AV.s nm).cells 9 false)) : Tr AB) = h at b0 b1 |-
 have k0 : ac T0 h 3 (.ptr 0 0) = some (.i .i64 v.kind) := by rw [cq b0 (Nat.zero_le _)]; exact nJ _ _
 rw [aa, k0, aa, dx, aa]
 by_cases hk : v.kind = 5
 ·rw [decide_eq_false (fun q => q hk), ay, aa, l4 b0, aa]
  rw [show fU v nm = v.fields.filter (dX nm) from if_pos hk]
  obtain ⟨σ3, q1, q2, q3, q4, q5⟩ := q78 (l := v.fields) (by omega) ⟨h, 2⟩
  dsimp only at q1 q2 q3 q4 q5
  rw [q1]
  have c3 := (q2 1 (by decide)).trans b1
  cases hv : v.fields with
  | nil =>
   obtain ⟨r, σ', hr, rfl⟩ := c122n (b := false) c3
   rw [show cA ([] : List Fld) 2 = .nilz false from rfl, hr.eq]
   exact .inl ⟨rfl, false, rfl⟩
  | cons f fs =>
   rw [<- hv]
   have hpos : 0 < v.fields.length := by rw [hv, List.length_cons]; omega
   have hne : v.fields ≠ [] := fun q => by rw [q] at hpos; cases hpos
   have hrow : cr σ3.h 2 v.fields := by have := q5 az hne; rw [jQ] at this; exact this
   obtain ⟨r, σ', hr, rfl, hn, Z, hZ, hg⟩ := c122 (h := σ3.h) (n := σ3.n) (id := 2) (j0 := 1) v.fields hpos (by omega) (q4 hne) (by omega) (by decide) hrow c3
   rw [lx hpos, (show Runs T0 122 _ σ3 _ σ' from hr).eq]
   exact .inr ⟨2, Z, hZ, rfl, hg⟩
 ·rw [decide_eq_true hk, aE, show fU v nm = [] from if_neg hk]
  exact .inl ⟨rfl, true, rfl⟩
def zX (f : Fld) : List Fld -> List Fld
 | [] => [f]
 | g :: l => if ltF g f = true then g :: zX f l else f :: g :: l
def mw : List Fld -> List Fld
 | [] => []
 | f :: l => zX f (mw l)
theorem mR (f : Fld) : ∀ l, (zX f l).Perm (f :: l)
 | [] => List.Perm.refl _
 | g :: l => by
  rw [zX]; split
  ·exact ((mR f l).cons g).trans (List.Perm.swap f g l)
  ·exact List.Perm.refl _
theorem uY (f : Fld) : ∀ l, Srt ltF l -> Srt ltF (zX f l)
 | [], _ => List.pairwise_singleton _ _
 | g :: l, h => by
  have h1 := List.pairwise_cons.1 h
  rw [zX]; split
  ·rename_i hg
   refine List.pairwise_cons.2 ⟨fun y hy => ?_, uY f l h1.2⟩
   rcases List.mem_cons.1 ((mR f l).mem_iff.1 hy) with rfl | hy
   ·exact ordF.asym _ _ hg
   ·exact h1.1 y hy
  ·rename_i hg
   have hg : ltF g f = false := by simpa using hg
   refine List.pairwise_cons.2 ⟨fun y hy => ?_, h⟩
   rcases List.mem_cons.1 hy with rfl | hy
   ·exact hg
   ·exact ordF.trans f g y hg (h1.1 y hy)
theorem eM : ∀ l, (mw l).Perm l
 | [] => List.Perm.refl _
 | f :: l => (mR f _).trans ((eM l).cons f)
theorem pD : ∀ l, Srt ltF (mw l)
 | [] => List.Pairwise.nil
 | f :: l => uY f _ (pD l)
theorem srtF_len (l : List Fld) : (mw l).length = l.length := (eM l).length_eq
def Dif (l : List Fld) : Prop := l.Pairwise (fun a b => a.name ≠ b.name)
theorem Dif.perm {l l' : List Fld} (h : Dif l) (p : l.Perm l') : Dif l' := (p.pairwise_iff (fun h e => h e.symm)).1 h
theorem Dif.eq {l : List Fld} (h : Dif l) : ∀ x ∈ l, ∀ y ∈ l, x.name = y.name -> x = y := by
 induction l with
 | nil => intro x hx; cases hx
 | cons a l ih =>
  have h1 := List.pairwise_cons.1 h
  intro x hx y hy e
  rcases List.mem_cons.1 hx with p | p <;> rcases List.mem_cons.1 hy with q | q
  ·rw [p, q]
  ·exact absurd (p ▸ e) (h1.1 y q)
  ·exact absurd (q ▸ e.symm) (h1.1 x p)
  ·exact ih h1.2 x p y q e
theorem bl_eq : ∀ (a b : List UInt8), Op.bytesLess a b = false -> Op.bytesLess b a = false -> a = b
 | [], [], _, _ => rfl
 | [], _ :: _, h, _ => by simp [Op.bytesLess] at h
 | _ :: _, [], _, h => by simp [Op.bytesLess] at h
 | x :: a, y :: b, h1, h2 => by
  have ih := bl_eq a b
  simp only [Op.bytesLess] at h1 h2
  rcases Nat.lt_trichotomy x.toNat y.toNat with q | q | q
  ·have h3 : x < y := q
   simp [h3] at h1
  ·obtain rfl : x = y := UInt8.toNat_inj.1 q
   have h3 : ¬ x < x := fun h => absurd (show x.toNat < x.toNat from h) (by omega)
   simp [h3] at h1 h2
   rw [ih h1 h2]
  ·have h3 : y < x := q
   simp [h3] at h2
theorem rq {l l' : List Fld} (hd : Dif l) (p : l'.Perm l) (s : Srt ltF l') : l' = mw l :=
 pz s (pD l) (p.trans (eM l).symm) (fun x hx y hy h1 h2 => hd.eq x (p.mem_iff.1 hx) y (p.mem_iff.1 hy) (bl_eq _ _ h1 h2))
theorem c136n {σ : AS} {b : Bool} : ∃ r σ', Runs T0 136 [.nilz b, .i .i64 0, .i .i64 0, .fn 105 [] []] σ r σ' /\ r = .tup [] /\ σ' = σ := by
 refine x136 _ _ _ _ ?_
 unfold w136
 dsimp only [av]
 simp (disch := first | omega | assumption | (intros; simp only [dl2]; try omega)) only [aa, aC, cI]
 refine gJ (X := Unit) (fun _ => .nilz b) (fun _ => .fn 105 [] []) (fun _ => .i .i64 0) (fun _ => .i .i64 0) (fun _ => .i .i64 (0 + 1)) (fun _ s => s = σ) (fun _ => 0) ?_ () σ rfl
 rintro R x s rfl hR
 rw [da, aa, decide_eq_false (by decide), ay]
 first | exact ⟨rfl, rfl⟩ | exact ⟨trivial, rfl⟩ | trivial | simp
theorem c104n {σ : AS} {b : Bool} : ∃ r σ', Runs T0 104 [.nilz b, .fn 105 [] []] σ r σ' /\ r = .tup [] /\ σ' = σ := by
 obtain ⟨r1, s1, h136, rfl, rfl⟩ := c136n (σ := σ) (b := b)
 have h120 : ∃ r σ', Runs T0 120 [.nilz b, .i .i64 0, .fn 105 [] []] s1 r σ' /\ r = .tup [] /\ σ' = s1 := by
  refine x120 _ _ _ ?_
  unfold w120
  dsimp only [av]
  refine uM (X := Unit) (fun _ => .fn 105 [] []) (fun _ => .i .i64 0) (fun _ => .nilz b) (fun _ => .i .i64 20) (fun _ => .i .i64 0) (fun _ => .i .i64 20) (fun _ s => s = s1) (fun _ => 0) ?_ () s1 rfl
  rintro R x s rfl hR
  rw [gA, aa, decide_eq_false (by decide), ay, h136.eq]
  refine jR (X := Unit) (fun _ => .fn 105 [] []) (fun _ => .i .i64 0) (fun _ => .nilz b) (fun _ => .i .i64 20) (fun _ t => t = s) (fun _ => 0) ?_ () s rfl
  rintro R x t rfl hR
  rw [da, aa, decide_eq_false (by decide), ay]
  exact ⟨rfl, rfl⟩
 obtain ⟨r2, s2, h120, rfl, rfl⟩ := h120
 refine x104 _ _ ?_
 unfold w104
 dsimp only [av]
 have hlen : ak T0 s2.h .len [33] [.nilz b] = some (.i .i64 0) := by simp [ak, elF.ty]
 rw [hlen, aa, h120.eq]
 exact ⟨rfl, rfl⟩
theorem sortV {σ : AS} {id : Nat} (l : List Fld) (hl : l.length <= 1000000) (hg : l ≠ [] -> cr σ.h id l) :
  ∃ σ', (∃ r, Runs T0 104 [cA l id, .fn 105 [] []] σ r σ') /\ σ'.n = σ.n /\ (∀ j, j ≠ id -> σ'.h.get j = σ.h.get j) /\ ∃ l', l'.Perm l /\ Srt ltF l' /\ (l' ≠ [] -> cr σ'.h id l') /\ cA l' id = cA l id := by
 cases hv : l with
 | nil =>
  obtain ⟨r, σ', hr, rfl, rfl⟩ := c104n (σ := σ) (b := false)
  exact ⟨σ', ⟨_, hr⟩, rfl, fun j _ => rfl, [], List.Perm.refl _, List.Pairwise.nil, fun q => absurd rfl q, rfl⟩
 | cons f fs =>
  rw [<- hv]
  have hpos : 0 < l.length := by rw [hv, List.length_cons]; omega
  have hne : l ≠ [] := fun q => by rw [q] at hpos; cases hpos
  obtain ⟨h, n⟩ := σ
  obtain ⟨r, σ', hr, rfl, h2, h3, l', ⟨p, s⟩, h4⟩ := c104 (h := h) (n := n) (id := id) l rfl hl (hg hne)
  have hp' : 0 < l'.length := by rw [p.length_eq]; exact hpos
  exact ⟨σ', ⟨_, by rw [lx hpos]; exact hr⟩, h2, h3, l', p, s, fun _ => h4, by rw [lx hpos, lx hp', p.length_eq]⟩
def ca (l : List Fld) : Val := .mk 5 0 [] [] l
theorem bld5 : bF T0 35 [(0, .i .i64 5)] = some (.agg (aL (ca []) (.nilz true) (.nilz true))) := by kernel_rfl
theorem appFm {h : Tr AB} {n m : Nat} {x : AV} {l l' : List Fld} (o : OwnW 52 m h n (l.map az) x) (hm : m <= n) (hl : l.length + l'.length <= 1000000) :
  ∃ x' σ', aI T0 ⟨h, n⟩ 33 33 x (.lst (l'.map az)) = some (x', σ') /\ OwnW 52 m σ'.h σ'.n ((l ++ l').map az) x' /\ n <= σ'.n /\ ∀ j, j < m -> σ'.h.get j = h.get j := by
 have := appW (h := h) elF.rowT o hm (RowE.mapE elF l) (RowE.mapE elF l') (iP (by decide) (by rw [List.length_map, List.length_map]; exact hl))
 rwa [<- List.map_append] at this
theorem rl9 {h : Tr AB} {id i : Nat} {l : List Fld} (hg : cr h id l) (hi : i < l.length) : ac T0 h 9 (.ptr id (i * (5 + 1))) = some (.s (l.getD i default).name) := by
 have e := qe (enc := az) (encD := az) bu hi
 rw [jQ] at e
 rw [cq hg (by rw [dK bu]; exact Nat.mul_le_mul_right _ (by omega)), e, bp]
 exact lG _ _
theorem ev_fz {h : Tr AB} (v : Val) : fz T0 h 1 (ar v) = some (ar v) := by
 rw [db 0 (by rw [aw]; rfl), aw]; rfl
theorem take_sn {l : List Fld} {j : Nat} (hj : j < l.length) : l.take (j + 1) = l.take j ++ [l.getD j default] := by
 rw [List.take_add_one, List.getElem?_eq_getElem hj]; simp [List.getD_eq_getElem?_getD, hj]
theorem flF (l : List Fld) : AV.idfree.idfrees (aJ (l.map az)) = true := by rw [<- cz]; exact fE elF l
theorem smMap {l : List Fld} (hl : l.length <= 100000) (ho : ∀ f ∈ l, smF f) : smV (ca l) := smV.of ⟨show (Lit.int .i64 5).wf = true by decide, show (Lit.int .i64 0).wf = true by decide⟩ (by simp [ca, Val.s]) (by simp [ca, Val.list]) hl (fun x hx => by cases hx) ho
theorem g107 {σ : AS} {m : Nat} {x : AV} {l : List Fld} (o : OwnW 52 m σ.h σ.n (l.map az) x) (hl : l.length <= 100000) (ho : ∀ f ∈ l, smF f) :
  ∃ σ', Runs T0 107 [.agg (aL (ca []) (.nilz true) x)] σ (ar (ca l)) σ' /\ σ'.n = σ.n /\ ∀ j, j < m -> σ'.h.get j = σ.h.get j := by
 have hr := c107 _ (ca l) (Nat.le_refl _) (smMap hl ho)
 have hz : cU (fz T0 σ.h 4) [.agg (aL (ca []) (.nilz true) x)] = some [ar (ca l)] :=
  be (ka (v := ca []) (l := []) (f := l) (db 2 (a := .nilz true) rfl) (fzW elF.rowT (RowE.mapE elF l) o)) rfl
 cases hi : AV.idfree.idfrees [.agg (aL (ca []) (.nilz true) x)] with
 | true =>
  refine ⟨σ, R.runs ?_ σ, rfl, fun j _ => rfl⟩
  refine R.nrmH (by kernel_rfl) (by kernel_rfl) (by kernel_rfl) (.inl (by kernel_rfl)) hi (fO _) ?_ hr
  rw [cN 3 _ hi] at hz
  exact (Option.some.inj hz).trans (gX _).symm
 | false =>
  obtain ⟨k, hk⟩ := Runs.give (T := T0) (f := 107) (σ := σ) (by kernel_rfl) (by kernel_rfl) (by kernel_rfl) (.inr (by kernel_rfl)) hi (fO _) (gX _) hz hr
  refine ⟨_, hk, rfl, fun j hj => qi ?_ hj⟩
  intro i him
  rw [List.flatMap_cons, List.flatMap_nil, List.append_nil] at him
  cases k with
  | zero => cases him
  | succ k =>
   have hi2 : (AV.agg (aL (ca []) (.nilz true) x)).idfree = false := by
    cases h : (AV.agg (aL (ca []) (.nilz true) x)).idfree
    ·rfl
    ·rw [<- hi]; simp only [AV.idfree.idfrees, h]; rfl
   unfold Go.Proofs.YtmfhmlhaofpeiaaGreatDoor.Ev.rch at him
   rw [hi2] at him
   simp only [aL, List.flatMap_cons, List.flatMap_nil, ik (show (AV.i .i64 (ca []).kind).idfree = true from rfl), ik (show (AV.i .i64 (ca []).n).idfree = true from rfl), ik (show (AV.s (ca []).s).idfree = true from rfl), ik (show (AV.nilz true).idfree = true from rfl), List.nil_append, List.append_nil] at him
   exact o.rch (flF l) k i him
theorem c85 (l : List Fld) (hl : l.length <= 100000) (ho : ∀ f ∈ l, smF f) (hd : Dif l) : R T0 85 [.lst (l.map az)] (ar (ca (mw l))) := by
 refine R.mkG (an := an85) (by kernel_rfl) (by kernel_rfl) (show T0.fn 85 = some Tryz.f85 by kernel_rfl) (show Tryz.f85.body = some (bL Tryz.f85) by kernel_rfl) (by kernel_rfl) (by kernel_rfl) (by show AV.idfree.idfrees [.lst _] = true; rfl) (by rfl) ?_
 rw [<- w85_eq]
 unfold w85
 dsimp only [av]
 rw [bt]
 simp only [Nat.zero_add]
 obtain ⟨σ3, q1, q2, q3, q4, q5⟩ := q78 (l := l) (by omega) ⟨Tr.nil.put 0 (some (.cells [.i .i64 0, .i .i64 0, .s [], .nilz true, .nilz true] 35 false)), 1⟩
 dsimp only at q1 q2 q3 q4 q5
 have g0 := (q2 0 (by decide)).trans (ah _ _ _)
 rw [q1]
 obtain ⟨σ4, ⟨r, hrun⟩, n4, k4, l', p, s, hrow, hv⟩ := sortV (σ := σ3) (id := 1) l (by omega) (fun hne => by have := q5 az hne; rw [jQ] at this; exact this)
 have hl' := p.length_eq
 have hd' : Dif l' := hd.perm p.symm
 have ho' : ∀ f ∈ l', smF f := fun f hf => ho f (p.mem_iff.1 hf)
 have hm1 : l' ≠ [] -> 1 < σ4.n := fun hne => by
  rw [n4]; exact q4 (fun q => hne (List.eq_nil_of_length_eq_zero (by rw [hl', q]; rfl)))
 have hm0 : 1 <= σ4.n := by rw [n4]; exact q3
 have g0 := (k4 0 (by decide)).trans g0
 rw [hrun.eq, <- hv, <- rq hd p s, bld5, aa, bt]
 clear q1 q2 q3 q4 q5 hrun n4 k4 p s hv hd
 obtain ⟨h4, m⟩ := σ4
 dsimp only at g0 hm0 hm1 hrow |-
 rw [py rfl (ah _ _ _) rfl rfl, aG, ij elF.ty, aa]
 refine uM (X := Nat) (fun _ => .ptr 0 0) (fun _ => .ptr m 0) (fun _ => cA l' 1) (fun _ => cA l' 1) (fun _ => .i .i64 (l'.length : Nat)) (fun j => .i .i64 (j : Nat))
  (fun j σ => j <= l'.length /\ m < σ.n /\ σ.h.get 0 = some (.cells [.i .i64 0, .i .i64 0, .s [], .nilz true, .nilz true] 35 false) /\ (l' ≠ [] -> cr σ.h 1 l') /\ ∃ x, σ.h.get m = some (.cells (aL (ca []) (.nilz true) x) 35 false) /\ OwnW 52 (m + 1) σ.h σ.n ((l'.take j).map az) x) (fun j => l'.length - j) ?_ 0 _
  ⟨Nat.zero_le _, by dsimp only; omega, ?_, ?_, .nilz true, ah _ _ _, OwnW.none⟩
 ·rintro R j ⟨h, n⟩ ⟨hj, hn, b0, hrow, x, bm, o⟩ hR
  dsimp only at hj hn b0 hrow bm o hR |-
  rw [da, aa]
  refine aT (fun hlt => ?_) (fun hge => ?_)
  ·have hj' : j < l'.length := by omega
   have hne : l' ≠ [] := fun q => by rw [q] at hj'; cases hj'
   have hm1 := hm1 hne
   have hrow := hrow hne
   have e1 : cr ((h.put n (some (.cells [.s [], .i .i64 0, .i .i64 0, .s [], .nilz true, .nilz true] 52 false))).put n (some (.cells (az (l'.getD j default)).cells 52 false))) 1 l' := by
    unfold cr; rw [ae _ _ (by omega), ae _ _ (by omega)]; exact hrow
   rw [join6_eq, fT elF.ty elF.sz hj', aa, rl hrow hj', aa, bt, uh, aG]
   have e2 : ((h.put n (some (.cells [.s [], .i .i64 0, .i .i64 0, .s [], .nilz true, .nilz true] 52 false))).put n (some (.cells (az (l'.getD j default)).cells 52 false))).get m = some (.cells (aL (ca []) (.nilz true) x) 35 false) := by
    rw [ae _ _ (by omega), ae _ _ (by omega)]; exact bm
   have e3 : ((h.put n (some (.cells [.s [], .i .i64 0, .i .i64 0, .s [], .nilz true, .nilz true] 52 false))).put n (some (.cells (az (l'.getD j default)).cells 52 false))).get 0 = some (.cells [.i .i64 0, .i .i64 0, .s [], .nilz true, .nilz true] 35 false) := by
    rw [ae _ _ (by omega), ae _ _ (by omega)]; exact b0
   have e4 : OwnW 52 (m + 1) ((h.put n (some (.cells [.s [], .i .i64 0, .i .i64 0, .s [], .nilz true, .nilz true] 52 false))).put n (some (.cells (az (l'.getD j default)).cells 52 false))) (n + 1) ((l'.take j).map az) x :=
    o.same (fun i _ hi => by rw [ae _ _ (by omega), ae _ _ (by omega)]) (by omega)
   have e5 : ac T0 ((h.put n (some (.cells [.s [], .i .i64 0, .i .i64 0, .s [], .nilz true, .nilz true] 52 false))).put n (some (.cells (az (l'.getD j default)).cells 52 false))) 52 (.ptr n 0) = some (az (l'.getD j default)) := by
    rw [cE, ah, bH (Nat.zero_le _)]; exact kA _
   have e6 : ac T0 ((h.put n (some (.cells [.s [], .i .i64 0, .i .i64 0, .s [], .nilz true, .nilz true] 52 false))).put n (some (.cells (az (l'.getD j default)).cells 52 false))) 9 (.ptr n (0 + 0)) = some (.s (l'.getD j default).name) := by
    rw [cE, ah, bH (Nat.zero_le _)]; exact ja _
   generalize ((h.put n (some (.cells [.s [], .i .i64 0, .i .i64 0, .s [], .nilz true, .nilz true] 52 false))).put n (some (.cells (az (l'.getD j default)).cells 52 false))) = h6 at e1 e2 e3 e4 e5 e6 |-
   have i1 : ((j : Nat) : Int) + 1 = ((j + 1 : Nat) : Int) := by omega
   simp (disch := first | omega | assumption | (intros; simp only [dl2]; try omega)) only [aa, aC, cI, i1, ij elF.ty, bZ]
   have tail : ∀ K : AV -> AV -> AV -> AV -> AV -> AV -> AS -> Prop, (∀ (x' : AV) (σ' : AS), x'.cells = [x'] -> x'.leaf = true -> σ'.h.get m = some (.cells (aL (ca []) (.nilz true) x) 35 false) -> OwnW 52 (m + 1) σ'.h σ'.n ((l'.take (j + 1)).map az) x' -> n + 1 <= σ'.n -> (∀ i, i < m + 1 -> σ'.h.get i = h6.get i) ->
     K (.ptr 0 0) (.ptr m 0) (cA l' 1) (cA l' 1) (.i .i64 (l'.length : Nat)) (.i .i64 (j : Nat)) ⟨σ'.h.put m (some (.cells (aL (ca []) (.nilz true) x') 35 false)), σ'.n⟩) ->
     (oV 35 (am 4 (.ptr m 0)) fun t35 => oV 36 (ac T0 h6 33 t35) fun t36 => oV 37 (ac T0 h6 52 (.ptr n 0)) fun t37 => oV 38 (dY T0 33 1 [(0, t37)]) fun t38 =>
      oM 39 (aI T0 ⟨h6, n + 1⟩ 33 33 t36 t38) fun t39 sx10 => oV 40 (am 4 (.ptr m 0)) fun t40 => oH (aA T0 sx10.h 33 t40 t39) sx10 fun sx11 => K (.ptr 0 0) (.ptr m 0) (cA l' 1) (cA l' 1) (.i .i64 (l'.length : Nat)) (.i .i64 (j : Nat)) sx11) := by
    intro K hK
    obtain ⟨x', σ', ha, hw, hn', hk⟩ := appFm (l' := [l'.getD j default]) e4 (by omega) (by rw [List.length_take]; simp only [List.length_cons, List.length_nil]; omega)
    have gm := (hk m (by omega)).trans e2
    rw [cw, aa, Nat.zero_add, l4 e2, aa, e5, aa, oU, aa]
    rw [show aI T0 ⟨h6, n + 1⟩ 33 33 x (.lst [az (l'.getD j default)]) = some (x', σ') from ha, aZ, aa, s4 gm hw.cells hw.leaf, aG]
    refine hK x' σ' hw.cells hw.leaf gm ?_ hn' hk
    rw [show l'.take (j + 1) = l'.take j ++ [l'.getD j default] from take_sn hj']
    exact hw
   have fin : ∀ (x' : AV) (σ' : AS), x'.cells = [x'] -> x'.leaf = true -> σ'.h.get m = some (.cells (aL (ca []) (.nilz true) x) 35 false) -> OwnW 52 (m + 1) σ'.h σ'.n ((l'.take (j + 1)).map az) x' -> n + 1 <= σ'.n -> (∀ i, i < m + 1 -> σ'.h.get i = h6.get i) ->
     R (.ptr 0 0) (.ptr m 0) (cA l' 1) (cA l' 1) (.i .i64 (l'.length : Nat)) (.i .i64 ((j + 1 : Nat) : Int)) ⟨σ'.h.put m (some (.cells (aL (ca []) (.nilz true) x') 35 false)), σ'.n⟩ := by
    intro x' σ' hc hlf hg hw hn' hk
    refine hR (j + 1) ⟨_, _⟩ ⟨by omega, by dsimp only; omega, ?_, fun _ => ?_, x', ah _ _ _, hw.same (fun i hi _ => ae _ _ (by omega)) (Nat.le_refl _)⟩ (by omega)
    ·dsimp only; rw [ae _ _ (by omega), hk 0 (by omega)]; exact e3
    ·dsimp only; unfold cr; rw [ae _ _ (by omega), hk 1 (by omega)]; exact e1
   by_cases hjl : j + 1 = l'.length
   ·rw [decide_eq_true (by omega), yw]
    simp (disch := first | omega | assumption | (intros; simp only [dl2]; try omega)) only [aa, bk, aE]
    exact tail (fun a b c d e f s => R a b c d e (.i .i64 ((j + 1 : Nat) : Int)) s) fin
   ·have hnm : (l'.getD (j + 1) default).name ≠ (l'.getD j default).name := by
     have hjn : j + 1 < l'.length := by omega
     have := List.pairwise_iff_getElem.1 hd' j (j + 1) hj' hjn (by omega)
     simp only [List.getD_eq_getElem?_getD, List.getElem?_eq_getElem hj', List.getElem?_eq_getElem hjn, Option.getD_some]
     exact fun e => this e.symm
    rw [decide_eq_false (by omega), yF]
    simp (disch := first | omega | assumption | (intros; simp only [dl2]; try omega)) only [aa, fT elF.ty elF.sz (show j + 1 < l'.length by omega), cw, rl9 e1 (show j + 1 < l'.length by omega), e6, tK, beq_false_of_ne hnm, Bool.not_false, bB, aE, Nat.add_zero]
    exact tail (fun a b c d e f s => R a b c d e (.i .i64 ((j + 1 : Nat) : Int)) s) fin
  ·clear hR
   have hall : l'.take j = l' := List.take_of_length_le (by omega)
   rw [hall] at o
   rw [l5 bm, aa]
   obtain ⟨σ', hr, hn', hk⟩ := g107 (σ := ⟨h, n⟩) o (by omega) ho'
   rw [hr.eq, dz rfl ((hk 0 (by omega)).trans b0), aG, uT, aa]
   exact ⟨1, _, ev_fz (ca l'), rfl⟩
 ·dsimp only; rw [ae _ _ (by omega), ae _ _ (by omega)]; exact g0
 ·intro hne; have := hm1 hne; dsimp only; unfold cr; rw [ae _ _ (by omega), ae _ _ (by omega)]; exact hrow hne
theorem g85 {σ : AS} {id : Nat} {Z : List AV} {l : List Fld} (hZ : sI Z) (hg : σ.h.get id = some (.cells (ax az l ++ Z) 52 true)) (hl : l.length <= 100000) (ho : ∀ f ∈ l, smF f) (hd : Dif l) :
  ∃ σ', Runs T0 85 [.sl id 0 l.length none] σ (ar (ca (mw l))) σ' /\ σ'.n = σ.n /\ ∀ j, j ≠ id -> σ'.h.get j = σ.h.get j := by
 have hz : cU (fz T0 σ.h 3) [.sl id 0 l.length none] = some [.lst (l.map az)] := by
  have := yR (cap := none) (g := true) (C := Z) elF.rowT (RowE.mapE elF l) (h := σ.h) (id := id) (by rw [<- cz]; exact hg)
  rw [List.length_map] at this
  exact be this rfl
 obtain ⟨k, hk⟩ := Runs.give (T := T0) (f := 85) (σ := σ) (by kernel_rfl) (by kernel_rfl) (by kernel_rfl) (.inl (by kernel_rfl)) rfl (show AV.idfree.idfrees [.lst (l.map az)] = true from rfl) rfl hz (c85 l hl ho hd)
 refine ⟨_, hk, rfl, fun j hj => ?_⟩
 dsimp only
 rw [gc, if_neg]
 intro hm
 rw [List.flatMap_cons, List.flatMap_nil, List.append_nil] at hm
 exact hj (sW hg (by rw [dS, fE elF, hZ.1]; rfl) k j hm)
theorem app1 {h : Tr AB} {n id : Nat} {Z : List AV} {l : List Fld} (f : Fld) (hZ : sI Z) (hg : h.get id = some (.cells (ax az l ++ Z) 52 true)) (hl : l.length <= 1000000 - 1) :
  ∃ id' σ' Z', aI T0 ⟨h, n⟩ 33 33 (.sl id 0 l.length none) (.lst [az f]) = some (.sl id' 0 (l.length + 1) none, σ') /\ sI Z' /\ σ'.h.get id' = some (.cells (ax az (l ++ [f]) ++ Z') 52 true) /\ (id' = id ∨ id' = n) /\ n <= σ'.n /\ ∀ j, j ≠ id -> j ≠ n -> σ'.h.get j = h.get j := by
 obtain ⟨zv, hzv⟩ := Option.isSome_iff_exists.1 elF.rowT.zr
 have nr := lI (h := h) (RowE.mapE elF [f])
 rw [show aJ ([f].map az) = (az f).cells by rw [<- cz, fq]] at nr
 have nr : bG h (5 + 1) 1 (.lst [az f]) = some (az f).cells := nr
 have hs : cd (l.length + 1) 96 = true := iP (by decide) (by omega)
 have hlf : aM (az f).cells = true := lM f
 have b1 : Nat.beq 52 52 = true := rfl
 obtain ⟨hZ1, k, hk⟩ := hZ
 have hrl : (ax az l).length = l.length * (5 + 1) := cX elF l
 cases k with
 | zero =>
  have hZ0 : Z = [] := List.eq_nil_of_length_eq_zero (by omega)
  subst hZ0
  rw [List.append_nil] at hg
  have b2 : Nat.beq (l.length * (5 + 1)) (ax az l).length = true := by rw [hrl]; exact Nat.beq_refl _
  refine ⟨n, ⟨(h.put id none).put n (some (.cells (ax az l ++ (az f).cells) 52 true)), n + 1⟩, [], ?_, ⟨rfl, 0, rfl⟩, ?_, .inr rfl, Nat.le_succ _, fun j h1 h2 => by dsimp only; rw [ae _ _ h2, ae _ _ h1]⟩
  ·unfold aI
   simp only [elF.ty, elF.sz, elF.bytes, hzv, iA, List.length_cons, List.length_nil, Nat.zero_add, nr, hg, hlf, hs, b1, b2]
  ·dsimp only; rw [ah, cD, fq, List.append_nil]
 | succ k =>
  have b2 : Nat.beq (l.length * (5 + 1)) (ax az l ++ Z).length = false := by
   cases hb : Nat.beq (l.length * (5 + 1)) (ax az l ++ Z).length
   ·rfl
   ·have := Nat.eq_of_beq_eq_true hb; rw [List.length_append, hrl, hk] at this; omega
  have st : bQ (ax az l ++ Z) (l.length * (5 + 1)) (az f).cells = some (ax az l ++ ((az f).cells ++ Z.drop (5 + 1))) := by
   rw [<- hrl, show Z.drop (5 + 1) = Z.drop (az f).cells.length by rw [bu]]
   exact sR _ _ _ (by rw [bu, hk]; omega)
  refine ⟨id, ⟨h.put id (some (.cells (ax az l ++ ((az f).cells ++ Z.drop (5 + 1))) 52 true)), n⟩, Z.drop (5 + 1), ?_, ⟨iY _ hZ1, k, by rw [List.length_drop, hk]; omega⟩, ?_, .inl rfl, Nat.le_refl _, fun j h1 h2 => ae _ _ h1⟩
  ·unfold aI
   simp only [elF.ty, elF.sz, elF.bytes, hzv, iA, List.length_cons, List.length_nil, Nat.zero_add, nr, hg, hlf, hs, b1, b2, st]
  ·dsimp only; rw [ah, cD, fq, List.append_assoc]
theorem dh {h : Tr AB} {id e : Nat} {g : Bool} {w : Val} (hg : h.get id = some (.cells (ar w).cells e g)) : ac T0 h 35 (.ptr id 0) = some (ar w) := by
 rw [cq hg (Nat.zero_le _)]; exact iy w
def fh (v : Val) (nm : List UInt8) (x : Val) : Val := ca (mw (fU v nm ++ [.mk nm x]))
theorem c86 (v : Val) (nm : List UInt8) (x : Val) (sm : smV v) (hn : nm.length <= 100000) (sx : smV x) (hl : (fU v nm).length + 1 <= 100000) (ho : ∀ f ∈ fU v nm, smF f) (hd : Dif (fU v nm ++ [.mk nm x])) : R T0 86 [ar v, .s nm, ar x] (ar (fh v nm x)) := by
 refine r86 _ _ _ (by rw [aw, aw]; rfl) (by rw [aw, aw]; rfl) ?_
 unfold w86
 dsimp only [av]
 rw [bt, bt, bt]
 simp only [Nat.zero_add, Nat.reduceAdd]
 have b0 : (((Tr.nil.put 0 (some (.cells (ar v).cells 35 false))).put 1 (some (.cells (ar x).cells 35 false))).put 2 (some (.cells [.i .i64 0, .i .i64 0, .s [], .nilz true, .nilz true] 35 false)) : Tr AB).get 0 = some (.cells (ar v).cells 35 false) := by
  rw [ae _ _ (by decide), ae _ _ (by decide), ah]
 have b1 : (((Tr.nil.put 0 (some (.cells (ar v).cells 35 false))).put 1 (some (.cells (ar x).cells 35 false))).put 2 (some (.cells [.i .i64 0, .i .i64 0, .s [], .nilz true, .nilz true] 35 false)) : Tr AB).get 1 = some (.cells (ar x).cells 35 false) := by
  rw [ae _ _ (by decide), ah]
 have b2 : (((Tr.nil.put 0 (some (.cells (ar v).cells 35 false))).put 1 (some (.cells (ar x).cells 35 false))).put 2 (some (.cells [.i .i64 0, .i .i64 0, .s [], .nilz true, .nilz true] 35 false)) : Tr AB).get 2 = some (.cells [.i .i64 0, .i .i64 0, .s [], .nilz true, .nilz true] 35 false) := ah _ _ _
 generalize (((Tr.nil.put 0 (some (.cells (ar v).cells 35 false))).put 1 (some (.cells (ar x).cells 35 false))).put 2 (some (.cells [.i .i64 0, .i .i64 0, .s [], .nilz true, .nilz true] 35 false)) : Tr AB) = h at b0 b1 b2 |-
 rw [dh b0, aa]
 have ho' : ∀ f ∈ fU v nm ++ [Fld.mk nm x], smF f := fun f hf => by
  rcases List.mem_append.1 hf with hf | hf
  ·exact ho f hf
  ·rw [List.mem_singleton.1 hf]; exact .of hn sx
 have fin : ∀ (t14 : AV) (σ5 : AS), (∃ σ', Runs T0 85 [t14] σ5 (ar (fh v nm x)) σ' /\ σ'.h.get 2 = some (.cells [.i .i64 0, .i .i64 0, .s [], .nilz true, .nilz true] 35 false)) ->
   oC T0 15 85 [t14] σ5 fun t15 sx6 => oD (bo T0 sx6.h 35 (.ptr 2 0) t15) fun i bx1 => oT ((cj sx6.n (jz [[]]) [] [] i []) && (cQ [] i [])) (oS ⟨(sx6.h.put i (some bx1)), sx6.n⟩ fun sx7 => oV 6 (ac T0 sx7.h 35 (.ptr 2 0)) fun t6x1 => oZ T0 sx7 t6x1 (fun r2 => r2 = ar (fh v nm x))) := by
  rintro t14 σ5 ⟨σ', hr, h2⟩
  rw [hr.eq, ge ji h2 (bM _) (gK _) (cy _ _ (by rw [bM]; rfl)), bK]
  rw [fG rfl rfl, fc, uT, aa]
  exact ⟨1, _, ev_fz _, rfl⟩
 rcases c108 v nm sm with ⟨he, t, hR⟩ | ⟨Z, hZ, hR⟩
 ·rw [hR.eqA, pZ rfl, dh b1, aa, bld52, aa, pZ rfl, oU, aa, fc]
  obtain ⟨x', σ', ha, hw, hn', hk⟩ := appFm (h := h.put 3 none) (n := 3 + 1) (m := 4) (x := .nilz t) (l := []) (l' := [Fld.mk nm x]) OwnW.none (by decide) (by simp)
  rw [show aI T0 ⟨h.put 3 none, 3 + 1⟩ 33 33 (.nilz t) (.lst [az (.mk nm x)]) = some (x', σ') from ha, aZ]
  refine fin _ _ ?_
  rcases hw with ⟨q, _⟩ | ⟨id, q1, rfl, q2, q3, q4⟩
  ·cases q
  ·obtain ⟨σ2, hr2, _, hk2⟩ := g85 (σ := σ') (id := id) (Z := []) (l := [Fld.mk nm x]) ⟨rfl, 0, rfl⟩ (by rw [List.append_nil, cz]; exact q4) (by simp) (fun f hf => ho' f (List.mem_append_right _ hf)) (List.pairwise_singleton _ _)
   refine ⟨σ2, ?_, ?_⟩
   ·unfold fh; rw [he]; exact hr2
   ·rw [hk2 2 (by omega), hk 2 (by decide), ae _ _ (by decide)]; exact b2
 ·rw [hR.eqA, pZ rfl, dh b1, aa, bld52, aa, pZ rfl, oU, aa, fc]
  obtain ⟨id', σ', Z', ha, hZ', hg', hid, hn', hk⟩ := app1 (h := h.put 3 (some (.cells (ax az (fU v nm) ++ Z) 52 true))) (n := 3 + 1) (id := 3) (.mk nm x) hZ (ah _ _ _) (by omega)
  rw [ha, aZ]
  refine fin _ _ ?_
  obtain ⟨σ2, hr2, _, hk2⟩ := g85 (σ := σ') (id := id') (l := fU v nm ++ [Fld.mk nm x]) hZ' hg' (by rw [List.length_append]; exact hl) ho' hd
  refine ⟨σ2, ?_, ?_⟩
  ·rw [List.length_append] at hr2; exact hr2
  ·rw [hk2 2 (by omega), hk 2 (by decide) (by decide), ae _ _ (by decide)]; exact b2
def eS (l : List Val) : Val := .mk 4 0 [] l []
theorem bld4 (L : List AV) : bF T0 35 [(0, .i .i64 4), (3, .lst L)] = some (.agg [.i .i64 4, .i .i64 0, .s [], .lst L, .nilz true]) := by kernel_rfl
theorem wn {l : List Val} (hl : l.length <= 100000) (ho : ∀ f ∈ l, smV f) : smV (eS l) := smV.of ⟨show (Lit.int .i64 4).wf = true by decide, show (Lit.int .i64 0).wf = true by decide⟩ (by simp [eS, Val.s]) hl (by simp [eS, Val.fields]) ho (fun x hx => by cases hx)
theorem c87 (l : List Val) (hl : l.length <= 100000) (ho : ∀ f ∈ l, smV f) : R T0 87 [.lst (l.map ar)] (ar (eS l)) := by
 refine R.mkG (an := an87) (by kernel_rfl) (by kernel_rfl) (show T0.fn 87 = some Tryz.f87 by kernel_rfl) (show Tryz.f87.body = some (bL Tryz.f87) by kernel_rfl) (by kernel_rfl) (by kernel_rfl) (by show AV.idfree.idfrees [.lst _] = true; rfl) (by rfl) ?_
 rw [<- w87_eq]
 unfold w87
 dsimp only [av]
 have hr : R T0 107 [.agg [.i .i64 4, .i .i64 0, .s [], .lst (l.map ar), .nilz true]] (ar (eS l)) :=
  R.nrmH (by kernel_rfl) (by kernel_rfl) (by kernel_rfl) (.inl (by kernel_rfl)) rfl (fO _) (by rw [aw]; rfl) (c107 _ (eS l) (Nat.le_refl _) (wn hl ho))
 rw [bt]
 simp only [Nat.zero_add]
 rw [bld4, aa, hr.eq, dz rfl (ah _ _ _), aG, uT, aa]
 exact ⟨1, _, ev_fz _, rfl⟩
theorem g87 {σ : AS} {m : Nat} {x : AV} {l : List Val} (o : OwnW 35 m σ.h σ.n (l.map ar) x) (hl : l.length <= 100000) (ho : ∀ f ∈ l, smV f) :
  ∃ σ', Runs T0 87 [x] σ (ar (eS l)) σ' /\ σ'.n = σ.n /\ ∀ j, j < m -> σ'.h.get j = σ.h.get j := by
 have hr := c87 l hl ho
 have hz : cU (fz T0 σ.h 3) [x] = some [.lst (l.map ar)] := be (fzW elV.rowT (RowE.mapE elV l) o) rfl
 rcases o with ⟨he, b, rfl⟩ | ⟨id, q1, rfl, q2, q3, q4⟩
 ·refine ⟨σ, R.runs ?_ σ, rfl, fun j _ => rfl⟩
  rw [he] at hr
  exact R.nrmH (args' := [.lst []]) (by kernel_rfl) (by kernel_rfl) (by kernel_rfl) (.inr (by kernel_rfl)) rfl rfl rfl hr
 ·obtain ⟨k, hk⟩ := Runs.give (T := T0) (f := 87) (σ := σ) (by kernel_rfl) (by kernel_rfl) (by kernel_rfl) (.inl (by kernel_rfl)) rfl (show AV.idfree.idfrees [.lst (l.map ar)] = true from rfl) rfl hz hr
  refine ⟨_, hk, rfl, fun j hj => qi (m := m) ?_ hj⟩
  intro i him
  rw [List.flatMap_cons, List.flatMap_nil, List.append_nil] at him
  rw [sW q4 (by rw [<- cz]; exact fE elV l) k i him]; exact q2
def othK (v : Val) (nm : List UInt8) (j : Nat) : List Fld := if v.kind = 5 then (v.fields.take j).filter (dX nm) else []
theorem appVm {h : Tr AB} {n m : Nat} {x : AV} {l l' : List Val} (o : OwnW 35 m h n (l.map ar) x) (hm : m <= n) (hl : l.length + l'.length <= 1000000) :
  ∃ x' σ', aI T0 ⟨h, n⟩ 32 32 x (.lst (l'.map ar)) = some (x', σ') /\ OwnW 35 m σ'.h σ'.n ((l ++ l').map ar) x' /\ n <= σ'.n /\ ∀ j, j < m -> σ'.h.get j = h.get j := by
 have := appW (h := h) elV.rowT o hm (RowE.mapE elV l) (RowE.mapE elV l') (iP (by decide) (by rw [List.length_map, List.length_map]; exact hl))
 rwa [<- List.map_append] at this
theorem l0 {h : Tr AB} {v : Val} {A B : AV} {id e : Nat} {g : Bool} (hg : h.get id = some (.cells (aL v A B) e g)) : ac T0 h 3 (.ptr id 0) = some (.i .i64 v.kind) := by rw [cq hg (Nat.zero_le _)]; exact nJ _ _
theorem l1 {h : Tr AB} {v : Val} {A B : AV} {id e : Nat} {g : Bool} (hg : h.get id = some (.cells (aL v A B) e g)) : ac T0 h 3 (.ptr id 1) = some (.i .i64 v.n) := by rw [cq hg (show 1 <= 5 by decide)]; exact nJ _ _
theorem l2 {h : Tr AB} {v : Val} {A B : AV} {id e : Nat} {g : Bool} (hg : h.get id = some (.cells (aL v A B) e g)) : ac T0 h 9 (.ptr id 2) = some (.s v.s) := by rw [cq hg (show 2 <= 5 by decide)]; exact lG _ _
theorem iaW {h : Tr AB} {m n j : Nat} {x : AV} {l : List Fld} (o : OwnW 52 m h n (l.map az) x) (hj : j < l.length) : ∃ p off, ai T0 33 x (.i .i64 (j : Nat)) = some (.ptr p off) /\ m <= p /\ p < n /\ ∀ h' : Tr AB, h'.get p = h.get p -> ac T0 h' 52 (.ptr p off) = some (az (l.getD j default)) /\ ac T0 h' 9 (.ptr p (off + 0)) = some (.s (l.getD j default).name) := by
 rcases o with ⟨he, b, rfl⟩ | ⟨id, q1, rfl, q2, q3, q4⟩
 ·rw [List.map_eq_nil_iff.1 he] at hj; cases hj
 ·rw [<- cz] at q4
  refine ⟨id, j * (5 + 1), ?_, q2, q3, fun h' e => ⟨?_, ?_⟩⟩
  ·rw [List.length_map]; exact jv hj
  ·exact rl (show cr h' id l from e.trans q4) hj
  ·exact rl9 (show cr h' id l from e.trans q4) hj
theorem c85n : R T0 85 [.nilz true] (ar (ca [])) :=
 R.nrmH (args' := [.lst []]) (by kernel_rfl) (by kernel_rfl) (by kernel_rfl) (.inr (by kernel_rfl)) rfl rfl rfl (c85 [] (by simp) (fun f hf => by cases hf) List.Pairwise.nil)
def fP (x : XStep) : Val := if x.kind_ = 3 then ca [.mk x.name_ (kL x.value_)] else ca []
inductive PR where
 | ok (v : Val) : PR
 | er (e : Int) : PR
def gU (v : Val) (s : XStep) : Val := if 0 <= chI v s then (if s.kind_ = 1 then (v.fields.getD (chI v s).toNat default).v else v.list.getD (chI v s).toNat default) else fP s
def fN (v : Val) (s : XStep) (y : Val) : Val := if s.kind_ = 1 then fh v s.name_ y else eS (if chI v s < 0 then v.list ++ [y] else v.list.set (chI v s).toNat y)
def wrK (v : Val) (s : XStep) : Prop := (s.kind_ = 1 /\ v.kind ≠ 5) ∨ (s.kind_ ≠ 1 /\ v.kind ≠ 4)
instance (v : Val) (s : XStep) : Decidable (wrK v s) := by unfold wrK; infer_instance
def dk : Val -> List XStep -> Val -> PR
 | _, [], x => .ok x
 | v, s :: p, x =>
  if wrK v s then .er 6
  else if s.kind_ = 2 /\ ((v.list.length : Nat) : Int) < s.index_ then .er 5
  else match dk (gU v s) p x with
   | .er e => .er e
   | .ok y => if s.kind_ = 3 /\ mtB y s.name_ s.value_ = false then .er 6 else .ok (fN v s y)
theorem jL (v x : Val) : dk v [] x = .ok x := by rw [dk]
theorem eO (v : Val) (s : XStep) (p : List XStep) (x : Val) : dk v (s :: p) x = if wrK v s then .er 6 else if s.kind_ = 2 /\ ((v.list.length : Nat) : Int) < s.index_ then .er 5 else match dk (gU v s) p x with
   | .er e => .er e
   | .ok y => if s.kind_ = 3 /\ mtB y s.name_ s.value_ = false then .er 6 else .ok (fN v s y) := by rw [dk]
theorem putV_wr {v : Val} {s : XStep} {p : List XStep} {x : Val} (h : wrK v s) : dk v (s :: p) x = .er 6 := by rw [eO, if_pos h]
theorem putV_rng {v : Val} {s : XStep} {p : List XStep} {x : Val} (h : ¬ wrK v s) (h2 : s.kind_ = 2 /\ ((v.list.length : Nat) : Int) < s.index_) : dk v (s :: p) x = .er 5 := by rw [eO, if_neg h, if_pos h2]
theorem putV_sub {v : Val} {s : XStep} {p : List XStep} {x : Val} {e : Int} (h : ¬ wrK v s) (h2 : ¬ (s.kind_ = 2 /\ ((v.list.length : Nat) : Int) < s.index_)) (h3 : dk (gU v s) p x = .er e) : dk v (s :: p) x = .er e := by rw [eO, if_neg h, if_neg h2, h3]
theorem putV_mt {v y : Val} {s : XStep} {p : List XStep} {x : Val} (h : ¬ wrK v s) (h2 : ¬ (s.kind_ = 2 /\ ((v.list.length : Nat) : Int) < s.index_)) (h3 : dk (gU v s) p x = .ok y) (h4 : s.kind_ = 3 /\ mtB y s.name_ s.value_ = false) : dk v (s :: p) x = .er 6 := by rw [eO, if_neg h, if_neg h2, h3]; exact if_pos h4
theorem xG {v y : Val} {s : XStep} {p : List XStep} {x : Val} (h : ¬ wrK v s) (h2 : ¬ (s.kind_ = 2 /\ ((v.list.length : Nat) : Int) < s.index_)) (h3 : dk (gU v s) p x = .ok y) (h4 : ¬ (s.kind_ = 3 /\ mtB y s.name_ s.value_ = false)) : dk v (s :: p) x = .ok (fN v s y) := by rw [eO, if_neg h, if_neg h2, h3]; exact if_neg h4
def prA : PR -> AV
 | .ok w => .tup [ar w, .i .i64 0]
 | .er e => .tup [ar default, .i .i64 e]
def Gd (v : Val) : Prop := smV v /\ ∀ q w, gw v q = some w -> Dif w.fields /\ w.list.length <= 64 /\ w.fields.length <= 64
theorem Gd.here {v : Val} (h : Gd v) : Dif v.fields /\ v.list.length <= 64 /\ v.fields.length <= 64 := h.2 [] v (gu v)
theorem Gd.step {v w : Val} {x : XStep} (h : Gd v) (hs : bS v x = some w) : Gd w := ⟨jF h.1 hs, fun q u hq => h.2 (x :: q) u (by rw [cO hs]; exact hq)⟩
theorem gd_leaf {v : Val} (sm : smV v) (hl : v.list = []) (hf : v.fields = []) : Gd v := by
 refine ⟨sm, fun q w hq => ?_⟩
 cases q with
 | nil =>
  rw [gu] at hq; injection hq with hq; subst hq
  rw [hl, hf]; exact ⟨List.Pairwise.nil, Nat.zero_le _, Nat.zero_le _⟩
 | cons x q =>
  exfalso
  have hb := gR (v := v) (x := x)
  cases hs : bS v x with
  | none => rw [du hs] at hq; cases hq
  | some u =>
   unfold bS at hs
   split at hs
   ·cases hs
   ·rename_i h0
    have hb := hb (by omega)
    rw [hl, hf, List.length_nil, List.length_nil] at hb
    by_cases k : x.kind_ = 1
    ·have := hb.1 k; omega
    ·have := hb.2 k; omega
theorem smStr {s : List UInt8} (h : s.length <= 100000) : smV (kL s) := smV.of ⟨show (Lit.int .i64 3).wf = true by decide, show (Lit.int .i64 0).wf = true by decide⟩ h (by simp [kL, Val.list]) (by simp [kL, Val.fields]) (fun x h => by cases h) (fun x h => by cases h)
theorem yL {l : List Fld} (hl : l.length <= 1) (ho : ∀ f ∈ l, smF f) (hv : ∀ f ∈ l, f.v.list = [] /\ f.v.fields = []) : Gd (ca l) := by
 refine ⟨smMap (by omega) ho, fun q w hq => ?_⟩
 have e1 : (ca l).fields = l := rfl
 have e2 : (ca l).list = [] := rfl
 cases q with
 | nil =>
  rw [gu] at hq; injection hq with hq; subst hq
  rw [e1, e2]
  refine ⟨?_, Nat.zero_le _, by omega⟩
  match l, hl with
  | [], _ => exact List.Pairwise.nil
  | [a], _ => exact List.pairwise_singleton _ _
 | cons x q =>
  cases hs : bS (ca l) x with
  | none => rw [du hs] at hq; cases hq
  | some u =>
   rw [cO hs] at hq
   have hb := gR (v := ca l) (x := x)
   unfold bS at hs
   rw [e1, e2] at hb hs
   generalize chI (ca l) x = c at hb hs
   split at hs
   ·cases hs
   ·rename_i h0
    have hb := hb (by omega)
    injection hs with hs
    by_cases k : x.kind_ = 1
    ·rw [if_pos k] at hs
     have h1 := hb.1 k
     have hm : l.getD c.toNat default ∈ l := aY (by omega)
     have hl := hv _ hm
     rw [hs] at hl
     exact (gd_leaf (hs ▸ (fZ (ho _ hm)).2) hl.1 hl.2).2 q w hq
    ·have := hb.2 k; rw [List.length_nil] at this; omega
theorem vx {s : XStep} (hn : s.name_.length <= 100000) (hv : s.value_.length <= 100000) : Gd (fP s) := by
 unfold fP; split
 ·exact yL (by simp) (fun f hf => by rw [List.mem_singleton.1 hf]; exact .of hn (smStr hv)) (fun f hf => by rw [List.mem_singleton.1 hf]; exact ⟨rfl, rfl⟩)
 ·exact yL (by simp) (fun f hf => by cases hf) (fun f hf => by cases hf)
theorem mX {v : Val} {s : XStep} (h : Gd v) (hn : s.name_.length <= 100000) (hv : s.value_.length <= 100000) : Gd (gU v s) := by
 unfold gU; split
 ·rename_i h0
  refine h.step (x := s) ?_
  unfold bS; rw [if_neg (by omega)]
 ·exact vx hn hv
theorem uA (v : Val) (nm : List UInt8) : (fU v nm).length <= v.fields.length := by
 unfold fU; split
 ·exact List.length_filter_le _ _
 ·exact Nat.zero_le _
theorem pU {v : Val} {nm : List UInt8} {f : Fld} (h : f ∈ fU v nm) : f ∈ v.fields /\ f.name ≠ nm := by
 unfold fU at h; split at h
 ·have := List.mem_filter.1 h
  refine ⟨this.1, fun e => ?_⟩
  have h2 := this.2; unfold dX at h2; rw [e] at h2; simp at h2
 ·cases h
theorem pV {v : Val} {nm : List UInt8} {x : Val} (h : Dif v.fields) : Dif (fU v nm ++ [.mk nm x]) := by
 refine List.pairwise_append.2 ⟨?_, List.pairwise_singleton _ _, fun a ha b hb => ?_⟩
 ·unfold fU; split
  ·exact h.sublist List.filter_sublist
  ·exact List.Pairwise.nil
 ·rw [List.mem_singleton.1 hb]; exact (pU ha).2
theorem smWith {v : Val} {nm : List UInt8} {y : Val} (h : Gd v) (hn : nm.length <= 100000) (sy : smV y) : smV (fh v nm y) := by
 have hh := h.here
 have hl := uA v nm
 refine smMap (by rw [srtF_len, List.length_append, List.length_singleton]; omega) (fun f hf => ?_)
 rcases List.mem_append.1 ((eM _).mem_iff.1 hf) with hf | hf
 ·exact (bY h.1).2.2.2.2.2 f (pU hf).1
 ·rw [List.mem_singleton.1 hf]; exact .of hn sy
theorem smNew {v : Val} {s : XStep} {y : Val} (h : Gd v) (hn : s.name_.length <= 100000) (sy : smV y) : smV (fN v s y) := by
 have hh := h.here
 unfold fN; split
 ·exact smWith h hn sy
 ·split
  ·refine wn (by rw [List.length_append, List.length_singleton]; omega) (fun f hf => ?_)
   rcases List.mem_append.1 hf with hf | hf
   ·exact (bY h.1).2.2.2.2.1 f hf
   ·rw [List.mem_singleton.1 hf]; exact sy
  ·refine wn (by rw [List.length_set]; omega) (fun f hf => ?_)
   rcases List.mem_or_eq_of_mem_set hf with hf | rfl
   ·exact (bY h.1).2.2.2.2.1 f hf
   ·exact sy
def stS (s : XStep) : Prop := s.name_.length <= 100000 /\ s.value_.length <= 100000
theorem xw : ∀ (p : List XStep) (v x y : Val), (∀ s ∈ p, stS s) -> Gd v -> smV x -> dk v p x = .ok y -> smV y
 | [], v, x, y, _, _, sx, h => by rw [jL] at h; injection h with h; rw [<- h]; exact sx
 | s :: p, v, x, y, hp, hv, sx, h => by
  have hs := hp s (List.mem_cons_self ..)
  rw [eO] at h
  split at h
  ·cases h
  ·split at h
   ·cases h
   ·split at h
    ·cases h
    ·rename_i u hu
     have su := xw p _ x u (fun t ht => hp t (List.mem_cons_of_mem _ ht)) (mX hv hs.1 hs.2) sx hu
     split at h
     ·cases h
     ·injection h with h; rw [<- h]; exact smNew hv hs.1 su
theorem gg {s : XStep} (h : bq s = true) : stS s := by
 have := dI h
 exact ⟨by omega, by omega⟩
theorem bl_trans : ∀ a b c : List UInt8, Op.bytesLess a b = true -> Op.bytesLess b c = true -> Op.bytesLess a c = true := by
 intro a b c h1 h2
 cases hc : Op.bytesLess a c with
 | true => rfl
 | false => rw [bl_nt _ _ _ (pb _ _ h2) hc] at h1; cases h1
theorem ord_lt {l : List Fld} (h : ∀ i, i < l.length -> lD l i = true) : ∀ i j, i < j -> j < l.length -> Op.bytesLess (l.getD i default).name (l.getD j default).name = true := by
 intro i j
 induction j with
 | zero => intro h; omega
 | succ j ih =>
  intro hij hj
  have h1 := h (j + 1) hj
  unfold lD at h1
  rw [decide_eq_false (by omega), Bool.false_or, Nat.add_sub_cancel] at h1
  by_cases e : i = j
  ·rw [e]; exact h1
  ·exact bl_trans _ _ _ (ih (by omega) (by omega)) h1
theorem ord_dif {l : List Fld} (h : ∀ i, i < l.length -> lD l i = true) : Dif l := by
 unfold Dif
 rw [List.pairwise_iff_getElem]
 intro i j hi hj hij e
 have := ord_lt h i j hij hj
 rw [List.getD_eq_getElem?_getD, List.getD_eq_getElem?_getD, List.getElem?_eq_getElem hi, List.getElem?_eq_getElem hj] at this
 simp only [Option.getD_some] at this
 rw [e] at this
 have h2 := pb _ _ this
 rw [h2] at this; cases this
theorem wh {k : Nat} {v w : Val} {x : XStep} (h : aR (k + 1) v = true) (hs : bS v x = some w) : aR k w = true := by
 rw [aR] at h
 simp only [Bool.and_eq_true, List.all_eq_true] at h
 obtain ⟨⟨_, h2⟩, h3⟩ := h
 unfold bS at hs
 split at hs
 ·cases hs
 ·rename_i h0
  have hb := gR (v := v) (x := x) (by omega)
  injection hs with hs; subst hs
  split
  ·rename_i k; have := hb.1 k
   exact (h3 (chI v x).toNat (List.mem_range.2 (by omega))).2
  ·rename_i k; have := hb.2 k
   exact h2 _ (aY (by omega))
theorem wi {k : Nat} {v : Val} (h : aR k v = true) : Dif v.fields /\ v.list.length <= 64 /\ v.fields.length <= 64 := by
 cases k with
 | zero => rw [aR] at h; cases h
 | succ k =>
  rw [aR] at h
  simp only [Bool.and_eq_true, List.all_eq_true] at h
  obtain ⟨⟨h1, _⟩, h3⟩ := h
  unfold jw at h1
  simp only [Bool.and_eq_true, decide_eq_true_eq] at h1
  exact ⟨ord_dif (fun i hi => (h3 i (List.mem_range.2 hi)).1.2), h1.1.2, h1.2⟩
theorem tW : ∀ (q : List XStep) (k : Nat) (v w : Val), aR k v = true -> gw v q = some w -> ∃ k', aR k' w = true
 | [], k, v, w, h, hq => by rw [gu] at hq; injection hq with hq; exact ⟨k, hq ▸ h⟩
 | x :: q, k, v, w, h, hq => by
  cases hs : bS v x with
  | none => rw [du hs] at hq; cases hq
  | some u =>
   rw [cO hs] at hq
   cases k with
   | zero => rw [aR] at h; cases h
   | succ k => exact tW q k u w (wh h hs) hq
theorem pr {v : Val} (sm : smV v) (h : eA v = true) : Gd v := by
 unfold eA at h
 rw [Bool.and_eq_true] at h
 refine ⟨sm, fun q w hq => ?_⟩
 obtain ⟨k', hk⟩ := tW q _ v w h.1 hq
 exact wi hk
section
variable {h : Tr AB} {x : XStep} {id e : Nat} {g : Bool}
theorem sk0 (hg : h.get id = some (.cells (aj x).cells e g)) : ac T0 h 3 (.ptr id 0) = some (.i .i64 x.kind_) := by rw [cq hg (Nat.zero_le _)]; exact cP x
theorem sk1 (hg : h.get id = some (.cells (aj x).cells e g)) : ac T0 h 9 (.ptr id 1) = some (.s x.name_) := by rw [cq hg (show 1 <= 4 by decide)]; exact dn x
theorem sk2 (hg : h.get id = some (.cells (aj x).cells e g)) : ac T0 h 3 (.ptr id 2) = some (.i .i64 x.index_) := by rw [cq hg (show 2 <= 4 by decide)]; exact dU x
theorem sk3 (hg : h.get id = some (.cells (aj x).cells e g)) : ac T0 h 9 (.ptr id 3) = some (.s x.value_) := by rw [cq hg (show 3 <= 4 by decide)]; exact dT x
theorem skx (hg : h.get id = some (.cells (aj x).cells e g)) : ac T0 h 50 (.ptr id 0) = some (aj x) := by rw [cq hg (Nat.zero_le _)]; exact gV x
end
theorem own_rowV {h : Tr AB} {n m id : Nat} {l : List Val} (hr : l ≠ [] -> h.get id = some (.cells (ax ar l) 35 true)) (hm : m <= id) (hn : l ≠ [] -> id < n) : OwnW 35 m h n (l.map ar) (cA l id) := by
 cases l with
 | nil => exact .inl ⟨rfl, false, rfl⟩
 | cons a l =>
  refine .inr ⟨id, by simp, by rw [List.length_map]; rfl, hm, hn (by simp), ?_⟩
  rw [hr (by simp), cz]
theorem own_set {h : Tr AB} {n m id i : Nat} {l : List Val} {y : Val} (hr : h.get id = some (.cells (ax ar l) 35 true)) (hi : i < l.length) (hm : m <= id) (hn : id < n) :
  aA T0 h 35 (.ptr id (i * (4 + 1))) (ar y) = some (h.put id (some (.cells (ax ar (l.set i y)) 35 true))) /\ OwnW 35 m (h.put id (some (.cells (ax ar (l.set i y)) 35 true))) n ((l.set i y).map ar) (cA l id) := by
 refine ⟨dP ji hr (bM y) (gK y) ?_, .inr ⟨id, ?_, ?_, hm, hn, by rw [ah, cz]⟩⟩
 ·have := pN (k := 0) (y := y) (c := (ar y).cells) bM hi (cy _ _ (by rw [bM, bM]))
  exact this
 ·intro e
  have := congrArg List.length e
  rw [List.length_map, List.length_set, List.length_nil] at this; omega
 ·rw [List.length_map, List.length_set]; exact lx (by omega)
theorem ozve {σ : AS} {K : AV -> Prop} {w : Val} {e : Int} : oZ T0 σ (.tup [ar w, .i .i64 e]) K = K (.tup [ar w, .i .i64 e]) := by
 rw [dC (by show AV.idfree.idfrees [ar w, .i .i64 e] = true; rw [aw]; rfl)]
 rw [aw]; rfl
theorem wE {σ : AS} {K : AV -> Prop} {e : Int} : oZ T0 σ (.tup [.agg [.i .i64 0, .i .i64 0, .s [], .nilz true, .nilz true], .i .i64 e]) K = K (.tup [ar default, .i .i64 e]) := dC rfl
theorem ow : ∀ (p : List XStep) (v x : Val) (e : Int), dk v p x = .er e -> e = 5 ∨ e = 6
 | [], v, x, e, h => by rw [jL] at h; cases h
 | s :: p, v, x, e, h => by
  rw [eO] at h
  split at h
  ·injection h with h; exact .inr h.symm
  ·split at h
   ·injection h with h; exact .inl h.symm
   ·split at h
    ·rename_i e' he; injection h with h; rw [<- h]; exact ow p _ x e' he
    ·split at h
     ·injection h with h; exact .inr h.symm
     ·cases h
theorem fresh3 {s : XStep} (k3 : s.kind_ = 3) : fh (ca []) s.name_ (kL s.value_) = fP s := by
 unfold fP; rw [if_pos k3]; rfl
theorem with_e {v y : Val} {nm : List UInt8} (h : Gd v) (hn : nm.length <= 100000) (sy : smV y) {d : Nat} {σ : AS} {K : AV -> AS -> Prop} : oC T0 d 86 [ar v, .s nm, ar y] σ K = K (ar (fh v nm y)) σ := by
 have hh := h.here
 have hl := uA v nm
 exact (c86 v nm y h.1 hn sy (by omega) (fun f hf => (bY h.1).2.2.2.2.2 f (pU hf).1) (pV hh.1)).eq d σ K
theorem gd_map0 : Gd (ca []) := by
 have := vx (s := ⟨1, [], 0, []⟩) (by simp) (by simp)
 exact this
theorem c55 : ∀ (p : List XStep) (v x : Val), (∀ s ∈ p, bq s = true) -> Gd v -> smV x -> R T0 55 [ar v, .lst (p.map aj), ar x] (prA (dk v p x))
 | [], v, x, hp, hv, sx => by
  refine r55 _ _ _ (by rw [aw, aw]; rfl) (by rw [aw, aw]; rfl) ?_
  unfold w55
  dsimp only [av]
  rw [bt, bt, bt]
  simp only [Nat.zero_add, Nat.reduceAdd]
  have g1 : (((Tr.nil.put 0 (some (.cells (ar v).cells 35 false))).put 1 (some (.cells (ar x).cells 35 false))).put 2 (some (.cells [.i .i64 0, .i .i64 0, .s [], .nilz true, .nilz true] 35 false)) : Tr AB).get 1 = some (.cells (ar x).cells 35 false) := by
   rw [ae _ _ (by decide), ah]
  have g2 : (((Tr.nil.put 0 (some (.cells (ar v).cells 35 false))).put 1 (some (.cells (ar x).cells 35 false))).put 2 (some (.cells [.i .i64 0, .i .i64 0, .s [], .nilz true, .nilz true] 35 false)) : Tr AB).get 2 = some (.cells [.i .i64 0, .i .i64 0, .s [], .nilz true, .nilz true] 35 false) := ah _ _ _
  generalize (((Tr.nil.put 0 (some (.cells (ar v).cells 35 false))).put 1 (some (.cells (ar x).cells 35 false))).put 2 (some (.cells [.i .i64 0, .i .i64 0, .s [], .nilz true, .nilz true] 35 false)) : Tr AB) = h at g1 g2 |-
  rw [eJ, aa, bZ, aa, List.map_nil, List.length_nil, decide_eq_true (by decide), aE, dh g1, aa, dz rfl g2, aG, uT, aa, jL]
  rw [ozve]; rfl
 | s :: p, v, x, hp, hv, sx => by
  have hs := hp s (List.mem_cons_self ..)
  have hst := gg hs
  have hk := dI hs
  have sm := hv.1
  have hh := hv.here
  have ih := c55 p (gU v s) x (fun t ht => hp t (List.mem_cons_of_mem _ ht)) (mX hv hst.1 hst.2) sx
  have hsm := xw p (gU v s) x
  have hsm := fun y => hsm y (fun t ht => gg (hp t (List.mem_cons_of_mem _ ht))) (mX hv hst.1 hst.2) sx
  have her := ow p (gU v s) x
  have hb := gR (v := v) (x := s)
  refine r55 _ _ _ (by rw [aw, aw]; rfl) (by rw [aw, aw]; rfl) ?_
  unfold w55
  dsimp only [av]
  rw [bt, bt, bt]
  simp only [Nat.zero_add, Nat.reduceAdd]
  have g0 : (((Tr.nil.put 0 (some (.cells (ar v).cells 35 false))).put 1 (some (.cells (ar x).cells 35 false))).put 2 (some (.cells [.i .i64 0, .i .i64 0, .s [], .nilz true, .nilz true] 35 false)) : Tr AB).get 0 = some (.cells (aL v (.lst (v.list.map ar)) (.lst (v.fields.map az))) 35 false) := by
   rw [ae _ _ (by decide), ae _ _ (by decide), ah, je]
  have g1 : (((Tr.nil.put 0 (some (.cells (ar v).cells 35 false))).put 1 (some (.cells (ar x).cells 35 false))).put 2 (some (.cells [.i .i64 0, .i .i64 0, .s [], .nilz true, .nilz true] 35 false)) : Tr AB).get 1 = some (.cells (ar x).cells 35 false) := by
   rw [ae _ _ (by decide), ah]
  have g2 : (((Tr.nil.put 0 (some (.cells (ar v).cells 35 false))).put 1 (some (.cells (ar x).cells 35 false))).put 2 (some (.cells [.i .i64 0, .i .i64 0, .s [], .nilz true, .nilz true] 35 false)) : Tr AB).get 2 = some (.cells [.i .i64 0, .i .i64 0, .s [], .nilz true, .nilz true] 35 false) := ah _ _ _
  generalize (((Tr.nil.put 0 (some (.cells (ar v).cells 35 false))).put 1 (some (.cells (ar x).cells 35 false))).put 2 (some (.cells [.i .i64 0, .i .i64 0, .s [], .nilz true, .nilz true] 35 false)) : Tr AB) = h at g0 g1 g2 |-
  have q2 : ac T0 h 50 (.iptr (aj s).cells) = some (aj s) := by rw [gq, dQ]
  have st3 : bo T0 (h.put 3 (some (.cells [.i .i64 0, .s [], .i .i64 0, .s []] 50 false))) 50 (.ptr 3 0) (aj s) = some (3, .cells (aj s).cells 50 false) :=
   ge (by kernel_rfl) (ah _ _ _) rfl rfl (cy _ _ rfl)
  rw [eJ, aa, bZ, aa, List.length_map, List.length_cons, decide_eq_false (by omega), ay, tw, aa, q2, aa, slS1c, aa, nL rfl, st3, bK, fG rfl rfl, fc]
  have g0 : ((h.put 3 (some (.cells [.i .i64 0, .s [], .i .i64 0, .s []] 50 false))).put 3 (some (.cells (aj s).cells 50 false))).get 0 = some (.cells (aL v (.lst (v.list.map ar)) (.lst (v.fields.map az))) 35 false) := by
   rw [ae _ _ (by decide), ae _ _ (by decide)]; exact g0
  have g1 : ((h.put 3 (some (.cells [.i .i64 0, .s [], .i .i64 0, .s []] 50 false))).put 3 (some (.cells (aj s).cells 50 false))).get 1 = some (.cells (ar x).cells 35 false) := by
   rw [ae _ _ (by decide), ae _ _ (by decide)]; exact g1
  have g2 : ((h.put 3 (some (.cells [.i .i64 0, .s [], .i .i64 0, .s []] 50 false))).put 3 (some (.cells (aj s).cells 50 false))).get 2 = some (.cells [.i .i64 0, .i .i64 0, .s [], .nilz true, .nilz true] 35 false) := by
   rw [ae _ _ (by decide), ae _ _ (by decide)]; exact g2
  have g3 : ((h.put 3 (some (.cells [.i .i64 0, .s [], .i .i64 0, .s []] 50 false))).put 3 (some (.cells (aj s).cells 50 false))).get 3 = some (.cells (aj s).cells 50 false) := ah _ _ _
  generalize ((h.put 3 (some (.cells [.i .i64 0, .s [], .i .i64 0, .s []] 50 false))).put 3 (some (.cells (aj s).cells 50 false))) = H at g0 g1 g2 g3 |-
  clear st3 q2
  simp only [cw, Nat.zero_add]
  have L0 := l0 g0
  have S0 := sk0 g3
  have Lv : ac T0 H 35 (.ptr 0 0) = some (ar v) := by rw [l5 g0, aw]; rfl
  have guard : ∀ (A B : AS -> Prop), (wrK v s -> A ⟨H, 4⟩) -> (¬ wrK v s -> B ⟨H, 4⟩) ->
    (oV 25 (some (.ptr 3 0)) fun t25 => oV 26 (ac T0 H 3 t25) fun t26 => oV 27 (af T0 .eql 3 true t26 (.i .i64 1)) fun t27 =>
     oG [29, 30, 31] t27 true (fun (k : C3) => oV 29 (some (.ptr 0 0)) fun t29 => oV 30 (ac T0 H 3 t29) fun t30 => oV 31 (af T0 .neq 3 true t30 (.i .i64 5)) fun t31 => k t29 t30 t31 ⟨H, 4⟩) ⟨H, 4⟩ fun t29 t30 t31 sx5 =>
     oV 32 (au t27 (some t31) (some (.b false))) fun t32 =>
     oG [34, 35, 36, 37] t32 false (fun (k : C4) => oV 34 (some (.ptr 3 0)) fun t34 => oV 35 (ac T0 sx5.h 3 t34) fun t35 => oV 36 (af T0 .neq 3 true t35 (.i .i64 1)) fun t36 => k t34 t35 t36 t36 sx5) sx5 fun t34 t35 t36 t37 sx6 =>
     oG [38, 39, 40, 41] t37 true (fun (k : C4) => oV 38 (some (.ptr 0 0)) fun t38 => oV 39 (ac T0 sx6.h 3 t38) fun t39 => oV 41 (af T0 .neq 3 false t39 (.i .i64 4)) fun t41 => k t38 t39 (.i .i64 4) t41 sx6) sx6 fun t38 t39 t40 t41 sx7 =>
     oG [42] t32 false (fun (k : C1) => oV 42 (au t37 (some t41) (some (.b false))) fun t42 => k t42 sx7) sx7 fun t42 sx8 =>
     oV 43 (au t32 (some (.b true)) (some t42)) fun t43 => oI t43 (A sx8) (B sx8)) := by
   intro A B hA hB
   rw [aa, S0, aa, bZ, aa]
   by_cases k1 : s.kind_ = 1
   ·rw [decide_eq_true k1, gM, aa, L0, aa, dx, aa]
    dsimp only
    rw [bk, aa]
    by_cases k5 : v.kind = 5
    ·rw [decide_eq_false (fun q => q k5), kP, aa, S0, aa, dx, aa, decide_eq_false (fun q => q k1)]
     dsimp only
     rw [nQ, rU, bB, aa]
     dsimp only
     rw [bB, aa, ay]
     exact hB (by unfold wrK; omega)
    ·rw [decide_eq_true k5, gt, vg, vr, bk, aa, aE]
     exact hA (by unfold wrK; omega)
   ·rw [decide_eq_false k1, kO, bB, aa, kP, aa, S0, aa, dx, aa, decide_eq_true k1]
    dsimp only
    rw [qp, aa, L0, aa, dx, aa]
    dsimp only
    rw [rU, bk, aa]
    dsimp only
    rw [bB, aa]
    by_cases k4 : v.kind = 4
    ·rw [decide_eq_false (fun q => q k4), ay]; exact hB (by unfold wrK; omega)
    ·rw [decide_eq_true k4, aE]; exact hA (by unfold wrK; omega)
  refine guard _ _ (fun hw => ?_) (fun hw => ?_)
  ·rw [kg, aa, jG rfl g2, aG, tu, aa, putV_wr hw, wE]; rfl
  clear guard
  dsimp only
  rw [Lv, aa, skx g3, aa, e49 sm, c85n.eq, bt]
  dsimp only
  simp only [Nat.reduceAdd]
  rw [dz rfl (ah _ _ _), aG]
  have a0 : ((H.put 4 (some (.cells [.i .i64 0, .i .i64 0, .s [], .nilz true, .nilz true] 35 false))).put 4 (some (.cells (ar (ca [])).cells 35 false))).get 0 = some (.cells (aL v (.lst (v.list.map ar)) (.lst (v.fields.map az))) 35 false) := by
   rw [ae _ _ (by decide), ae _ _ (by decide)]; exact g0
  have a1 : ((H.put 4 (some (.cells [.i .i64 0, .i .i64 0, .s [], .nilz true, .nilz true] 35 false))).put 4 (some (.cells (ar (ca [])).cells 35 false))).get 1 = some (.cells (ar x).cells 35 false) := by
   rw [ae _ _ (by decide), ae _ _ (by decide)]; exact g1
  have a2 : ((H.put 4 (some (.cells [.i .i64 0, .i .i64 0, .s [], .nilz true, .nilz true] 35 false))).put 4 (some (.cells (ar (ca [])).cells 35 false))).get 2 = some (.cells [.i .i64 0, .i .i64 0, .s [], .nilz true, .nilz true] 35 false) := by
   rw [ae _ _ (by decide), ae _ _ (by decide)]; exact g2
  have a3 : ((H.put 4 (some (.cells [.i .i64 0, .i .i64 0, .s [], .nilz true, .nilz true] 35 false))).put 4 (some (.cells (ar (ca [])).cells 35 false))).get 3 = some (.cells (aj s).cells 50 false) := by
   rw [ae _ _ (by decide), ae _ _ (by decide)]; exact g3
  have a4 : ((H.put 4 (some (.cells [.i .i64 0, .i .i64 0, .s [], .nilz true, .nilz true] 35 false))).put 4 (some (.cells (ar (ca [])).cells 35 false))).get 4 = some (.cells (ar (ca [])).cells 35 false) := ah _ _ _
  clear g0 g1 g2 g3 L0 S0 Lv
  generalize ((H.put 4 (some (.cells [.i .i64 0, .i .i64 0, .s [], .nilz true, .nilz true] 35 false))).put 4 (some (.cells (ar (ca [])).cells 35 false))) = h at a0 a1 a2 a3 a4 |-
  refine join7 (P := fun v0 v1 v2 v3 v4 v5 v6 σ => v0 = .ptr 2 0 /\ v1 = .i .i64 (chI v s) /\ v2 = .ptr 0 0 /\ v3 = .ptr 3 0 /\ v4 = .ptr 1 0 /\ v5 = .lst (p.map aj) /\ v6 = .ptr 4 0 /\ 5 <= σ.n /\ σ.h.get 0 = some (.cells (aL v (.lst (v.list.map ar)) (.lst (v.fields.map az))) 35 false) /\
    σ.h.get 1 = some (.cells (ar x).cells 35 false) /\ σ.h.get 2 = some (.cells [.i .i64 0, .i .i64 0, .s [], .nilz true, .nilz true] 35 false) /\ σ.h.get 3 = some (.cells (aj s).cells 50 false) /\ σ.h.get 4 = some (.cells (ar (gU v s)).cells 35 false) /\ ¬ (s.kind_ = 2 /\ ((v.list.length : Nat) : Int) < s.index_)) ?_ ?_
  ·intro k hk'
   have fin : ∀ w : Val, w = gU v s -> ¬ (s.kind_ = 2 /\ ((v.list.length : Nat) : Int) < s.index_) -> k (.ptr 2 0) (.i .i64 (chI v s)) (.ptr 0 0) (.ptr 3 0) (.ptr 1 0) (.lst (p.map aj)) (.ptr 4 0) ⟨h.put 4 (some (.cells (ar w).cells 35 false)), 5⟩ := by
    rintro w rfl hr
    refine hk' _ _ _ _ _ _ _ _ ⟨rfl, rfl, rfl, rfl, rfl, rfl, rfl, Nat.le_refl _, ?_, ?_, ?_, ?_, ah _ _ _, hr⟩
    ·dsimp only; rw [ae _ _ (by decide)]; exact a0
    ·dsimp only; rw [ae _ _ (by decide)]; exact a1
    ·dsimp only; rw [ae _ _ (by decide)]; exact a2
    ·dsimp only; rw [ae _ _ (by decide)]; exact a3
   rw [qN, aa]
   by_cases hc : 0 <= chI v s
   ·have hb := hb hc
    have hnr : ¬ (s.kind_ = 2 /\ ((v.list.length : Nat) : Int) < s.index_) := by
     rintro ⟨k2, hl⟩
     have : chI v s = -1 := by unfold chI; rw [if_neg (fun q => by omega), if_neg (fun q => by omega), if_neg (fun q => by omega)]
     omega
    rw [decide_eq_true hc, gM, aa, sk0 a3, aa, bZ, aa]
    dsimp only
    rw [bk, aa]
    by_cases k1 : s.kind_ = 1
    ·have hi := hb.1 k1
     rw [decide_eq_true k1, aE, aa, l4 a0, aa, qm hc hi bu, aa, pY, aa, gq, lY, aa, dz (bM _) a4, aG]
     exact fin _ (by unfold gU; rw [if_pos hc, if_pos k1]) hnr
    ·have hi := hb.2 k1
     rw [decide_eq_false k1, ay, aa, aE, aa, l3 a0, aa, rT hc hi bM, aa, gq, iw, aa, dz (bM _) a4, aG]
     exact fin _ (by unfold gU; rw [if_pos hc, if_neg k1]) hnr
   ·have ho : gU v s = fP s := by unfold gU; rw [if_neg hc]
    rw [decide_eq_false hc, kO, bB, aa, ay, aa, ay, aa, sk0 a3, aa, bZ, aa]
    have hsame : h.put 4 (some (.cells (ar (ca [])).cells 35 false)) = h.put 4 (some (.cells (ar (ca [])).cells 35 false)) := rfl
    have fin0 : fP s = ca [] -> ¬ (s.kind_ = 2 /\ ((v.list.length : Nat) : Int) < s.index_) -> k (.ptr 2 0) (.i .i64 (chI v s)) (.ptr 0 0) (.ptr 3 0) (.ptr 1 0) (.lst (p.map aj)) (.ptr 4 0) ⟨h, 5⟩ := fun hf hr =>
     hk' _ _ _ _ _ _ _ _ ⟨rfl, rfl, rfl, rfl, rfl, rfl, rfl, Nat.le_refl _, a0, a1, a2, a3, by dsimp only; rw [ho, hf]; exact a4, hr⟩
    by_cases k2 : s.kind_ = 2
    ·rw [decide_eq_true k2, vo, aa, sk2 a3, aa, aa, l3 a0, aa, mN, aa, dy, aa]
     dsimp only
     rw [bk, aa, List.length_map]
     by_cases hl : ((v.list.length : Nat) : Int) < s.index_
     ·rw [decide_eq_true hl, aE, kg, aa, jG rfl a2, aG, tu, aa, putV_rng hw ⟨k2, hl⟩, wE]; rfl
     ·rw [decide_eq_false hl, ay, aa, sk0 a3, aa, bZ, aa, decide_eq_false (by omega), ay]
      exact fin0 (by unfold fP; rw [if_neg (by omega)]) (fun q => hl q.2)
    ·rw [decide_eq_false k2, nP, bB, aa, ay, aa, sk0 a3, aa, bZ, aa]
     by_cases k3 : s.kind_ = 3
     ·have st4 : bo T0 h 35 (.ptr 4 0) (ar (fP s)) = some (4, .cells (ar (fP s)).cells 35 false) := ge ji a4 (bM _) (gK _) (cy _ _ (by rw [bM, bM]))
      rw [decide_eq_true k3, aE, dh a4, aa, aa, sk1 a3, aa, aa, sk3 a3, aa, e61, with_e gd_map0 hst.1 (smStr hst.2), fresh3 k3, st4, bK, fG rfl rfl, fc]
      exact fin _ ho.symm (fun q => k2 q.1)
     ·rw [decide_eq_false k3, ay]
      exact fin0 (by unfold fP; rw [if_neg k3]) (fun q => k2 q.1)
  clear a0 a1 a2 a3 a4
  rintro _ _ _ _ _ _ _ ⟨H, n⟩ ⟨rfl, rfl, rfl, rfl, rfl, rfl, rfl, hn, a0, a1, a2, a3, a4, hr⟩
  dsimp only at hn a0 a1 a2 a3 a4 |-
  rw [dh a4, aa, dh a1, aa, ih.eq]
  cases hp : dk (gU v s) p x with
  | er e =>
   have he := her e hp
   have c2 := ((ae (H.put n (some (.cells [.i .i64 0, .i .i64 0, .s [], .nilz true, .nilz true] 35 false))) (some (.cells (ar default).cells 35 false)) (show 2 ≠ n by omega)).trans (ae H _ (show 2 ≠ n by omega))).trans a2
   show oV 100 (aH 0 (.tup [ar default, .i .i64 e])) _
   rw [ex0, aa, show aH 1 (prA (.er e)) = some (.i .i64 e) from rfl, aa, bt, dz rfl (ah _ _ _), aG, dx, aa, decide_eq_true (by omega), aE, kg, aa, jG rfl c2, aG, tu, aa, putV_sub hw hr hp, wE]; rfl
  | ok y =>
   have sy := hsm y hp
   show oV 100 (aH 0 (.tup [ar y, .i .i64 0])) _
   rw [ex0, aa, show aH 1 (prA (.ok y)) = some (.i .i64 0) from rfl, aa, bt, dz rfl (ah _ _ _), aG, dx, aa, decide_eq_false (by decide), ay]
   dsimp only
   have b0 := ((ae (H.put n (some (.cells [.i .i64 0, .i .i64 0, .s [], .nilz true, .nilz true] 35 false))) (some (.cells (ar y).cells 35 false)) (show 0 ≠ n by omega)).trans (ae H _ (show 0 ≠ n by omega))).trans a0
   have b2 := ((ae (H.put n (some (.cells [.i .i64 0, .i .i64 0, .s [], .nilz true, .nilz true] 35 false))) (some (.cells (ar y).cells 35 false)) (show 2 ≠ n by omega)).trans (ae H _ (show 2 ≠ n by omega))).trans a2
   have b3 := ((ae (H.put n (some (.cells [.i .i64 0, .i .i64 0, .s [], .nilz true, .nilz true] 35 false))) (some (.cells (ar y).cells 35 false)) (show 3 ≠ n by omega)).trans (ae H _ (show 3 ≠ n by omega))).trans a3
   have bn := ah (H.put n (some (.cells [.i .i64 0, .i .i64 0, .s [], .nilz true, .nilz true] 35 false))) n (some (.cells (ar y).cells 35 false))
   generalize (H.put n (some (.cells [.i .i64 0, .i .i64 0, .s [], .nilz true, .nilz true] 35 false))).put n (some (.cells (ar y).cells 35 false)) = h at b0 b2 b3 bn |-
   clear a0 a1 a2 a3 a4
   have Lv : ac T0 h 35 (.ptr 0 0) = some (ar v) := by rw [l5 b0, aw]; rfl
   simp only [cw, Nat.zero_add]
   rw [aa, sk0 b3, aa, bZ, aa]
   by_cases k1 : s.kind_ = 1
   ·rw [decide_eq_true k1, aE, Lv, aa, aa, sk1 b3, aa, dh bn, aa, with_e hv hst.1 sy, dz rfl b2, aG, uT, aa, xG hw hr hp (fun q => by omega), ozve]
    unfold fN; rw [if_pos k1]; rfl
   ·rw [decide_eq_false k1, ay, aa, sk0 b3, aa, bZ, aa]
    have fail : ∀ σ : AS, σ = ⟨h, n + 1⟩ -> (s.kind_ = 3 /\ mtB y s.name_ s.value_ = false) -> (oV 123 (bF T0 35 []) fun t123 => oH (aA T0 σ.h 35 (.ptr 2 0) t123) σ fun sx18 => oV 6 (ac T0 sx18.h 35 (.ptr 2 0)) fun t6x2 => oZ T0 sx18 (.tup [t6x2, .i .i64 6]) (fun r2 => r2 = prA (dk v (s :: p) x))) := by
     rintro σ rfl hf
     rw [kg, aa, jG rfl b2, aG, tu, aa, putV_mt hw hr hp hf, wE]; rfl
    have go : ¬ (s.kind_ = 3 /\ mtB y s.name_ s.value_ = false) ->
     (oV 124 (some (.ptr 0 3)) fun t124 =>
      oV 125 (ac T0 h 32 t124) fun t125 =>
      oC T0 126 77 [t125] ⟨h, n + 1⟩ fun t126 sx18 =>
      oJ [6, 15] (fun (k : C2) =>
       oV 128 (af T0 .lss 3 true (.i .i64 (chI v s)) (.i .i64 0)) fun t128 =>
       oI t128 (oV 130 (ac T0 sx18.h 35 (.ptr n 0)) fun t130 =>
        oV 131 (dY T0 32 1 [(0, t130)]) fun t131 =>
        oM 132 (aI T0 sx18 32 32 t126 t131) fun t132 sx19 =>
        k (.ptr 2 0) t132 sx19)
       (oV 135 (ac T0 sx18.h 35 (.ptr n 0)) fun t135 =>
        oV 136 (ai T0 32 t126 (.i .i64 (chI v s))) fun t136 =>
        oH (aA T0 sx18.h 35 t136 t135) sx18 fun sx19 =>
        k (.ptr 2 0) t126 sx19))
      (fun t6x2 t15 sx19 =>
      oC T0 138 87 [t15] sx19 fun t138 sx20 =>
      oH (aA T0 sx20.h 35 t6x2 t138) sx20 fun sx21 =>
      oV 6 (ac T0 sx21.h 35 t6x2) fun t6x3 =>
      oZ T0 sx21 (.tup [t6x3, (.i .i64 0)]) (fun r2 => r2 = prA (dk v (s :: p) x)))) := by
     intro hm
     have hh2 := hh.2.1
     have smf := bY sm
     rw [aa, l3 b0, aa]
     obtain ⟨⟨h2, n2⟩, q1, q2, q3, q4, q5⟩ := q77 (l := v.list) (by omega) ⟨h, n + 1⟩
     dsimp only at q1 q2 q3 q4 q5
     have hrow : v.list ≠ [] -> h2.get (n + 1) = some (.cells (ax ar v.list) 35 true) := fun hne => by have := q5 ar hne; rw [jQ] at this; exact this
     have c2 := (q2 2 (by omega)).trans b2
     have cn := (q2 n (by omega)).trans bn
     have fin : ∀ (l : List Val) (t15 : AV) (h3 : Tr AB) (n3 : Nat), eS l = fN v s y -> l.length <= 100000 -> (∀ f ∈ l, smV f) -> OwnW 35 (n + 1) h3 n3 (l.map ar) t15 -> h3.get 2 = some (.cells [.i .i64 0, .i .i64 0, .s [], .nilz true, .nilz true] 35 false) ->
       (oC T0 138 87 [t15] ⟨h3, n3⟩ fun t138 sx20 => oH (aA T0 sx20.h 35 (.ptr 2 0) t138) sx20 fun sx21 => oV 6 (ac T0 sx21.h 35 (.ptr 2 0)) fun t6x3 => oZ T0 sx21 (.tup [t6x3, (.i .i64 0)]) (fun r2 => r2 = prA (dk v (s :: p) x))) := by
      intro l t15 h3 n3 hl hll hls o d2
      obtain ⟨σ', hrun, hn', hk'⟩ := g87 (σ := ⟨h3, n3⟩) o hll hls
      rw [hrun.eq, dz rfl ((hk' 2 (by omega)).trans d2), aG, uT, aa, xG hw hr hp hm, ozve, hl]; rfl
     rw [q1, jX, da, aa]
     by_cases hc : chI v s < 0
     ·obtain ⟨x', ⟨h3, n3⟩, ha, hw', hn', hk'⟩ := appVm (h := h2) (n := n2) (m := n + 1) (l := v.list) (l' := [y]) (own_rowV hrow (Nat.le_refl _) q4) q3 (by rw [List.length_singleton]; omega)
      have ha : aI T0 ⟨h2, n2⟩ 32 32 (cA v.list (n + 1)) (.lst [ar y]) = some (x', ⟨h3, n3⟩) := ha
      dsimp only at hw' hn' hk'
      rw [decide_eq_true hc, aE, dh cn, aa, xZ, aa, ha, aZ]
      refine fin (v.list ++ [y]) _ _ _ (by unfold fN; rw [if_neg k1, if_pos hc]) (by rw [List.length_append, List.length_singleton]; omega) (fun f hf => ?_) hw' ((hk' 2 (by omega)).trans c2)
      rcases List.mem_append.1 hf with hf | hf
      ·exact smf.2.2.2.2.1 f hf
      ·rw [List.mem_singleton.1 hf]; exact sy
     ·have hi := (hb (by omega)).2 k1
      obtain ⟨i, hi'⟩ : ∃ i : Nat, chI v s = (i : Nat) := ⟨(chI v s).toNat, by omega⟩
      have hil : i < v.list.length := by omega
      have hne : v.list ≠ [] := fun q => by rw [q] at hil; cases hil
      obtain ⟨w1, w2⟩ := own_set (m := n + 1) (n := n2) (y := y) (hrow hne) hil (Nat.le_refl _) (q4 hne)
      rw [decide_eq_false hc, ay, dh cn, aa, hi', fT elV.ty elV.sz hil, aa, w1, aG]
      refine fin (v.list.set i y) _ _ _ (by unfold fN; rw [if_neg k1, if_neg hc, hi']; rfl) (by rw [List.length_set]; omega) (fun f hf => ?_) w2 (by rw [ae _ _ (by omega)]; exact c2)
      rcases List.mem_or_eq_of_mem_set hf with hf | rfl
      ·exact smf.2.2.2.2.1 f hf
      ·exact sy
    by_cases k3 : s.kind_ = 3
    ·rw [decide_eq_true k3, qp, dh bn, aa, skx b3, aa, e76 sy, bX, aa]
     dsimp only
     rw [bk, aa]
     cases hm : mtB y s.name_ s.value_ with
     | false => rw [Bool.not_false, aE]; exact fail _ rfl ⟨k3, hm⟩
     | true => rw [Bool.not_true, ay]; exact go (fun q => by rw [hm] at q; cases q.2)
    ·rw [decide_eq_false k3, nQ, bB, aa, ay]; exact go (fun q => k3 q.1)
theorem e55 {p : List XStep} {v x : Val} (hp : ∀ s ∈ p, bq s = true) (hv : Gd v) (sx : smV x) {d : Nat} {σ : AS} {K : AV -> AS -> Prop} : oC T0 d 55 [ar v, .lst (p.map aj), ar x] σ K = K (prA (dk v p x)) σ := (c55 p v x hp hv sx).eq d σ K
def jy (v : Val) (p : List XStep) (x : Val) : PR :=
 if dA p = true /\ eA v = true /\ eA x = true then match dk v p x with
  | .er e => .er e
  | .ok w => if eA w = true then .ok w else .er 4
 else .er 1
theorem setV_no {v : Val} {p : List XStep} {x : Val} (h : ¬ (dA p = true /\ eA v = true /\ eA x = true)) : jy v p x = .er 1 := if_neg h
theorem setV_er {v : Val} {p : List XStep} {x : Val} {e : Int} (h : dA p = true /\ eA v = true /\ eA x = true) (hp : dk v p x = .er e) : jy v p x = .er e := by unfold jy; rw [if_pos h, hp]
theorem setV_ok {v : Val} {p : List XStep} {x w : Val} (h : dA p = true /\ eA v = true /\ eA x = true) (hp : dk v p x = .ok w) (hw : eA w = true) : jy v p x = .ok w := by unfold jy; rw [if_pos h, hp]; exact if_pos hw
theorem setV_big {v : Val} {p : List XStep} {x w : Val} (h : dA p = true /\ eA v = true /\ eA x = true) (hp : dk v p x = .ok w) (hw : eA w = false) : jy v p x = .er 4 := by unfold jy; rw [if_pos h, hp]; exact if_neg (by rw [hw]; decide)
theorem smSet {v x w : Val} {p : List XStep} (sm : smV v) (sx : smV x) (h : jy v p x = .ok w) : smV w := by
 unfold jy at h
 split at h
 ·rename_i hh
  cases hp : dk v p x with
  | er e => rw [hp] at h; cases h
  | ok u =>
   rw [hp] at h
   dsimp only at h
   split at h
   ·injection h with h; rw [<- h]
    exact xw p v x u (fun s hs => gg ((fr hh.1).2 s hs)) (pr sm hh.2.1) sx hp
   ·cases h
 ·cases h
theorem set_head {σ : AS} {f g : Nat} {a1 : AV} {p : List XStep} {v x : Val} {A B : AS -> Prop}
  (h0 : ac T0 σ.h 35 (.ptr 0 0) = some (ar v)) (h1 : ac T0 σ.h 35 (.ptr 1 0) = some (ar x))
  (ef : ∀ (d : Nat) (σ : AS) (K : AV -> AS -> Prop), oC T0 d f [a1] σ K = K (.b (dA p)) σ) (eg : ∀ (u : Val) (d : Nat) (σ : AS) (K : AV -> AS -> Prop), u = v ∨ u = x -> oC T0 d g [ar u] σ K = K (.b (eA u)) σ)
  (hA : ¬ (dA p = true /\ eA v = true /\ eA x = true) -> A σ) (hB : dA p = true /\ eA v = true /\ eA x = true -> B σ) :
  oC T0 11 f [a1] σ fun t11 sx4 =>
  oV 12 (ct .not t11) fun t12 =>
  oG [14, 15, 16] t12 false (fun (k : C3) => oV 14 (ac T0 sx4.h 35 (.ptr 0 0)) fun t14 => oC T0 15 g [t14] sx4 fun t15 sx5 => oV 16 (ct .not t15) fun t16 => k t14 t15 t16 sx5) sx4 fun t14 t15 t16 sx5 =>
  oV 17 (au t12 (some (.b true)) (some t16)) fun t17 =>
  oG [19, 20, 21] t17 false (fun (k : C3) => oV 19 (ac T0 sx5.h 35 (.ptr 1 0)) fun t19 => oC T0 20 g [t19] sx5 fun t20 sx6 => oV 21 (ct .not t20) fun t21 => k t19 t20 t21 sx6) sx5 fun t19 t20 t21 sx6 =>
  oV 22 (au t17 (some (.b true)) (some t21)) fun t22 => oI t22 (A sx6) (B sx6) := by
 rw [ef, bX, aa]
 cases hp : dA p with
 | false =>
  rw [Bool.not_false, qq, bk, aa, qq, bk, aa, aE]
  exact hA (fun q => by rw [hp] at q; cases q.1)
 | true =>
  rw [Bool.not_true, qr, h0, aa, eg v _ _ _ (.inl rfl), bX, aa]
  dsimp only
  rw [bB, aa]
  cases hv : eA v with
  | false =>
   rw [Bool.not_false, qq, bk, aa, aE]
   exact hA (fun q => by rw [hv] at q; cases q.2.1)
  | true =>
   rw [Bool.not_true, qr, h1, aa, eg x _ _ _ (.inr rfl), bX, aa]
   dsimp only
   rw [bB, aa]
   cases hx : eA x with
   | false => rw [Bool.not_false, aE]; exact hA (fun q => by rw [hx] at q; cases q.2.2)
   | true => rw [Bool.not_true, ay]; exact hB ⟨hp, hv, hx⟩
theorem c28 (v : Val) (p : List XStep) (x : Val) (sm : smV v) (sx : smV x) (hp : p.length <= 140737488351232) (ox : ∀ x ∈ p, bx x) : R T0 28 [ar v, .lst (p.map aj), ar x] (prA (jy v p x)) := by
 refine r28 _ _ _ (by rw [aw, aw]; rfl) (by rw [aw, aw]; rfl) ?_
 unfold w28
 dsimp only [av]
 rw [bt, bt, bt]
 simp only [Nat.zero_add, Nat.reduceAdd]
 have g0 : (((Tr.nil.put 0 (some (.cells (ar v).cells 35 false))).put 1 (some (.cells (ar x).cells 35 false))).put 2 (some (.cells [.i .i64 0, .i .i64 0, .s [], .nilz true, .nilz true] 35 false)) : Tr AB).get 0 = some (.cells (ar v).cells 35 false) := by
  rw [ae _ _ (by decide), ae _ _ (by decide), ah]
 have g1 : (((Tr.nil.put 0 (some (.cells (ar v).cells 35 false))).put 1 (some (.cells (ar x).cells 35 false))).put 2 (some (.cells [.i .i64 0, .i .i64 0, .s [], .nilz true, .nilz true] 35 false)) : Tr AB).get 1 = some (.cells (ar x).cells 35 false) := by
  rw [ae _ _ (by decide), ah]
 have g2 : (((Tr.nil.put 0 (some (.cells (ar v).cells 35 false))).put 1 (some (.cells (ar x).cells 35 false))).put 2 (some (.cells [.i .i64 0, .i .i64 0, .s [], .nilz true, .nilz true] 35 false)) : Tr AB).get 2 = some (.cells [.i .i64 0, .i .i64 0, .s [], .nilz true, .nilz true] 35 false) := ah _ _ _
 generalize (((Tr.nil.put 0 (some (.cells (ar v).cells 35 false))).put 1 (some (.cells (ar x).cells 35 false))).put 2 (some (.cells [.i .i64 0, .i .i64 0, .s [], .nilz true, .nilz true] 35 false)) : Tr AB) = h at g0 g1 g2 |-
 refine set_head (p := p) (v := v) (x := x) (σ := ⟨h, 3⟩) (dh g0) (dh g1) (fun d σ K => e13 hp ox) (fun u d σ K hu => by rcases hu with rfl | rfl; exact e54 sm.ok; exact e54 sx.ok) (fun hn => ?_) (fun hy => ?_)
 ·rw [kg, aa, jG rfl g2, aG, tu, aa, setV_no hn, wE]; rfl
 have hst := (fr hy.1).2
 have gd := pr sm hy.2.1
 dsimp only
 rw [dh g0, aa, dh g1, aa, e55 hst gd sx]
 cases hr : dk v p x with
 | er e =>
  have he := ow p v x e hr
  have c2 := ((ae (h.put 3 (some (.cells [.i .i64 0, .i .i64 0, .s [], .nilz true, .nilz true] 35 false))) (some (.cells (ar default).cells 35 false)) (show 2 ≠ 3 by omega)).trans (ae h _ (show 2 ≠ 3 by omega))).trans g2
  show oV 29 (aH 0 (.tup [ar default, .i .i64 e])) _
  rw [ex0, aa, show aH 1 (prA (.er e)) = some (.i .i64 e) from rfl, aa, bt, dz rfl (ah _ _ _), aG, dx, aa, decide_eq_true (by omega), aE, kg, aa, jG rfl c2, aG, tu, aa, setV_er hy hr, wE]; rfl
 | ok w =>
  have sw := xw p v x w (fun s hs => gg (hst s hs)) gd sx hr
  show oV 29 (aH 0 (.tup [ar w, .i .i64 0])) _
  rw [ex0, aa, show aH 1 (prA (.ok w)) = some (.i .i64 0) from rfl, aa, bt, dz rfl (ah _ _ _), aG, dx, aa, decide_eq_false (by decide), ay]
  dsimp only
  have b2 := ((ae (h.put 3 (some (.cells [.i .i64 0, .i .i64 0, .s [], .nilz true, .nilz true] 35 false))) (some (.cells (ar w).cells 35 false)) (show 2 ≠ 3 by omega)).trans (ae h _ (show 2 ≠ 3 by omega))).trans g2
  have b3 := ah (h.put 3 (some (.cells [.i .i64 0, .i .i64 0, .s [], .nilz true, .nilz true] 35 false))) 3 (some (.cells (ar w).cells 35 false))
  generalize (h.put 3 (some (.cells [.i .i64 0, .i .i64 0, .s [], .nilz true, .nilz true] 35 false))).put 3 (some (.cells (ar w).cells 35 false)) = H at b2 b3 |-
  rw [dh b3, aa, e54 sw.ok, bX, aa]
  cases hw : eA w with
  | false => rw [Bool.not_false, aE, kg, aa, jG rfl b2, aG, tu, aa, setV_big hy hr hw, wE]; rfl
  | true => rw [Bool.not_true, ay, dh b3, aa, e50 sw, dz rfl b2, aG, uT, aa, setV_ok hy hr hw, ozve]; rfl
theorem e28 {v : Val} {p : List XStep} {x : Val} (sm : smV v) (sx : smV x) (hp : p.length <= 140737488351232) (ox : ∀ x ∈ p, bx x) {d : Nat} {σ : AS} {K : AV -> AS -> Prop} : oC T0 d 28 [ar v, .lst (p.map aj), ar x] σ K = K (prA (jy v p x)) σ := (c28 v p x sm sx hp ox).eq d σ K
theorem prA_form (r : PR) (h : ∀ w, r = .ok w -> smV w) : ∃ w e, prA r = .tup [ar w, .i .i64 e] /\ smV w := by
 cases r with
 | ok w => exact ⟨w, 0, rfl, h w rfl⟩
 | er e => exact ⟨default, e, rfl, pE⟩
def jS (l : List Fld) (nm : List UInt8) : Option Val := (l.find? (fun f => f.name == nm)).map Fld.v
theorem fld_eta (f : Fld) : Fld.mk f.name f.v = f := by cases f; rfl
theorem iz {l : List Fld} {nm : List UInt8} {y : Val} (hd : Dif l) : jS l nm = some y ↔ Fld.mk nm y ∈ l := by
 unfold jS
 constructor
 ·intro h
  cases hf : l.find? (fun f => f.name == nm) with
  | none => rw [hf] at h; cases h
  | some f =>
   rw [hf] at h
   have h1 := List.mem_of_find?_eq_some hf
   have h2 := List.find?_some hf
   have h3 : f.name = nm := by simpa using h2
   injection h with h
   rw [<- h, <- h3, fld_eta]; exact h1
 ·intro h
  cases hf : l.find? (fun f => f.name == nm) with
  | none =>
   have := List.find?_eq_none.1 hf _ h
   simp [Fld.name] at this
  | some f =>
   have h1 := List.mem_of_find?_eq_some hf
   have h2 := List.find?_some hf
   have h3 : f.name = nm := by simpa using h2
   have h4 : f = Fld.mk nm y := hd.eq f h1 _ h h3
   rw [h4]; rfl
theorem zP {l l' : List Fld} {nm : List UInt8} (hd : Dif l) (hd' : Dif l') (h : ∀ y, Fld.mk nm y ∈ l ↔ Fld.mk nm y ∈ l') : jS l nm = jS l' nm := by
 cases h1 : jS l nm with
 | none =>
  cases h2 : jS l' nm with
  | none => rfl
  | some y => rw [(iz hd).2 ((h y).2 ((iz hd').1 h2))] at h1; cases h1
 | some y => rw [(iz hd').2 ((h y).1 ((iz hd).1 h1))]
theorem rS {α : Type} {q : α -> Bool} {l : List α} {d : α} (h : 0 <= cJ q l) : ∃ j : Nat, cJ q l = (j : Nat) /\ j < l.length /\ q (l.getD j d) = true /\ ∀ i, i < j -> q (l.getD i d) = false := by
 unfold cJ at h |-
 by_cases hf : l.findIdx q < l.length
 ·rw [if_pos hf]
  refine ⟨_, rfl, hf, ?_, fun i hi => ?_⟩
  ·have := List.findIdx_getElem (w := hf)
   rw [List.getD_eq_getElem?_getD, List.getElem?_eq_getElem hf]; exact this
  ·have := List.not_of_lt_findIdx hi
   rw [List.getD_eq_getElem?_getD, List.getElem?_eq_getElem (by omega)]; simpa using this
 ·rw [if_neg hf] at h; omega
theorem mS {α : Type} {q : α -> Bool} {l : List α} (h : cJ q l < 0) : ∀ x ∈ l, q x = false := by
 unfold cJ at h
 by_cases hf : l.findIdx q < l.length
 ·rw [if_pos hf] at h; omega
 ·intro x hx
  cases hq : q x with
  | false => rfl
  | true => exact absurd (List.findIdx_lt_length_of_exists ⟨x, hx, hq⟩) hf
theorem oR {α : Type} {q : α -> Bool} {l : List α} {d : α} {j : Nat} (hj : j < l.length) (h1 : q (l.getD j d) = true) (h2 : ∀ i, i < j -> q (l.getD i d) = false) : cJ q l = (j : Nat) := by
 have e : l.findIdx q = j := by
  rw [List.findIdx_eq hj]
  rw [List.getD_eq_getElem?_getD, List.getElem?_eq_getElem hj] at h1
  refine ⟨h1, fun i hi => ?_⟩
  have := h2 i hi
  rw [List.getD_eq_getElem?_getD, List.getElem?_eq_getElem (by omega)] at this
  exact this
 unfold cJ; rw [e, if_pos hj]
theorem idxB_no2 {α : Type} {q : α -> Bool} {l : List α} (h : ∀ x ∈ l, q x = false) : cJ q l = -1 := by
 unfold cJ
 rw [if_neg]
 intro hf
 have := List.findIdx_getElem (w := hf)
 rw [h _ (List.getElem_mem hf)] at this; cases this
theorem uf {v : Val} {x : XStep} (k : x.kind_ = 1) : bS v x = if v.kind = 5 then jS v.fields x.name_ else none := by
 have hc : chI v x = if v.kind = 5 then cJ (fun f : Fld => f.name == x.name_) v.fields else -1 := by
  unfold chI
  by_cases h5 : v.kind = 5
  ·rw [if_pos ⟨k, h5⟩, if_pos h5]
  ·rw [if_neg (fun q => h5 q.2), if_neg (fun q => by omega), if_neg (fun q => by omega), if_neg h5]
 unfold bS
 rw [hc, if_pos k]
 by_cases h5 : v.kind = 5
 ·rw [if_pos h5, if_pos h5]
  unfold jS
  cases hf : v.fields.find? (fun f => f.name == x.name_) with
  | none =>
   rw [idxB_no2 (fun f hm => by have := List.find?_eq_none.1 hf f hm; simpa using this)]; rfl
  | some f =>
   have hm := List.mem_of_find?_eq_some hf
   have hq := List.find?_some hf
   by_cases h0 : cJ (fun f : Fld => f.name == x.name_) v.fields < 0
   ·have := mS h0 f hm; rw [this] at hq; cases hq
   ·rw [if_neg h0]
    unfold cJ
    unfold cJ at h0
    have hlt : v.fields.findIdx (fun f : Fld => f.name == x.name_) < v.fields.length := List.findIdx_lt_length_of_exists ⟨f, hm, hq⟩
    rw [if_pos hlt, Int.toNat_natCast, List.getD_eq_getElem?_getD]
    have : v.fields[v.fields.findIdx (fun f : Fld => f.name == x.name_)]? = v.fields.find? (fun f => f.name == x.name_) := (List.find?_eq_getElem?_findIdx).symm
    rw [this, hf]; rfl
 ·rw [if_neg h5, if_neg h5]; rfl
theorem ue {v : Val} {x : XStep} (k : x.kind_ = 2) (h0 : 0 <= x.index_) : bS v x = if v.kind = 4 /\ x.index_ < (v.list.length : Nat) then some (v.list.getD x.index_.toNat default) else none := by
 have hc : chI v x = if v.kind = 4 /\ x.index_ < (v.list.length : Nat) then x.index_ else -1 := by
  unfold chI
  rw [if_neg (fun q => by omega)]
  by_cases h : v.kind = 4 /\ x.index_ < (v.list.length : Nat)
  ·rw [if_pos ⟨k, h⟩, if_pos h]
  ·rw [if_neg (fun q => h q.2), if_neg (fun q => by omega), if_neg h]
 unfold bS
 rw [hc, if_neg (show ¬ x.kind_ = 1 by omega)]
 by_cases h : v.kind = 4 /\ x.index_ < (v.list.length : Nat)
 ·rw [if_pos h, if_pos h, if_neg (by omega)]
 ·rw [if_neg h, if_neg h]; rfl
theorem iK (v : Val) (nm : List UInt8) (y : Val) : (fh v nm y).kind = 5 := rfl
theorem rk {v : Val} {nm : List UInt8} {y : Val} (h : Dif v.fields) : Dif (fh v nm y).fields := (pV h).perm (eM _).symm
theorem rj {v : Val} {nm : List UInt8} {y : Val} {f : Fld} (k : v.kind = 5) : f ∈ (fh v nm y).fields ↔ (f ∈ v.fields /\ f.name ≠ nm) ∨ f = .mk nm y := by
 show f ∈ mw _ ↔ _
 rw [(eM _).mem_iff, List.mem_append, List.mem_singleton]
 unfold fU
 rw [if_pos k, List.mem_filter]
 constructor
 ·rintro (⟨h1, h2⟩ | h)
  ·refine .inl ⟨h1, fun e => ?_⟩
   unfold dX at h2; rw [e] at h2; simp at h2
  ·exact .inr h
 ·rintro (⟨h1, h2⟩ | h)
  ·refine .inl ⟨h1, ?_⟩
   unfold dX; simp [h2]
  ·exact .inr h
theorem zB {v : Val} {nm : List UInt8} {y : Val} (k : v.kind = 5) (h : Dif v.fields) : jS (fh v nm y).fields nm = some y :=
 (iz (rk h)).2 ((rj k).2 (.inr rfl))
theorem tQ {v : Val} {nm nm' : List UInt8} {y : Val} (k : v.kind = 5) (h : Dif v.fields) (hn : nm' ≠ nm) : jS (fh v nm y).fields nm' = jS v.fields nm' := by
 refine zP (rk h) h (fun z => ?_)
 rw [rj k]
 constructor
 ·rintro (⟨h1, _⟩ | h1)
  ·exact h1
  ·injection h1 with e1 e2; exact absurd e1 hn
 ·exact fun h1 => .inl ⟨h1, hn⟩
theorem wm {l l' : List Fld} (hd : Dif l') (p : l.Perm l') : mw l = mw l' := rq hd ((eM l).trans p) (pD l)
theorem zM {v : Val} {nm : List UInt8} {u : Val} (k : v.kind = 5) : (fU (fh v nm u) nm).Perm (fU v nm) := by
 unfold fU
 rw [if_pos k, if_pos (iK v nm u)]
 refine ((eM _).filter _).trans ?_
 rw [List.filter_append]
 have e1 : (fU v nm).filter (dX nm) = v.fields.filter (dX nm) := by unfold fU; rw [if_pos k, List.filter_filter]; simp
 have e2 : [Fld.mk nm u].filter (dX nm) = [] := by simp [dX, Fld.name]
 rw [e1, e2, List.append_nil]
theorem we {v : Val} {nm : List UInt8} {u y : Val} (k : v.kind = 5) (h : Dif v.fields) : fh (fh v nm u) nm y = fh v nm y := by
 show ca (mw (fU (fh v nm u) nm ++ [Fld.mk nm y])) = ca (mw (fU v nm ++ [Fld.mk nm y]))
 rw [wm (pV (v := v) (nm := nm) (x := y) h) ((zM (u := u) k).append_right _)]
theorem fA {l : List Val} {j : Nat} {y : Val} (hj : j < l.length) : (l.set j y).getD j default = y := by
 rw [List.getD_eq_getElem?_getD, List.getElem?_set_self hj]; rfl
theorem gx {l : List Val} {j i : Nat} {y : Val} (hj : i ≠ j) : (l.set j y).getD i default = l.getD i default := by
 rw [List.getD_eq_getElem?_getD, List.getD_eq_getElem?_getD, List.getElem?_set_ne (by omega)]
theorem hI {l : List Val} {i : Nat} {y : Val} (hi : i < l.length) : (l ++ [y]).getD i default = l.getD i default := by
 rw [List.getD_eq_getElem?_getD, List.getD_eq_getElem?_getD, List.getElem?_append_left hi]
theorem fB {l : List Val} {y : Val} : (l ++ [y]).getD l.length default = y := by
 rw [List.getD_eq_getElem?_getD, List.getElem?_append_right (Nat.le_refl _), Nat.sub_self]; rfl
theorem ud {v : Val} {x : XStep} {j : Nat} (h : chI v x = (j : Nat)) (k : x.kind_ ≠ 1) : bS v x = some (v.list.getD j default) := by
 unfold bS; rw [h, if_neg (by omega), if_neg k]; rfl
theorem ift {α : Type} {c : Int} {a b : α} (h : c < 0) : (if c < 0 then a else b) = a := if_pos h
theorem zY {α : Type} {c : Int} {a b : α} (h : ¬ c < 0) : (if c < 0 then a else b) = b := if_neg h
theorem mF {v : Val} {s : XStep} (hs : bq s = true) (hw : ¬ wrK v s) (hr : ¬ (s.kind_ = 2 /\ ((v.list.length : Nat) : Int) < s.index_)) :
  (s.kind_ = 1 /\ v.kind = 5) ∨
  (s.kind_ = 2 /\ v.kind = 4 /\ ∃ j : Nat, s.index_ = (j : Nat) /\ ((j < v.list.length /\ chI v s = (j : Nat)) ∨ (j = v.list.length /\ chI v s = -1))) ∨
  (s.kind_ = 3 /\ v.kind = 4) := by
 have hk := (dI hs).1
 unfold wrK at hw
 by_cases k1 : s.kind_ = 1
 ·exact .inl ⟨k1, by omega⟩
 ·have k4 : v.kind = 4 := by omega
  by_cases k2 : s.kind_ = 2
  ·have hi : 0 <= s.index_ := by
    unfold bq at hs; rw [if_neg k1, if_pos k2] at hs
    simp only [Bool.and_eq_true, decide_eq_true_eq] at hs; omega
   refine .inr (.inl ⟨k2, k4, s.index_.toNat, by omega, ?_⟩)
   unfold chI
   rw [if_neg (fun q => k1 q.1)]
   by_cases hlt : s.index_ < (v.list.length : Nat)
   ·rw [if_pos ⟨k2, k4, hlt⟩]; exact .inl ⟨by omega, by omega⟩
   ·rw [if_neg (fun q => hlt q.2.2), if_neg (fun q => by omega)]; exact .inr ⟨by omega, rfl⟩
  ·exact .inr (.inr ⟨by omega, k4⟩)
theorem px {v y : Val} {s : XStep} (hs : bq s = true) (h : Gd v) (hw : ¬ wrK v s) (hr : ¬ (s.kind_ = 2 /\ ((v.list.length : Nat) : Int) < s.index_)) (hm : ¬ (s.kind_ = 3 /\ mtB y s.name_ s.value_ = false)) : bS (fN v s y) s = some y := by
 rcases mF hs hw hr with ⟨k1, k5⟩ | ⟨k2, k4, j, hj, hc⟩ | ⟨k3, k4⟩
 ·unfold fN; rw [if_pos k1, uf k1, if_pos (iK _ _ _)]; exact zB k5 h.here.1
 ·have n1 : ¬ s.kind_ = 1 := by omega
  unfold fN; rw [if_neg n1]
  rw [ue k2 (by omega), hj, Int.toNat_natCast]
  rcases hc with ⟨h1, h2⟩ | ⟨h1, h2⟩
  ·rw [h2, zY (by omega), Int.toNat_natCast, if_pos ⟨rfl, by show _ < ((List.length (v.list.set j y) : Nat) : Int); rw [List.length_set]; omega⟩]
   show some ((v.list.set j y).getD j default) = _
   rw [fA h1]
  ·rw [h2, ift (by omega), if_pos ⟨rfl, by show _ < ((List.length (v.list ++ [y]) : Nat) : Int); rw [List.length_append, List.length_singleton]; omega⟩]
   show some ((v.list ++ [y]).getD j default) = _
   rw [h1, fB]
 ·have n1 : ¬ s.kind_ = 1 := by omega
  have hy : mtB y s.name_ s.value_ = true := by
   cases hq : mtB y s.name_ s.value_ with
   | true => rfl
   | false => exact absurd ⟨k3, hq⟩ hm
  have hch : ∀ l, chI (eS l) s = cJ (fun e : Val => mtB e s.name_ s.value_) l := fun l => by
   unfold chI; rw [if_neg (fun q => n1 q.1), if_neg (fun q => by omega), if_pos ⟨k3, rfl⟩]; rfl
  have hcv : chI v s = cJ (fun e : Val => mtB e s.name_ s.value_) v.list := by
   unfold chI; rw [if_neg (fun q => n1 q.1), if_neg (fun q => by omega), if_pos ⟨k3, k4⟩]
  unfold fN; rw [if_neg n1]
  by_cases h0 : chI v s < 0
  ·rw [if_pos h0]
   have hn := mS (hcv ▸ h0)
   refine (ud (j := v.list.length) ?_ n1).trans ?_
   ·rw [hch]
    refine oR (d := default) (by rw [List.length_append, List.length_singleton]; omega) (by rw [fB]; exact hy) (fun i hi => ?_)
    rw [hI hi]; exact hn _ (aY hi)
   ·show some ((v.list ++ [y]).getD v.list.length default) = _
    rw [fB]
  ·rw [if_neg h0]
   obtain ⟨j, e1, e2, e3, e4⟩ := rS (d := default) (show 0 <= cJ (fun e : Val => mtB e s.name_ s.value_) v.list by rw [<- hcv]; omega)
   rw [hcv, e1, Int.toNat_natCast]
   refine (ud (j := j) ?_ n1).trans ?_
   ·rw [hch]
    refine oR (d := default) (by rw [List.length_set]; exact e2) (by rw [fA e2]; exact hy) (fun i hi => ?_)
    rw [gx (by omega)]; exact e4 i hi
   ·show some ((v.list.set j y).getD j default) = _
    rw [fA e2]
theorem jJ {v x w : Val} {s : XStep} {p : List XStep} (h : dk v (s :: p) x = .ok w) : ¬ wrK v s /\ ¬ (s.kind_ = 2 /\ ((v.list.length : Nat) : Int) < s.index_) /\ ∃ y, dk (gU v s) p x = .ok y /\ ¬ (s.kind_ = 3 /\ mtB y s.name_ s.value_ = false) /\ w = fN v s y := by
 rw [eO] at h
 split at h
 ·cases h
 ·rename_i h1
  split at h
  ·cases h
  ·rename_i h2
   split at h
   ·cases h
   ·rename_i y hy
    split at h
    ·cases h
    ·rename_i h3
     injection h with h
     exact ⟨h1, h2, y, hy, h3, h.symm⟩
theorem get_put : ∀ (p : List XStep) (v x w : Val), (∀ s ∈ p, bq s = true) -> Gd v -> dk v p x = .ok w -> gw w p = some x
 | [], v, x, w, _, _, h => by rw [jL] at h; injection h with h; rw [gu, h]
 | s :: p, v, x, w, hp, hv, h => by
  have hs := hp s (List.mem_cons_self ..)
  have hst := gg hs
  obtain ⟨h1, h2, y, h3, h4, rfl⟩ := jJ h
  rw [cO (px hs hv h1 h2 h4)]
  exact get_put p _ x y (fun t ht => hp t (List.mem_cons_of_mem _ ht)) (mX hv hst.1 hst.2) h3
theorem old_new {v y : Val} {s : XStep} (h : bS (fN v s y) s = some y) : gU (fN v s y) s = y := by
 unfold bS at h
 split at h
 ·cases h
 ·rename_i h0
  unfold gU; rw [if_pos (by omega)]; injection h
theorem new_new {v y z : Val} {s : XStep} (hs : bq s = true) (h : Gd v) (hw : ¬ wrK v s) (hr : ¬ (s.kind_ = 2 /\ ((v.list.length : Nat) : Int) < s.index_)) (hm : ¬ (s.kind_ = 3 /\ mtB y s.name_ s.value_ = false)) : fN (fN v s y) s z = fN v s z := by
 rcases mF hs hw hr with ⟨k1, k5⟩ | ⟨k2, k4, j, hj, hc⟩ | ⟨k3, k4⟩
 ·unfold fN; rw [if_pos k1, if_pos k1, if_pos k1]; exact we k5 h.here.1
 ·have n1 : ¬ s.kind_ = 1 := by omega
  have hch : ∀ l : List Val, j < l.length -> chI (eS l) s = (j : Nat) := fun l hl => by
   unfold chI; rw [if_neg (fun q => n1 q.1), if_pos ⟨k2, rfl, by show _ < ((List.length l : Nat) : Int); omega⟩]; exact hj
  unfold fN; rw [if_neg n1, if_neg n1, if_neg n1]
  rcases hc with ⟨h1, h2⟩ | ⟨h1, h2⟩
  ·rw [h2, zY (c := ((j : Nat) : Int)) (by omega), zY (c := ((j : Nat) : Int)) (by omega), hch _ (by rw [Int.toNat_natCast, List.length_set]; exact h1), zY (by omega), Int.toNat_natCast]
   show eS ((v.list.set j y).set j z) = _
   rw [List.set_set]
  ·rw [h2, ift (c := -1) (by omega), ift (c := -1) (by omega), hch _ (by rw [List.length_append, List.length_singleton]; omega), zY (by omega), Int.toNat_natCast]
   show eS ((v.list ++ [y]).set j z) = _
   rw [h1, List.set_append_right _ _ (Nat.le_refl _), Nat.sub_self]; rfl
 ·have n1 : ¬ s.kind_ = 1 := by omega
  have hy : mtB y s.name_ s.value_ = true := by
   cases hq : mtB y s.name_ s.value_ with
   | true => rfl
   | false => exact absurd ⟨k3, hq⟩ hm
  have hch : ∀ l, chI (eS l) s = cJ (fun e : Val => mtB e s.name_ s.value_) l := fun l => by
   unfold chI; rw [if_neg (fun q => n1 q.1), if_neg (fun q => by omega), if_pos ⟨k3, rfl⟩]; rfl
  have hcv : chI v s = cJ (fun e : Val => mtB e s.name_ s.value_) v.list := by
   unfold chI; rw [if_neg (fun q => n1 q.1), if_neg (fun q => by omega), if_pos ⟨k3, k4⟩]
  unfold fN; rw [if_neg n1, if_neg n1, if_neg n1]
  by_cases h0 : chI v s < 0
  ·rw [if_pos h0, if_pos h0]
   have hn := mS (hcv ▸ h0)
   have hc : chI (eS (v.list ++ [y])) s = (v.list.length : Nat) := by
    rw [hch]
    refine oR (d := default) (by rw [List.length_append, List.length_singleton]; omega) (by rw [fB]; exact hy) (fun i hi => ?_)
    rw [hI hi]; exact hn _ (aY hi)
   rw [hc, if_neg (by omega), Int.toNat_natCast]
   show eS ((v.list ++ [y]).set v.list.length z) = _
   rw [List.set_append_right _ _ (Nat.le_refl _), Nat.sub_self]; rfl
  ·rw [if_neg h0, if_neg h0]
   obtain ⟨j, e1, e2, e3, e4⟩ := rS (d := default) (show 0 <= cJ (fun e : Val => mtB e s.name_ s.value_) v.list by rw [<- hcv]; omega)
   rw [hcv, e1, Int.toNat_natCast]
   have hc : chI (eS (v.list.set j y)) s = (j : Nat) := by
    rw [hch]
    refine oR (d := default) (by rw [List.length_set]; exact e2) (by rw [fA e2]; exact hy) (fun i hi => ?_)
    rw [gx (by omega)]; exact e4 i hi
   rw [hc, if_neg (by omega), Int.toNat_natCast]
   show eS ((v.list.set j y).set j z) = _
   rw [List.set_set]
theorem xF : ∀ (p : List XStep) (v x w z a b : Val), (∀ s ∈ p, bq s = true) -> Gd v -> dk v p x = .ok w -> dk v p z = .ok a -> dk w p z = .ok b -> a = b
 | [], v, x, w, z, a, b, _, _, _, ha, hb => by
  rw [jL] at ha hb; injection ha with ha; injection hb with hb; rw [<- ha, <- hb]
 | s :: p, v, x, w, z, a, b, hp, hv, h, ha, hb => by
  have hs := hp s (List.mem_cons_self ..)
  have hst := gg hs
  obtain ⟨h1, h2, y, h3, h4, rfl⟩ := jJ h
  obtain ⟨_, _, ya, ha3, _, rfl⟩ := jJ ha
  obtain ⟨_, _, yb, hb3, _, rfl⟩ := jJ hb
  rw [old_new (px hs hv h1 h2 h4)] at hb3
  rw [xF p _ x y z ya yb (fun t ht => hp t (List.mem_cons_of_mem _ ht)) (mX hv hst.1 hst.2) h3 ha3 hb3, new_new hs hv h1 h2 h4]
def pre (p q : List XStep) : Prop := ∃ r, p = q ++ r
theorem uc {v y : Val} {s t : XStep} (hs : bq s = true) (ht : bq t = true) (ks : s.kind_ ≠ 3) (kt : t.kind_ ≠ 3) (hne : s ≠ t) (h : Gd v) (hw : ¬ wrK v s) (hr : ¬ (s.kind_ = 2 /\ ((v.list.length : Nat) : Int) < s.index_)) : bS (fN v s y) t = bS v t := by
 have hkt := (dI ht).1
 have eqs : s.kind_ = t.kind_ -> s.name_ = t.name_ -> s.index_ = t.index_ -> s.value_ = t.value_ -> s = t := by
  intro h1 h2 h3 h4; cases s; cases t; simp only at h1 h2 h3 h4; rw [h1, h2, h3, h4]
 rcases mF hs hw hr with ⟨k1, k5⟩ | ⟨k2, k4, j, hj, hc⟩ | ⟨k3, k4⟩
 ·unfold fN; rw [if_pos k1]
  by_cases t1 : t.kind_ = 1
  ·rw [uf t1, uf t1, if_pos (iK _ _ _), if_pos k5]
   refine tQ k5 h.here.1 (fun e => hne (eqs (by omega) e.symm ?_ ?_))
   ·unfold bq at hs ht; rw [if_pos k1] at hs; rw [if_pos t1] at ht
    simp only [Bool.and_eq_true, decide_eq_true_eq] at hs ht; omega
   ·unfold bq at hs ht; rw [if_pos k1] at hs; rw [if_pos t1] at ht
    simp only [Bool.and_eq_true, decide_eq_true_eq] at hs ht
    rw [List.eq_nil_of_length_eq_zero hs.2, List.eq_nil_of_length_eq_zero ht.2]
  ·have t2 : t.kind_ = 2 := by omega
   have hi : 0 <= t.index_ := by
    unfold bq at ht; rw [if_neg t1, if_pos t2] at ht
    simp only [Bool.and_eq_true, decide_eq_true_eq] at ht; omega
   rw [ue t2 hi, ue t2 hi, if_neg (fun q => by rw [iK] at q; omega), if_neg (fun q => by omega)]
 ·have n1 : ¬ s.kind_ = 1 := by omega
  unfold fN; rw [if_neg n1]
  by_cases t1 : t.kind_ = 1
  ·rw [uf t1, uf t1, if_neg (fun q => by exact absurd (show (4 : Int) = 5 from q) (by decide)), if_neg (by omega)]
  ·have t2 : t.kind_ = 2 := by omega
   have fs : s.name_ = [] /\ s.value_ = [] := by
    unfold bq at hs; rw [if_neg n1, if_pos k2] at hs
    simp only [Bool.and_eq_true, decide_eq_true_eq] at hs
    exact ⟨List.eq_nil_of_length_eq_zero (by omega), List.eq_nil_of_length_eq_zero (by omega)⟩
   have ft : 0 <= t.index_ /\ t.name_ = [] /\ t.value_ = [] := by
    unfold bq at ht; rw [if_neg t1, if_pos t2] at ht
    simp only [Bool.and_eq_true, decide_eq_true_eq] at ht
    exact ⟨by omega, List.eq_nil_of_length_eq_zero (by omega), List.eq_nil_of_length_eq_zero (by omega)⟩
   have hij : t.index_.toNat ≠ j := fun e => hne (eqs (by omega) (by rw [fs.1, ft.2.1]) (by omega) (by rw [fs.2, ft.2.2]))
   rw [ue t2 ft.1, ue t2 ft.1]
   rcases hc with ⟨h1, h2⟩ | ⟨h1, h2⟩
   ·rw [h2, zY (by omega), Int.toNat_natCast]
    have hl : (eS (v.list.set j y)).list.length = v.list.length := by show (v.list.set j y).length = _; rw [List.length_set]
    rw [hl]
    by_cases hb : t.index_ < (v.list.length : Nat)
    ·rw [if_pos ⟨rfl, hb⟩, if_pos ⟨k4, hb⟩]
     show some ((v.list.set j y).getD _ default) = _
     rw [gx hij]
    ·rw [if_neg (fun q => hb q.2), if_neg (fun q => hb q.2)]
   ·rw [h2, ift (by omega)]
    have hl : (eS (v.list ++ [y])).list.length = v.list.length + 1 := by show (v.list ++ [y]).length = _; rw [List.length_append, List.length_singleton]
    rw [hl]
    by_cases hb : t.index_ < (v.list.length : Nat)
    ·rw [if_pos ⟨rfl, by omega⟩, if_pos ⟨k4, hb⟩]
     show some ((v.list ++ [y]).getD _ default) = _
     rw [hI (by omega)]
    ·rw [if_neg (fun q => by have := q.2; omega), if_neg (fun q => hb q.2)]
 ·exact absurd k3 ks
theorem zZ {q : List XStep} {x : XStep} : gw (ca []) (x :: q) = none := by
 refine du ?_
 have hb := gR (v := ca []) (x := x)
 unfold bS
 by_cases h0 : chI (ca []) x < 0
 ·rw [if_pos h0]
 ·have hb := hb (by omega)
  by_cases k : x.kind_ = 1
  ·have : chI (ca []) x < ((0 : Nat) : Int) := hb.1 k; omega
  ·have : chI (ca []) x < ((0 : Nat) : Int) := hb.2 k; omega
theorem qt : ∀ (p q : List XStep) (v x w : Val), (∀ s ∈ p, bq s = true /\ s.kind_ ≠ 3) -> (∀ s ∈ q, bq s = true /\ s.kind_ ≠ 3) -> ¬ pre p q -> ¬ pre q p -> Gd v -> dk v p x = .ok w -> gw w q = gw v q
 | [], q, v, x, w, _, _, _, h2, _, _ => absurd ⟨q, rfl⟩ h2
 | s :: p, [], v, x, w, _, _, h1, _, _, _ => absurd ⟨s :: p, rfl⟩ h1
 | s :: p, t :: q, v, x, w, hp, hq, h1, h2, hv, h => by
  have hs := hp s (List.mem_cons_self ..)
  have ht := hq t (List.mem_cons_self ..)
  have hst := gg hs.1
  obtain ⟨g1, g2, y, g3, g4, rfl⟩ := jJ h
  by_cases e : s = t
  ·subst e
   have n1 : ¬ pre p q := fun ⟨r, hr⟩ => h1 ⟨r, by rw [hr]; rfl⟩
   have n2 : ¬ pre q p := fun ⟨r, hr⟩ => h2 ⟨r, by rw [hr]; rfl⟩
   have ih := qt p q _ x y (fun a ha => hp a (List.mem_cons_of_mem _ ha)) (fun a ha => hq a (List.mem_cons_of_mem _ ha)) n1 n2 (mX hv hst.1 hst.2) g3
   rw [cO (px hs.1 hv g1 g2 g4), ih]
   unfold gU
   by_cases h0 : 0 <= chI v s
   ·rw [if_pos h0]
    refine (cO ?_).symm
    unfold bS; rw [if_neg (by omega)]
   ·rw [if_neg h0]
    rw [du (show bS v s = none by unfold bS; rw [if_pos (by omega)])]
    unfold fP; rw [if_neg hs.2]
    cases q with
    | nil => exact absurd ⟨p, rfl⟩ n1
    | cons a q => exact zZ
  ·have hb := uc (y := y) hs.1 ht.1 hs.2 ht.2 e hv g1 g2
   cases hc : bS v t with
   | none => rw [du hc, du (hb.trans hc)]
   | some u => rw [cO hc, cO (hb.trans hc)]
structure XEdit where
 v_ : Val
 p_ : List XStep
 q_ : List XStep
 x_ : Val
 y_ : Val
def bh (a : XEdit) : AV := .agg ((ar a.v_).cells ++ (.lst (a.p_.map aj) :: .lst (a.q_.map aj) :: ((ar a.x_).cells ++ (ar a.y_).cells)))
def xK (a : XEdit) : Prop := okV a.v_ /\ (a.p_.length * 48 <= 140737488351232 /\ ∀ z ∈ a.p_, bx z) /\ (a.q_.length * 48 <= 140737488351232 /\ ∀ z ∈ a.q_, bx z) /\ okV a.x_ /\ okV a.y_
theorem opnV_45 (m : Nat) : OpV Tryz.prog 45 bh xK m := OpV.up (fun m => (OpV.struct Tryz.underlying45 (by kernel_rfl) (OpF.cons (z := 5) (z' := 12) rfl (by kernel_rfl) (tb m) (OpF.cons (z := 1) (z' := 11) rfl (by kernel_rfl) (xJ m) (OpF.cons (z := 1) (z' := 10) rfl (by kernel_rfl) (xJ m) (OpF.cons (z := 5) (z' := 5) rfl (by kernel_rfl) (tb m) (OpF.one (z := 5) rfl (by kernel_rfl) (tb m))))))).iso (fun p => ⟨p.1, p.2.1, p.2.2.1, p.2.2.2.1, p.2.2.2.2⟩) (fun b => (b.v_, b.p_, b.q_, b.x_, b.y_)) (fun _ => rfl) (fun _ => rfl) (fun _ h => h)) m
section
variable (a : XEdit)
theorem ed_v : aD T0 35 ((bh a).cells.drop 0) = some (ar a.v_) := by unfold bh; rw [aw a.v_]; rw [iU]; rfl
theorem ed_p : aD T0 22 ((bh a).cells.drop 5) = some (.lst (a.p_.map aj)) := by unfold bh; rw [aw a.v_]; exact ofc_22 _ _
theorem ed_q : aD T0 22 ((bh a).cells.drop 6) = some (.lst (a.q_.map aj)) := by unfold bh; rw [aw a.v_]; exact ofc_22 _ _
theorem ed_x : aD T0 35 ((bh a).cells.drop 7) = some (ar a.x_) := by unfold bh; rw [aw a.v_, aw a.x_]; rw [iU]; rfl
theorem ed_y : aD T0 35 ((bh a).cells.drop 12) = some (ar a.y_) := by unfold bh; rw [aw a.v_, aw a.x_, aw a.y_]; rw [iU]; rfl
theorem tH : (bh a).cells.length = 17 := by unfold bh; rw [aw a.v_, aw a.x_, aw a.y_]; rfl
theorem ed_idf : AV.idfree.idfrees [bh a] = true := by unfold bh; rw [aw a.v_, aw a.x_, aw a.y_]; rfl
theorem ed_nrm : AV.norm.norms [bh a] = [bh a] := by unfold bh; rw [aw a.v_, aw a.x_, aw a.y_]; rfl
variable {h : Tr AB} {e : Nat} {g : Bool}
theorem xQ (hg : h.get 0 = some (.cells (bh a).cells e g)) : ac T0 h 35 (.ptr 0 0) = some (ar a.v_) := by rw [cq hg (Nat.zero_le _)]; exact ed_v a
theorem nM (hg : h.get 0 = some (.cells (bh a).cells e g)) : ac T0 h 22 (.ptr 0 5) = some (.lst (a.p_.map aj)) := by rw [cq hg (by rw [tH]; decide)]; exact ed_p a
theorem rJ (hg : h.get 0 = some (.cells (bh a).cells e g)) : ac T0 h 22 (.ptr 0 6) = some (.lst (a.q_.map aj)) := by rw [cq hg (by rw [tH]; decide)]; exact ed_q a
theorem lx_ed (hg : h.get 0 = some (.cells (bh a).cells e g)) : ac T0 h 35 (.ptr 0 7) = some (ar a.x_) := by rw [cq hg (by rw [tH]; decide)]; exact ed_x a
theorem ly_ed (hg : h.get 0 = some (.cells (bh a).cells e g)) : ac T0 h 35 (.ptr 0 12) = some (ar a.y_) := by rw [cq hg (by rw [tH]; decide)]; exact ed_y a
end
def kZ (p : List XStep) : Bool := p.all (fun s => !decide (s.kind_ = 3))
theorem nH {p : List XStep} (h : kZ p = true) : ∀ s ∈ p, s.kind_ ≠ 3 := fun s hs => by
 have := List.all_eq_true.1 h s hs
 simpa using this
theorem c31 (p : List XStep) (hp : p.length <= 140737488351232) : R T0 31 [.lst (p.map aj)] (.b (kZ p)) := by
 refine r31 _ rfl rfl ?_
 unfold w31
 dsimp only [av]
 rw [eJ, aa, List.length_map]
 refine fj (X := Nat) (fun _ => .lst (p.map aj)) (fun _ => .i .i64 (p.length : Nat)) (fun j => .i .i64 (j : Nat)) (fun j σ => j <= p.length /\ (p.take j).all (fun s => !decide (s.kind_ = 3)) = true) (fun j => p.length - j) ?_ 0 _ ⟨Nat.zero_le _, rfl⟩
 rintro R j ⟨h, n⟩ ⟨hj, ha⟩ hR
 rw [da, aa]
 by_cases hj' : j < p.length
 ·have ia := yc (enc := aj) (l := p) (k := .i64) (n := (j : Int)) (by omega) (by omega) bD
  rw [Int.toNat_natCast] at ia
  have stx : aA T0 (h.put n (some (.cells [.i .i64 0, .s [], .i .i64 0, .s []] 50 false))) 50 (.ptr n 0) (aj (p.getD j default)) = some ((h.put n (some (.cells [.i .i64 0, .s [], .i .i64 0, .s []] 50 false))).put n (some (.cells (aj (p.getD j default)).cells 50 false))) :=
   dP (by kernel_rfl) (ah _ _ _) rfl rfl (cy _ _ rfl)
  rw [decide_eq_true (by omega), aE, ia, aa, gq, dQ, aa, bt, stx, aG, cw, aa, Nat.zero_add, sk0 (ah _ _ _), aa, bZ, aa]
  by_cases k3 : (p.getD j default).kind_ = 3
  ·rw [decide_eq_true k3, aE, gW]
   unfold kZ
   rw [dV (p := fun s : XStep => !decide (s.kind_ = 3)) (d := default) hj' (by rw [decide_eq_true k3]; rfl)]
  ·rw [decide_eq_false k3, ay, aC, cI (by omega) (by omega), aa]
   exact hR (j + 1) _ ⟨by omega, aO (d := default) ha hj' (by rw [decide_eq_false k3]; rfl)⟩ (by omega)
 ·rw [decide_eq_false (by omega), ay, gW]
  unfold kZ; rw [cu ha (by omega)]
theorem e31 {p : List XStep} (hp : p.length <= 140737488351232) {d : Nat} {σ : AS} {K : AV -> AS -> Prop} : oC T0 d 31 [.lst (p.map aj)] σ K = K (.b (kZ p)) σ := (c31 p hp).eq d σ K
theorem hp_pre {p q : List XStep} (h : hpB p q = false) : ¬ pre p q := by
 rintro ⟨r, rfl⟩
 unfold hpB at h
 rw [List.take_left, decide_eq_true rfl, List.length_append, decide_eq_true (Nat.le_add_right _ _)] at h
 cases h
theorem sQ {v x : Val} {p : List XStep} {e : Int} (h : jy v p x = .er e) : e ≠ 0 := by
 unfold jy at h
 split at h
 ·cases hp : dk v p x with
  | er e' => rw [hp] at h; injection h with h; have := ow p v x e' hp; omega
  | ok u =>
   rw [hp] at h
   dsimp only at h
   split at h
   ·cases h
   ·injection h with h; omega
 ·injection h with h; omega
theorem pJ {v x w : Val} {p : List XStep} (h : jy v p x = .ok w) : (dA p = true /\ eA v = true /\ eA x = true) /\ dk v p x = .ok w /\ eA w = true := by
 unfold jy at h
 split at h
 ·rename_i hh
  cases hp : dk v p x with
  | er e' => rw [hp] at h; cases h
  | ok u =>
   rw [hp] at h
   dsimp only at h
   split at h
   ·rename_i hw; injection h with h; subst h; exact ⟨hh, rfl, hw⟩
   ·cases h
 ·cases h
def prV : PR -> Val
 | .ok w => w
 | .er _ => default
def prE : PR -> Int
 | .ok _ => 0
 | .er e => e
theorem prA_eq (r : PR) : prA r = .tup [ar (prV r), .i .i64 (prE r)] := by cases r <;> rfl
theorem law_PathLenses (a : XEdit) (oa : xK a) : R T0 8 [bh a] (.b true) := by
 obtain ⟨ov, op, oq, ox, oy⟩ := oa
 have hp : a.p_.length <= 140737488351232 := by have := op.1; omega
 have hq : a.q_.length <= 140737488351232 := by have := oq.1; omega
 refine r8 _ (ed_idf a) (ed_nrm a) ?_
 unfold w8
 dsimp only [av]
 rw [bt]
 simp only [cw, Nat.zero_add]
 have g0 : (Tr.nil.put 0 (some (.cells (bh a).cells 45 false)) : Tr AB).get 0 = some (.cells (bh a).cells 45 false) := ah _ _ _
 generalize (Tr.nil.put 0 (some (.cells (bh a).cells 45 false)) : Tr AB) = h at g0 |-
 rw [aa, xQ a g0, aa, e22 ov, bX, aa]
 cases h1 : Ac a.v_ with
 | false => rw [Bool.not_false, gt, bk, aa, gt, bk, aa, gt, bk, aa, gt, bk, aa, aE, e12, gW]
 | true =>
 rw [Bool.not_true, kP, aa, lx_ed a g0, aa, e22 ox, bX, aa]
 dsimp only
 rw [bB, aa]
 cases h2 : Ac a.x_ with
 | false => rw [Bool.not_false, gt, bk, aa, gt, bk, aa, gt, bk, aa, aE, e12, gW]
 | true =>
 rw [Bool.not_true, kP, aa, ly_ed a g0, aa, e22 oy, bX, aa]
 dsimp only
 rw [bB, aa]
 cases h3 : Ac a.y_ with
 | false => rw [Bool.not_false, gt, bk, aa, gt, bk, aa, aE, e12, gW]
 | true =>
 rw [Bool.not_true, kP, aa, nM a g0, aa, e11 hp op.2, bX, aa]
 dsimp only
 rw [bB, aa]
 cases h4 : vD a.p_ with
 | false => rw [Bool.not_false, gt, bk, aa, aE, e12, gW]
 | true =>
 rw [Bool.not_true, kP, aa, rJ a g0, aa, e11 hq oq.2, bX, aa]
 dsimp only
 rw [bB, aa]
 cases h5 : vD a.q_ with
 | false => rw [Bool.not_false, aE, e12, gW]
 | true =>
 have sv := tB ov h1
 have sx := tB ox h2
 have sy := tB oy h3
 rw [Bool.not_true, ay, aa, xQ a g0, aa, aa, nM a g0, aa, aa, lx_ed a g0, aa, e28 sv sx hp op.2]
 cases hr : jy a.v_ a.p_ a.x_ with
 | er e =>
  have he := sQ hr
  show oV 52 (aH 0 (.tup [ar default, .i .i64 e])) _
  rw [ex0, aa, show aH 1 (prA (.er e)) = some (.i .i64 e) from rfl, aa, bt, dz rfl (ah _ _ _), aG, dx, aa, decide_eq_true he, aE, e12, gW]
 | ok w =>
 have sw := smSet sv sx hr
 obtain ⟨hy, hput, hvw⟩ := pJ hr
 have hst := (fr hy.1).2
 have gd := pr sv hy.2.1
 have hget := get_put a.p_ a.v_ a.x_ w hst gd hput
 show oV 52 (aH 0 (.tup [ar w, .i .i64 0])) _
 rw [ex0, aa, show aH 1 (prA (.ok w)) = some (.i .i64 0) from rfl, aa, bt, dz rfl (ah _ _ _), aG, dx, aa, decide_eq_false (by decide), ay]
 dsimp only
 have b0 := ((ae (h.put 1 (some (.cells [.i .i64 0, .i .i64 0, .s [], .nilz true, .nilz true] 35 false))) (some (.cells (ar w).cells 35 false)) (show 0 ≠ 1 by omega)).trans (ae h _ (show 0 ≠ 1 by omega))).trans g0
 have b1 := ah (h.put 1 (some (.cells [.i .i64 0, .i .i64 0, .s [], .nilz true, .nilz true] 35 false))) 1 (some (.cells (ar w).cells 35 false))
 generalize (h.put 1 (some (.cells [.i .i64 0, .i .i64 0, .s [], .nilz true, .nilz true] 35 false))).put 1 (some (.cells (ar w).cells 35 false)) = H at b0 b1 |-
 have hgr : od w a.p_ = .tup [ar a.x_, .b true] := by unfold od; rw [if_pos hy.1, hget]; rfl
 rw [dh b1, aa, aa, nM a b0, aa, e23 sw hp op.2, hgr, ex0, aa, ex1, aa, bt, dz rfl (ah _ _ _), aG]
 dsimp only
 simp only [Nat.reduceAdd]
 have c0 := ((ae (H.put 2 (some (.cells [.i .i64 0, .i .i64 0, .s [], .nilz true, .nilz true] 35 false))) (some (.cells (ar a.x_).cells 35 false)) (show 0 ≠ 2 by omega)).trans (ae H _ (show 0 ≠ 2 by omega))).trans b0
 have c1 := ((ae (H.put 2 (some (.cells [.i .i64 0, .i .i64 0, .s [], .nilz true, .nilz true] 35 false))) (some (.cells (ar a.x_).cells 35 false)) (show 1 ≠ 2 by omega)).trans (ae H _ (show 1 ≠ 2 by omega))).trans b1
 have c2 := ah (H.put 2 (some (.cells [.i .i64 0, .i .i64 0, .s [], .nilz true, .nilz true] 35 false))) 2 (some (.cells (ar a.x_).cells 35 false))
 generalize (H.put 2 (some (.cells [.i .i64 0, .i .i64 0, .s [], .nilz true, .nilz true] 35 false))).put 2 (some (.cells (ar a.x_).cells 35 false)) = G at c0 c1 c2 |-
 rw [bX, aa, Bool.not_true, gff_5, dh c2, aa, aa, lx_ed a c0, aa, e27 ox, bX, aa]
 dsimp only
 rw [bB, aa, Bool.not_true, qr, dh c1, aa, e30 sw.ok, hvw, bX, aa]
 dsimp only
 rw [bB, aa, Bool.not_true, ay, aa, xQ a c0, aa, aa, nM a c0, aa, aa, ly_ed a c0, aa, e28 sv sy hp op.2, prA_eq, ex0, aa, ex1, aa, bt, dz rfl (ah _ _ _), aG]
 dsimp only
 simp only [Nat.reduceAdd]
 obtain ⟨rA, hA⟩ : ∃ r, jy a.v_ a.p_ a.y_ = r := ⟨_, rfl⟩
 obtain ⟨rB, hB⟩ : ∃ r, jy w a.p_ a.y_ = r := ⟨_, rfl⟩
 rw [hA]
 have d0 := ((ae (G.put 3 (some (.cells [.i .i64 0, .i .i64 0, .s [], .nilz true, .nilz true] 35 false))) (some (.cells (ar (prV rA)).cells 35 false)) (show 0 ≠ 3 by omega)).trans (ae G _ (show 0 ≠ 3 by omega))).trans c0
 have d1 := ((ae (G.put 3 (some (.cells [.i .i64 0, .i .i64 0, .s [], .nilz true, .nilz true] 35 false))) (some (.cells (ar (prV rA)).cells 35 false)) (show 1 ≠ 3 by omega)).trans (ae G _ (show 1 ≠ 3 by omega))).trans c1
 have d3 := ah (G.put 3 (some (.cells [.i .i64 0, .i .i64 0, .s [], .nilz true, .nilz true] 35 false))) 3 (some (.cells (ar (prV rA)).cells 35 false))
 generalize (G.put 3 (some (.cells [.i .i64 0, .i .i64 0, .s [], .nilz true, .nilz true] 35 false))).put 3 (some (.cells (ar (prV rA)).cells 35 false)) = F at d0 d1 d3 |-
 rw [dh d1, aa, aa, nM a d0, aa, aa, ly_ed a d0, aa, e28 sw sy hp op.2, hB, prA_eq, ex0, aa, ex1, aa, bt, dz rfl (ah _ _ _), aG]
 dsimp only
 simp only [Nat.reduceAdd]
 have f0 := ((ae (F.put 4 (some (.cells [.i .i64 0, .i .i64 0, .s [], .nilz true, .nilz true] 35 false))) (some (.cells (ar (prV rB)).cells 35 false)) (show 0 ≠ 4 by omega)).trans (ae F _ (show 0 ≠ 4 by omega))).trans d0
 have f1 := ((ae (F.put 4 (some (.cells [.i .i64 0, .i .i64 0, .s [], .nilz true, .nilz true] 35 false))) (some (.cells (ar (prV rB)).cells 35 false)) (show 1 ≠ 4 by omega)).trans (ae F _ (show 1 ≠ 4 by omega))).trans d1
 have f3 := ((ae (F.put 4 (some (.cells [.i .i64 0, .i .i64 0, .s [], .nilz true, .nilz true] 35 false))) (some (.cells (ar (prV rB)).cells 35 false)) (show 3 ≠ 4 by omega)).trans (ae F _ (show 3 ≠ 4 by omega))).trans d3
 have f4 := ah (F.put 4 (some (.cells [.i .i64 0, .i .i64 0, .s [], .nilz true, .nilz true] 35 false))) 4 (some (.cells (ar (prV rB)).cells 35 false))
 generalize (F.put 4 (some (.cells [.i .i64 0, .i .i64 0, .s [], .nilz true, .nilz true] 35 false))).put 4 (some (.cells (ar (prV rB)).cells 35 false)) = D at f0 f1 f3 f4 |-
 clear g0 b0 b1 c0 c1 c2 d0 d1 d3
 have twice : ∀ (A B : AS -> Prop), B ⟨D, 5⟩ ->
   (oV 98 (af T0 .eql 26 true (.i .i64 (prE rA)) (.i .i64 0)) fun t98 =>
    oG [100, 101] t98 true (fun (k : C2) => oV 101 (af T0 .eql 26 true (.i .i64 (prE rB)) (.i .i64 0)) fun t101 => k (.i .i64 (prE rB)) t101 ⟨D, 5⟩) ⟨D, 5⟩ fun t100 t101 sx21 =>
    oV 102 (au t98 (some t101) (some (.b false))) fun t102 =>
    oG [104, 105, 106, 107] t102 true (fun (k : C4) => oV 104 (ac T0 sx21.h 35 (.ptr 3 0)) fun t104 => oV 105 (ac T0 sx21.h 35 (.ptr 4 0)) fun t105 => oC T0 106 27 [t104, t105] sx21 fun t106 sx22 => oV 107 (ct .not t106) fun t107 => k t104 t105 t106 t107 sx22) sx21 fun t104 t105 t106 t107 sx22 =>
    oV 108 (au t102 (some t107) (some (.b false))) fun t108 => oI t108 (A sx22) (B sx22)) := by
  intro A B hBB
  rw [bZ, aa]
  cases rA with
  | er e => rw [decide_eq_false (show ¬ prE (.er e) = 0 from sQ hA), gft_2, bB, aa, nQ, bB, aa, ay]; exact hBB
  | ok u =>
   rw [decide_eq_true (show prE (.ok u) = 0 from rfl), gtt_2, bZ, aa]
   dsimp only
   rw [bk, aa]
   cases rB with
   | er e => rw [decide_eq_false (show ¬ prE (.er e) = 0 from sQ hB), nQ, bB, aa, ay]; exact hBB
   | ok u' =>
    obtain ⟨-, hpa, -⟩ := pJ hA
    obtain ⟨-, hpb, -⟩ := pJ hB
    have e := xF a.p_ a.v_ a.x_ w a.y_ u u' hst gd hput hpa hpb
    subst e
    have su := smSet sv sy hA
    rw [decide_eq_true (show prE (.ok u) = 0 from rfl), qp, dh f3, aa, dh f4, aa]
    show oC T0 106 27 [ar u, ar u] _ _
    rw [e27 su.ok, bX, aa]
    dsimp only
    rw [bk, aa, Bool.not_true, ay]; exact hBB
 refine twice _ _ ?_
 clear twice f3 f4
 dsimp only
 rw [aa, nM a f0, aa, e31 hp]
 cases k1 : kZ a.p_ with
 | false => rw [kO, bB, aa, nP, bB, aa, nP, bB, aa, ay, e12, gW]
 | true =>
 rw [gM, aa, rJ a f0, aa, e31 hq]
 dsimp only
 rw [bk, aa]
 cases k2 : kZ a.q_ with
 | false => rw [nP, bB, aa, nP, bB, aa, ay, e12, gW]
 | true =>
 rw [vo, aa, nM a f0, aa, aa, rJ a f0, aa, e15 hp hq, bX, aa]
 dsimp only
 rw [bk, aa]
 cases k3 : hpB a.p_ a.q_ with
 | true => rw [Bool.not_true, nP, bB, aa, ay, e12, gW]
 | false =>
 rw [Bool.not_false, vo, aa, rJ a f0, aa, aa, nM a f0, aa, e15 hq hp, bX, aa]
 dsimp only
 rw [bk, aa]
 cases k4 : hpB a.q_ a.p_ with
 | true => rw [Bool.not_true, ay, e12, gW]
 | false =>
 have heq : od w a.q_ = od a.v_ a.q_ := by
  unfold od
  by_cases hb : dA a.q_ = true
  ·rw [if_pos hb, if_pos hb]
   have hstq := (fr hb).2
   rw [qt a.p_ a.q_ a.v_ a.x_ w (fun s hs => ⟨hst s hs, nH k1 s hs⟩) (fun s hs => ⟨hstq s hs, nH k2 s hs⟩) (hp_pre k3) (hp_pre k4) gd hput]
  ·rw [if_neg hb, if_neg hb]
 obtain ⟨u, b, hu, su⟩ := gtR_form (if dA a.q_ = true then gw a.v_ a.q_ else none) (fun w h => by
    split at h
    ·exact yG sv h
    ·cases h)
 have hu : od a.v_ a.q_ = .tup [ar u, .b b] := hu
 rw [Bool.not_false, aE, aa, xQ a f0, aa, aa, rJ a f0, aa, e23 sv hq oq.2, hu, ex0, aa, ex1, aa, bt, dz rfl (ah _ _ _), aG]
 dsimp only
 simp only [Nat.reduceAdd]
 have i0 := ((ae (D.put 5 (some (.cells [.i .i64 0, .i .i64 0, .s [], .nilz true, .nilz true] 35 false))) (some (.cells (ar u).cells 35 false)) (show 0 ≠ 5 by omega)).trans (ae D _ (show 0 ≠ 5 by omega))).trans f0
 have i1 := ((ae (D.put 5 (some (.cells [.i .i64 0, .i .i64 0, .s [], .nilz true, .nilz true] 35 false))) (some (.cells (ar u).cells 35 false)) (show 1 ≠ 5 by omega)).trans (ae D _ (show 1 ≠ 5 by omega))).trans f1
 have i5 := ah (D.put 5 (some (.cells [.i .i64 0, .i .i64 0, .s [], .nilz true, .nilz true] 35 false))) 5 (some (.cells (ar u).cells 35 false))
 generalize (D.put 5 (some (.cells [.i .i64 0, .i .i64 0, .s [], .nilz true, .nilz true] 35 false))).put 5 (some (.cells (ar u).cells 35 false)) = E at i0 i1 i5 |-
 rw [dh i1, aa, aa, rJ a i0, aa, e23 sw hq oq.2, heq, hu, ex0, aa, ex1, aa, bt, dz rfl (ah _ _ _), aG]
 dsimp only
 simp only [Nat.reduceAdd]
 have j5 := ((ae (E.put 6 (some (.cells [.i .i64 0, .i .i64 0, .s [], .nilz true, .nilz true] 35 false))) (some (.cells (ar u).cells 35 false)) (show 5 ≠ 6 by omega)).trans (ae E _ (show 5 ≠ 6 by omega))).trans i5
 have j6 := ah (E.put 6 (some (.cells [.i .i64 0, .i .i64 0, .s [], .nilz true, .nilz true] 35 false))) 6 (some (.cells (ar u).cells 35 false))
 generalize (E.put 6 (some (.cells [.i .i64 0, .i .i64 0, .s [], .nilz true, .nilz true] 35 false))).put 6 (some (.cells (ar u).cells 35 false)) = I at j5 j6 |-
 have eb : af T0 .eql 4 false (.b b) (.b b) = some (.b true) := by rw [zo (by kernel_rfl)]; simp
 rw [eb, aa, gM, dh j5, aa, dh j6, aa, e27 su.ok]
 dsimp only
 rw [bk, aa, vp, e12]
 dsimp only
 rw [bk, aa, gW]
end Go.Proofs.YtmfhmlhaofpeiaaGreatDoor.Ev
