/- Texts of this session's, one behind the other. -/
import Derived.Test.YtmfhmlhaofpeiaaGreatDoorEvLg
import Derived.Test.YtmfhmlhaofpeiaaGreatDoorEvFd
import Derived.Test.YtmfhmlhaofpeiaaGreatDoorEvLh
import Derived.Test.YtmfhmlhaofpeiaaGreatDoorEv1
import Derived.Test.YtmfhmlhaofpeiaaGreatDoorEv2
import Derived.Test.YtmfhmlhaofpeiaaGreatDoorEv3
import Derived.Test.YtmfhmlhaofpeiaaGreatDoorEv4
import Derived.Test.YtmfhmlhaofpeiaaGreatDoorSh
import Derived.Test.YtmfhmlhaofpeiaaGreatDoorEvX
import Derived.Test.YtmfhmlhaofpeiaaGreatDoorEvT
import Derived.Test.YtmfhmlhaofpeiaaGreatDoorEvTy
import Derived.Test.YtmfhmlhaofpeiaaGreatDoorEvF
import Derived.Test.YtmfhmlhaofpeiaaGreatDoorV0
import Derived.Test.YtmfhmlhaofpeiaaGreatDoorOp
import Derived.Test.YtmfhmlhaofpeiaaGreatDoorV6
import Derived.Test.YtmfhmlhaofpeiaaGreatDoorEvG
import Derived.Test.YtmfhmlhaofpeiaaGreatDoorEvLi
import Derived.Test.YtmfhmlhaofpeiaaGreatDoorEvFe
import Derived.Test.YtmfhmlhaofpeiaaGreatDoorEvFf
import Derived.Test.YtmfhmlhaofpeiaaGreatDoorEvFb
import Derived.Test.YtmfhmlhaofpeiaaGreatDoorEvFc
import Derived.Test.YtmfhmlhaofpeiaaGreatDoorW1
namespace Go.Proofs.YtmfhmlhaofpeiaaGreatDoor.Ev
open Go Go.RowKit
set_option linter.unusedSimpArgs false
set_option linter.unusedVariables false
set_option maxRecDepth 100000
def quL : List UInt8 -> UQ
 | [] => .bad
 | c :: r => if c.toNat = 34 then unqL [] r else .bad
theorem quL_c (c : UInt8) (r : List UInt8) : quL (c :: r) = if c.toNat = 34 then unqL [] r else .bad := rfl
def brL (t : List UInt8) : Option (XStep × List UInt8) :=
 if nmL t = 0 then none else
 match t.drop (nmL t) with
 | [] => none
 | d :: r => if d.toNat = 93 then (if canB (t.take (nmL t)) = true then some (⟨2, [], (min (fZ 0 (t.take (nmL t))) 65 : Nat), []⟩, r) else none)
  else if d.toNat = 61 then
   match quL r with
   | .ok acc r' => match r' with
    | [] => none
    | c :: r'' => if c.toNat = 93 then some (⟨3, t.take (nmL t), 0, acc⟩, r'') else none
   | _ => none
  else none
theorem unq_len (n : Nat) : ∀ (acc t a r : List UInt8), t.length <= n -> unqL acc t = .ok a r -> r.length < t.length /\ a.length + r.length <= acc.length + t.length := by
 induction n with
 | zero =>
  intro acc t a r ht h
  obtain rfl : t = [] := List.eq_nil_of_length_eq_zero (by omega)
  rw [unqL] at h; cases h
 | succ n ih =>
  intro acc t a r ht h
  cases t with
  | nil => rw [unqL] at h; cases h
  | cons c t =>
   rw [List.length_cons] at ht
   rw [unqL.eq_def] at h
   simp only [] at h
   split at h
   ·injection h with h1 h2; subst h1; subst h2; rw [List.length_cons]; omega
   ·split at h
    ·cases h
    ·split at h
     ·have := ih _ t a r (by omega) h
      rw [List.length_append] at this
      simp only [List.length_cons, List.length_nil] at this |-
      omega
     ·cases t with
      | nil => simp only [] at h; cases h
      | cons d t =>
       rw [List.length_cons] at ht
       simp only [] at h
       split at h
       ·have := ih _ t a r (by omega) h
        rw [List.length_append] at this
        simp only [List.length_cons, List.length_nil] at this |-
        omega
       ·split at h
        ·have := ih _ t a r (by omega) h
         rw [List.length_append] at this
         simp only [List.length_cons, List.length_nil] at this |-
         omega
        ·cases h
theorem qu_len {t a r : List UInt8} (h : quL t = .ok a r) : r.length + 1 < t.length /\ a.length + r.length < t.length := by
 cases t with
 | nil => unfold quL at h; cases h
 | cons c t =>
  rw [quL_c] at h
  split at h
  ·have := unq_len t.length [] t a r (Nat.le_refl _) h
   simp only [List.length_cons, List.length_nil] at this |-; omega
  ·cases h
theorem nm_drop {t r : List UInt8} {d : UInt8} (h : t.drop (nmL t) = d :: r) : nmL t + r.length + 1 = t.length := by
 have h1 := congrArg List.length h
 rw [List.length_drop, List.length_cons] at h1
 have := nmL_le t
 omega
theorem okI {n : Int} (h1 : -1000 <= n) (h2 : n <= 1000) : (Lit.int .i64 n).wf = true := by
 show (decide ((-9223372036854775808 : Int) <= n) && decide (n <= 9223372036854775807)) = true
 rw [decide_eq_true (by omega), decide_eq_true (by omega)]; rfl
theorem brL_ok {t r : List UInt8} {x : XStep} (hl : t.length <= 140737488351232) (h : brL t = some (x, r)) : r.length < t.length /\ bz x := by
 unfold brL at h
 split at h
 ·cases h
 ·split at h
  ·cases h
  ·rename_i d r' hd
   have hn := nm_drop hd
   have ht : (t.take (nmL t)).length <= 140737488351232 := by rw [List.length_take]; omega
   split at h
   ·split at h
    ·injection h with h; injection h with h1 h2; subst h1; subst h2
     exact ⟨by omega, okI (by show (-1000 : Int) <= 2; omega) (by show (2 : Int) <= 1000; omega), Nat.zero_le _, okI (by show (-1000 : Int) <= (min (fZ 0 (t.take (nmL t))) 65 : Nat); omega) (by show ((min (fZ 0 (t.take (nmL t))) 65 : Nat) : Int) <= 1000; omega), Nat.zero_le _⟩
    ·cases h
   ·split at h
    ·split at h
     ·rename_i acc r2 hq
      have hq' := qu_len hq
      split at h
      ·cases h
      ·split at h
       ·injection h with h; injection h with h1 h2; subst h1; subst h2
        simp only [List.length_cons] at hq'
        exact ⟨by omega, okI (by show (-1000 : Int) <= 3; omega) (by show (3 : Int) <= 1000; omega), ht, okI (by show (-1000 : Int) <= 0; omega) (by show (0 : Int) <= 1000; omega), by show acc.length <= _; omega⟩
       ·cases h
     ·cases h
    ·cases h
def x0 : XStep := ⟨0, [], 0, []⟩
theorem xB : (AB.cells [.i .i64 0, .s [], .i .i64 0, .s []] 50 false) = .cells (am x0).cells 50 false := rfl
theorem brL_0 {t : List UInt8} (h0 : nmL t = 0) : brL t = none := by unfold brL; rw [if_pos h0]
theorem brL_b {t : List UInt8} (h0 : ¬ nmL t = 0) (hd : t.drop (nmL t) = []) : brL t = none := by unfold brL; rw [if_neg h0, hd]
theorem brL_i {t r : List UInt8} {d : UInt8} (h0 : ¬ nmL t = 0) (hd : t.drop (nmL t) = d :: r) (h1 : d.toNat = 93) : brL t = if canB (t.take (nmL t)) = true then some (⟨2, [], (min (fZ 0 (t.take (nmL t))) 65 : Nat), []⟩, r) else none := by
 unfold brL; rw [if_neg h0, hd]; simp only []; rw [if_pos h1]
theorem brL_e {t r : List UInt8} {d : UInt8} (h0 : ¬ nmL t = 0) (hd : t.drop (nmL t) = d :: r) (h1 : ¬ d.toNat = 93) (h2 : ¬ d.toNat = 61) : brL t = none := by
 unfold brL; rw [if_neg h0, hd]; simp only []; rw [if_neg h1, if_neg h2]
theorem brL_q {t r : List UInt8} {d : UInt8} (h0 : ¬ nmL t = 0) (hd : t.drop (nmL t) = d :: r) (h1 : ¬ d.toNat = 93) (h2 : d.toNat = 61) : brL t = (match quL r with | .ok acc r' => (match r' with | [] => none | c :: r'' => if c.toNat = 93 then some (⟨3, t.take (nmL t), 0, acc⟩, r'') else none) | _ => none) := by
 conv => lhs; unfold brL
 rw [if_neg h0, hd]; simp only []; rw [if_neg h1, if_pos h2]
def fdL (u : List UInt8) : Option (XStep × List UInt8) := if nmL u = 0 then none else some (⟨1, u.take (nmL u), 0, []⟩, u.drop (nmL u))
def stL (first : Bool) : List UInt8 -> Option (XStep × List UInt8)
 | [] => none
 | c :: r => if c.toNat = 91 then brL r else if first = true then fdL (c :: r) else if c.toNat = 46 then fdL r else none
def rM : Nat -> List XStep -> List UInt8 -> Option (List XStep)
 | _, acc, [] => some acc
 | 0, _, _ :: _ => none
 | n + 1, acc, c :: r => match stL acc.isEmpty (c :: r) with
  | none => none
  | some p => rM n (acc ++ [p.1]) p.2
theorem rY (b : Bool) (c : UInt8) (r : List UInt8) : stL b (c :: r) = if c.toNat = 91 then brL r else if b = true then fdL (c :: r) else if c.toNat = 46 then fdL r else none := rfl
theorem wX (n : Nat) (acc : List XStep) (c : UInt8) (r : List UInt8) : rM (n + 1) acc (c :: r) = match stL acc.isEmpty (c :: r) with
  | none => none
  | some p => rM n (acc ++ [p.1]) p.2 := rfl
theorem fdL_ok {u r : List UInt8} {x : XStep} (hl : u.length <= 140737488351232) (h : fdL u = some (x, r)) : r.length < u.length /\ bz x := by
 unfold fdL at h
 split at h
 ·cases h
 ·rename_i h0
  have := nmL_le u
  injection h with h; injection h with h1 h2; subst h1; subst h2
  refine ⟨by rw [List.length_drop]; omega, okI (by show (-1000 : Int) <= 1; omega) (by show (1 : Int) <= 1000; omega), ?_, okI (by show (-1000 : Int) <= 0; omega) (by show (0 : Int) <= 1000; omega), Nat.zero_le _⟩
  show (u.take (nmL u)).length <= _
  rw [List.length_take]; omega
theorem wJ {t r : List UInt8} {b : Bool} {x : XStep} (hl : t.length <= 140737488351232) (h : stL b t = some (x, r)) : r.length < t.length /\ bz x := by
 cases t with
 | nil => cases h
 | cons c t =>
  rw [List.length_cons] at hl
  rw [rY] at h
  split at h
  ·have := brL_ok (by omega) h; exact ⟨by rw [List.length_cons]; omega, this.2⟩
  ·split at h
   ·exact fdL_ok (by rw [List.length_cons]; omega) h
   ·split at h
    ·have := fdL_ok (by omega) h; exact ⟨by rw [List.length_cons]; omega, this.2⟩
    ·cases h
theorem Ag (n : Nat) : ∀ (m : Nat) (acc : List XStep) (t : List UInt8), t.length <= 140737488351232 -> t.length <= n -> t.length <= m -> rM n acc t = rM m acc t := by
 induction n with
 | zero =>
  intro m acc t hl hn hm
  obtain rfl : t = [] := List.eq_nil_of_length_eq_zero (by omega)
  cases m <;> rfl
 | succ n ih =>
  intro m acc t hl hn hm
  cases t with
  | nil => cases m <;> rfl
  | cons c r =>
   cases m with
   | zero => rw [List.length_cons] at hm; omega
   | succ m =>
    rw [wX, wX]
    cases h : stL acc.isEmpty (c :: r) with
    | none => rfl
    | some p =>
     have h1 := (wJ (x := p.1) (r := p.2) hl h).1
     simp only [List.length_cons] at h1 hn hm hl
     exact ih m _ _ (by omega) (by omega) (by omega)
theorem par_some {acc : List XStep} {t r : List UInt8} {x : XStep} (hl : t.length <= 140737488351232) (h : stL acc.isEmpty t = some (x, r)) : rM t.length acc t = rM r.length (acc ++ [x]) r := by
 cases t with
 | nil => cases h
 | cons c t =>
  have h1 := (wJ hl h).1
  rw [List.length_cons] at h1 |-
  rw [wX, h]
  rw [List.length_cons] at hl
  exact Ag t.length r.length (acc ++ [x]) r (by omega) (by omega) (Nat.le_refl _)
def paL (s : List UInt8) : Option (List XStep) := rM s.length [] s
theorem agg_of {T : Tab} {t : Nat} (h : (T.ty t).map eJ = some true) : ∃ d, T.ty t = some d /\ eJ d = true := by
 cases hq : T.ty t with
 | none => rw [hq] at h; cases h
 | some d => rw [hq] at h; exact ⟨d, rfl, by simpa using h⟩
theorem st50n {h : Tr AB} {id : Nat} {y : XStep} (x : XStep) : az T0 (h.put id (some (.cells (am y).cells 50 false))) 50 (.ptr id 0) (am x) = some ((h.put id (some (.cells (am y).cells 50 false))).put id (some (.cells (am x).cells 50 false))) := kP sz_50 rfl rfl rfl
theorem par_next {s : List UInt8} {acc : List XStep} {x : XStep} {t r : List UInt8} (hl : t.length <= 140737488351232) (hs : stL acc.isEmpty t = some (x, r)) (hp : rM t.length acc t = paL s) (hok : ∀ y ∈ acc, bz y) (hb : acc.length + t.length <= s.length) :
  r.length < t.length /\ (∀ y ∈ acc ++ [x], bz y) /\ rM r.length (acc ++ [x]) r = paL s /\ (acc ++ [x]).length + r.length <= s.length := by
 have h1 := wJ hl hs
 refine ⟨h1.1, fun y hy => ?_, by rw [<- par_some hl hs]; exact hp, by rw [List.length_append]; simp only [List.length_cons, List.length_nil]; omega⟩
 rcases List.mem_append.1 hy with hy | hy
 ·exact hok y hy
 ·rw [List.mem_singleton.1 hy]; exact h1.2
def txL : Nat -> List XStep -> List UInt8
 | _, [] => []
 | i, x :: l => stP i x ++ txL (i + 1) l
def stops (r : List UInt8) : Prop := ∀ c l, r = c :: l -> nmC c = false
theorem tS {nm r : List UInt8} (h : nm.all nmC = true) (hr : stops r) : nmL (nm ++ r) = nm.length := by
 unfold nmL
 induction nm with
 | nil =>
  cases r with
  | nil => rfl
  | cons c l => rw [List.nil_append, List.takeWhile_cons_of_neg (by rw [hr c l rfl]; exact Bool.false_ne_true)]
 | cons c nm ih =>
  simp only [List.all_cons, Bool.and_eq_true] at h
  rw [List.cons_append, List.takeWhile_cons_of_pos h.1, List.length_cons, ih h.2, List.length_cons]
theorem xb {s : List UInt8} (h : nmB s = true) : s.all nmC = true /\ 0 < s.length := by
 unfold nmB at h
 simp only [Bool.and_eq_true, decide_eq_true_eq] at h
 exact ⟨h.1.1, h.1.2⟩
theorem nl {a b : List UInt8} : (a ++ b).take a.length = a := List.take_left' rfl
theorem drop_left' {a b : List UInt8} : (a ++ b).drop a.length = b := List.drop_left' rfl
theorem xe {c : UInt8} (h : c.toNat = 91 ∨ c.toNat = 46 ∨ c.toNat = 61 ∨ c.toNat = 93) : nmC c = false := decide_eq_false (by omega)
theorem AH : ∀ n, n <= 64 -> (dec n).all nmC = true /\ canB (dec n) = true /\ fZ 0 (dec n) = n /\ 0 < (dec n).length := by decide
theorem unq_app (v : List UInt8) : ∀ (acc r : List UInt8), (∀ c ∈ v, c.toNat = 10 ∨ (32 <= c.toNat /\ c.toNat <= 126)) -> unqL acc (v.flatMap quC ++ 34 :: r) = .ok (acc ++ v) r := by
 induction v with
 | nil =>
  intro acc r _
  rw [List.flatMap_nil, List.nil_append, List.append_nil, unqL.eq_def]
  simp only []; rw [if_pos (by decide)]
 | cons c v ih =>
  intro acc r hv
  have hc := hv c (List.mem_cons_self ..)
  have ih' := ih (acc ++ [c]) r (fun d hd => hv d (List.mem_cons_of_mem _ hd))
  rw [List.append_assoc, List.singleton_append] at ih'
  rw [List.flatMap_cons]
  by_cases h1 : c.toNat = 10
  ·rw [show quC c = [92, 110] from if_pos h1]
   have e : c = 10 := UInt8.toNat_inj.1 h1
   subst e
   rw [show ([92, 110] : List UInt8) ++ v.flatMap quC ++ 34 :: r = 92 :: 110 :: (v.flatMap quC ++ 34 :: r) from rfl, unqL.eq_def]
   simp only []
   rw [if_neg (by decide), if_neg (by decide), if_neg (by decide)]
   rw [if_neg (by decide), if_pos (by decide)]
   exact ih'
  ·by_cases h2 : c.toNat = 34 ∨ c.toNat = 92
   ·rw [show quC c = [92, c] by unfold quC; rw [if_neg h1, if_pos h2], show [92, c] ++ v.flatMap quC ++ 34 :: r = 92 :: c :: (v.flatMap quC ++ 34 :: r) from rfl, unqL.eq_def]
    simp only []
    rw [if_neg (by decide), if_neg (by decide), if_neg (by decide), if_pos h2]
    exact ih'
   ·rw [show quC c = [c] by unfold quC; rw [if_neg h1, if_neg h2], show [c] ++ v.flatMap quC ++ 34 :: r = c :: (v.flatMap quC ++ 34 :: r) from rfl, unqL.eq_def]
    simp only []
    rw [if_neg (by omega), if_neg (by omega), if_pos (by omega)]
    exact ih'
theorem unq_inv (n : Nat) : ∀ (acc t a r : List UInt8), t.length <= n -> unqL acc t = .ok a r -> ∃ v, a = acc ++ v /\ t = v.flatMap quC ++ 34 :: r := by
 induction n with
 | zero =>
  intro acc t a r ht h
  obtain rfl : t = [] := List.eq_nil_of_length_eq_zero (by omega)
  rw [unqL] at h; cases h
 | succ n ih =>
  intro acc t a r ht h
  cases t with
  | nil => rw [unqL] at h; cases h
  | cons c t =>
   rw [List.length_cons] at ht
   rw [unqL.eq_def] at h
   simp only [] at h
   split at h
   ·rename_i hc
    have e : c = 34 := UInt8.toNat_inj.1 hc
    injection h with h1 h2; subst h1; subst h2
    exact ⟨[], (List.append_nil _).symm, by rw [e]; rfl⟩
   ·rename_i h34
    split at h
    ·cases h
    ·rename_i hrng
     split at h
     ·rename_i h92
      obtain ⟨v, h1, h2⟩ := ih _ t a r (by omega) h
      refine ⟨c :: v, by rw [h1, List.append_assoc]; rfl, ?_⟩
      rw [List.flatMap_cons, show quC c = [c] by unfold quC; rw [if_neg (by omega), if_neg (by omega)]]
      rw [h2]; rfl
     ·rename_i h92
      have e92 : c = 92 := UInt8.toNat_inj.1 (by show c.toNat = 92; omega)
      cases t with
      | nil => simp only [] at h; cases h
      | cons d t =>
       rw [List.length_cons] at ht
       simp only [] at h
       split at h
       ·rename_i hd
        obtain ⟨v, h1, h2⟩ := ih _ t a r (by omega) h
        refine ⟨d :: v, by rw [h1, List.append_assoc]; rfl, ?_⟩
        rw [List.flatMap_cons, show quC d = [92, d] by unfold quC; rw [if_neg (by omega), if_pos hd]]
        rw [h2, e92]; rfl
       ·split at h
        ·rename_i hd
         have e110 : d = 110 := UInt8.toNat_inj.1 hd
         obtain ⟨v, h1, h2⟩ := ih _ t a r (by omega) h
         refine ⟨10 :: v, by rw [h1, List.append_assoc]; rfl, ?_⟩
         rw [List.flatMap_cons, show quC 10 = [92, 110] from rfl]
         rw [h2, e92, e110]; rfl
        ·cases h
theorem zU {x : XStep} (h : bt x = true) : (x.kind_ = 1 -> nmB x.name_ = true /\ x.index_ = 0 /\ x.value_ = []) /\ (x.kind_ = 2 -> x.name_ = [] /\ x.value_ = []) /\ (x.kind_ = 3 -> nmB x.name_ = true /\ x.index_ = 0 /\ txB x.value_ = true) := by
 unfold bt at h
 split at h
 ·rename_i k
  simp only [Bool.and_eq_true, decide_eq_true_eq] at h
  exact ⟨fun _ => ⟨h.1.1, h.1.2, List.length_eq_zero_iff.mp h.2⟩, fun q => by omega, fun q => by omega⟩
 ·split at h
  ·simp only [Bool.and_eq_true, decide_eq_true_eq] at h
   exact ⟨fun q => by omega, fun _ => ⟨List.length_eq_zero_iff.mp h.1.2, List.length_eq_zero_iff.mp h.2⟩, fun q => by omega⟩
  ·split at h
   ·simp only [Bool.and_eq_true, decide_eq_true_eq] at h
    exact ⟨fun q => by omega, fun q => by omega, fun _ => ⟨h.1.1, h.1.2, h.2⟩⟩
   ·cases h
theorem tx_chars {s : List UInt8} (h : txB s = true) : ∀ c ∈ s, c.toNat = 10 ∨ (32 <= c.toNat /\ c.toNat <= 126) := by
 intro c hc
 unfold txB at h
 simp only [Bool.and_eq_true, List.all_eq_true] at h
 have := h.1 c hc
 unfold ga at this
 have := of_decide_eq_true this
 omega
theorem zu {nm r : List UInt8} (h : nmB nm = true) (hr : stops r) : fdL (nm ++ r) = some (⟨1, nm, 0, []⟩, r) := by
 obtain ⟨h1, h2⟩ := xb h
 unfold fdL
 rw [tS h1 hr, if_neg (by omega), nl, drop_left']
theorem st_app {x : XStep} {i : Nat} {r : List UInt8} (h : bt x = true) (hr : stops r) : stL (decide (i = 0)) (stP i x ++ r) = some (x, r) := by
 obtain ⟨hk, -, -, -, hi⟩ := dy h
 obtain ⟨m1, m2, m3⟩ := zU h
 obtain ⟨k, nm, ix, v⟩ := x
 dsimp only at hk hi m1 m2 m3
 rcases hk with rfl | rfl | rfl
 ·obtain ⟨g1, rfl, rfl⟩ := m1 rfl
  obtain ⟨q1, q2⟩ := xb g1
  unfold stP
  dsimp only
  rw [if_neg (by decide), if_neg (by decide)]
  by_cases h0 : i = 0
  ·rw [if_pos h0]
   cases nm with
   | nil => cases q2
   | cons c nm =>
    have hc : c.toNat ≠ 91 := fun e => by
     simp only [List.all_cons, Bool.and_eq_true] at q1
     rw [xe (.inl e)] at q1; cases q1.1
    rw [List.cons_append, rY, if_neg hc, if_pos (decide_eq_true h0)]
    exact zu g1 hr
  ·rw [if_neg h0, List.append_assoc, List.singleton_append, rY, if_neg (by decide), if_neg (by rw [decide_eq_false h0]; exact Bool.false_ne_true), if_pos (by rfl)]
   exact zu g1 hr
 ·obtain ⟨rfl, rfl⟩ := m2 rfl
  have hi' := hi rfl
  obtain ⟨d1, d2, d3, d4⟩ := AH ix.toNat (by omega)
  unfold stP
  dsimp only
  rw [if_pos rfl, List.append_assoc, List.append_assoc, List.singleton_append, List.singleton_append, rY, if_pos (by rfl)]
  have hn : nmL (dec ix.toNat ++ 93 :: r) = (dec ix.toNat).length := tS d1 (fun c l e => by injection e with e1 e2; exact xe (.inr (.inr (.inr (by rw [<- e1]; rfl)))))
  rw [brL_i (d := 93) (r := r) (by rw [hn]; omega) (by rw [hn]; exact drop_left') rfl, hn, nl, if_pos d2, d3]
  congr 3
  omega
 ·obtain ⟨g1, rfl, g3⟩ := m3 rfl
  obtain ⟨q1, q2⟩ := xb g1
  unfold stP
  dsimp only
  rw [if_neg (by decide), if_pos rfl]
  rw [show [91] ++ nm ++ [61] ++ quS v ++ [93] ++ r = 91 :: (nm ++ 61 :: (quS v ++ 93 :: r)) by simp only [List.append_assoc, List.singleton_append, List.cons_append, List.nil_append]]
  rw [rY, if_pos (by rfl)]
  have hn : nmL (nm ++ 61 :: (quS v ++ 93 :: r)) = nm.length := tS q1 (fun c l e => by injection e with e1 e2; exact xe (.inr (.inr (.inl (by rw [<- e1]; rfl)))))
  have hq : quL (quS v ++ 93 :: r) = .ok v (93 :: r) := by
   unfold quS
   rw [List.append_assoc, List.append_assoc, List.singleton_append, List.singleton_append, quL_c, if_pos (by rfl), unq_app v [] _ (tx_chars g3), List.nil_append]
  rw [brL_q (d := 61) (r := quS v ++ 93 :: r) (by rw [hn]; omega) (by rw [hn]; exact drop_left') (by decide) rfl, hq, hn, nl]
  simp only []
  rw [if_pos (by rfl)]
theorem AJ {w : List UInt8} (h : canB w = true) (hv : fZ 0 w <= 64) : dec (fZ 0 w) = w := by
 unfold canB at h
 simp only [Bool.and_eq_true, Bool.or_eq_true, decide_eq_true_eq, Bool.not_eq_true', decide_eq_false_iff_not] at h
 obtain ⟨hd, hc⟩ := h
 have dg : ∀ c ∈ w, 48 <= c.toNat /\ c.toNat <= 57 := fun c hc' => of_decide_eq_true (List.all_eq_true.1 hd c hc')
 have u8 : ∀ (c : UInt8) (n : Nat), c.toNat = n -> UInt8.ofNat n = c := fun c n e => by subst e; exact UInt8.ofNat_toNat
 match w, hc, dg, hv with
 | [], hc, _, _ => simp at hc
 | [a], _, dg, _ =>
  have ha := dg a (List.mem_cons_self ..)
  show dec (0 * 10 + (a.toNat - 48)) = [a]
  unfold dec
  rw [if_pos (by omega), u8 a _ (by omega)]
 | [a, b], hc, dg, _ =>
  have ha := dg a (List.mem_cons_self ..)
  have hb := dg b (List.mem_cons_of_mem _ (List.mem_cons_self ..))
  have h0 : ¬ a.toNat = 48 := by
   rcases hc with hc | hc
   ·simp at hc
   ·exact hc.2
  show dec ((0 * 10 + (a.toNat - 48)) * 10 + (b.toNat - 48)) = [a, b]
  unfold dec
  rw [if_neg (by omega), u8 a _ (by omega), u8 b _ (by omega)]
 | a :: b :: c :: r, hc, dg, hv =>
  have ha := dg a (List.mem_cons_self ..)
  have h0 : ¬ a.toNat = 48 := by
   rcases hc with hc | hc
   ·simp at hc
   ·exact hc.2
  have hge := xN r (lK (lK (lK 0 a) b) c)
  have e : fZ 0 (a :: b :: c :: r) = fZ (lK (lK (lK 0 a) b) c) r := rfl
  rw [e] at hv
  simp only [pz] at hge hv
  omega
theorem rH {s r : List UInt8} {d : UInt8} {k : Nat} (h : s.drop k = d :: r) : s = s.take k ++ d :: r := by rw [<- h, List.take_append_drop]
theorem st_inv {t r : List UInt8} {i : Nat} {x : XStep} (h : stL (decide (i = 0)) t = some (x, r)) (hx : bt x = true) : t = stP i x ++ r := by
 have fd : ∀ {u r : List UInt8} {x : XStep}, fdL u = some (x, r) -> u = x.name_ ++ r /\ x.kind_ = 1 := fun {u r x} h => by
  unfold fdL at h
  split at h
  ·cases h
  ·injection h with h; injection h with h1 h2; subst h1; subst h2
   exact ⟨(List.take_append_drop _ _).symm, rfl⟩
 cases t with
 | nil => cases h
 | cons c t =>
  rw [rY] at h
  split at h
  ·rename_i h91
   have ec : c = 91 := UInt8.toNat_inj.1 h91
   by_cases h0 : nmL t = 0
   ·rw [brL_0 h0] at h; cases h
   ·cases hd : t.drop (nmL t) with
    | nil => rw [brL_b h0 hd] at h; cases h
    | cons d r1 =>
     have ht := rH hd
     by_cases h1 : d.toNat = 93
     ·have ed : d = 93 := UInt8.toNat_inj.1 h1
      rw [brL_i h0 hd h1] at h
      split at h
      ·rename_i hc
       injection h with h; injection h with h2 h3; subst h2; subst h3
       have hi := (dy hx).2.2.2.2 rfl
       dsimp only at hi
       have hv : fZ 0 (t.take (nmL t)) <= 64 := by omega
       unfold stP
       rw [if_pos rfl]
       show c :: t = [91] ++ dec ((min (fZ 0 (t.take (nmL t))) 65 : Nat) : Int).toNat ++ [93] ++ r1
       rw [Int.toNat_natCast, Nat.min_eq_left (by omega), AJ hc hv, ec]
       conv => lhs; rw [ht, ed]
       simp only [List.append_assoc, List.singleton_append, List.cons_append, List.nil_append]
      ·cases h
     ·by_cases h2 : d.toNat = 61
      ·have ed : d = 61 := UInt8.toNat_inj.1 h2
       rw [brL_q h0 hd h1 h2] at h
       cases hq : quL r1 with
       | bad => rw [hq] at h; cases h
       | op a => rw [hq] at h; cases h
       | ok a r' =>
        rw [hq] at h
        cases r' with
        | nil => cases h
        | cons c3 r2 =>
         simp only [] at h
         split at h
         ·rename_i h93
          have e93 : c3 = 93 := UInt8.toNat_inj.1 h93
          injection h with h; injection h with h3 h4; subst h3; subst h4
          have hr1 : r1 = quS a ++ 93 :: r2 := by
           cases r1 with
           | nil => unfold quL at hq; cases hq
           | cons q r1 =>
            rw [quL_c] at hq
            split at hq
            ·rename_i h34
             have e34 : q = 34 := UInt8.toNat_inj.1 h34
             obtain ⟨v, g1, g2⟩ := unq_inv r1.length [] r1 a _ (Nat.le_refl _) hq
             rw [List.nil_append] at g1; subst g1
             unfold quS
             rw [e34, g2, e93]
             simp only [List.append_assoc, List.singleton_append, List.cons_append, List.nil_append]
            ·cases hq
          unfold stP
          rw [if_neg (by show ¬ (3 : Int) = 2; decide), if_pos rfl]
          show c :: t = [91] ++ t.take (nmL t) ++ [61] ++ quS a ++ [93] ++ r2
          conv => lhs; rw [ht, ec, ed, hr1]
          simp only [List.append_assoc, List.singleton_append, List.cons_append, List.nil_append]
         ·cases h
      ·rw [brL_e h0 hd h1 h2] at h; cases h
  ·split at h
   ·rename_i h0
    obtain ⟨f1, f2⟩ := fd h
    unfold stP
    rw [if_neg (by omega), if_neg (by omega), if_pos (of_decide_eq_true h0)]; exact f1
   ·rename_i h0
    split at h
    ·rename_i h46
     have ec : c = 46 := UInt8.toNat_inj.1 h46
     obtain ⟨f1, f2⟩ := fd h
     unfold stP
     rw [if_neg (by omega), if_neg (by omega), if_neg (fun q => h0 (decide_eq_true q)), ec, f1]; rfl
    ·cases h
mutual
def lfV : Val -> Int -> Int
 | .mk _ _ s l fs, m => cR fs (cI l (m - 1 - (s.length : Nat)))
def lfF : Fld -> Int -> Int
 | .mk nm v, m => lfV v (m - (nm.length : Nat))
def cI : List Val -> Int -> Int
 | [], m => m
 | v :: vs, m => cI vs (if 0 <= m then lfV v m else m)
def cR : List Fld -> Int -> Int
 | [], m => m
 | f :: fs, m => cR fs (if 0 <= m then lfF f m else m)
end
theorem qK (v : Val) (m : Int) : lfV v m = cR v.fields (cI v.list (m - 1 - (v.s.length : Nat))) := by cases v; rw [lfV]; rfl
theorem lP (f : Fld) (m : Int) : lfF f m = lfV f.v (m - (f.name.length : Nat)) := by cases f; rw [lfF]; rfl
theorem vq (a b : List Val) : ∀ m, cI (a ++ b) m = cI b (cI a m) := by
 induction a with
 | nil => intro m; rw [List.nil_append, cI]
 | cons x a ih => intro m; rw [List.cons_append, cI, cI, ih]
theorem vt (a b : List Fld) : ∀ m, cR (a ++ b) m = cR b (cR a m) := by
 induction a with
 | nil => intro m; rw [List.nil_append, cR]
 | cons x a ih => intro m; rw [List.cons_append, cR, cR, ih]
theorem vp (l : List Val) : ∀ m, m < 0 -> cI l m = m := by
 induction l with
 | nil => intro m _; rw [cI]
 | cons x a ih => intro m h; rw [cI, if_neg (by omega), ih m h]
theorem vr (l : List Fld) : ∀ m, m < 0 -> cR l m = m := by
 induction l with
 | nil => intro m _; rw [cR]
 | cons x a ih => intro m h; rw [cR, if_neg (by omega), ih m h]
theorem Am {l : List Val} {j : Nat} {m : Int} (hj : j < l.length) (h : 0 <= cI (l.take j) m) : cI (l.take (j + 1)) m = lfV (l.getD j default) (cI (l.take j) m) := by
 rw [dF hj, vq, cI, cI, if_pos h]
theorem Ao {l : List Fld} {j : Nat} {m : Int} (hj : j < l.length) (h : 0 <= cR (l.take j) m) : cR (l.take (j + 1)) m = lfV (l.getD j default).v (cR (l.take j) m - ((l.getD j default).name.length : Nat)) := by
 rw [dF hj, vt, cR, cR, if_pos h, lP]
theorem An {l : List Val} {j : Nat} {m : Int} (h : cI (l.take j) m < 0) : cI l m = cI (l.take j) m := by
 conv => lhs; rw [<- List.take_append_drop j l, vq, vp _ _ h]
theorem Ap {l : List Fld} {j : Nat} {m : Int} (h : cR (l.take j) m < 0) : cR l m = cR (l.take j) m := by
 conv => lhs; rw [<- List.take_append_drop j l, vt, vr _ _ h]
theorem lf_bnd (k : Nat) : ∀ (v : Val) (m : Int), SizeOf.sizeOf v <= k -> okV v -> (-140737488360000 : Int) <= m -> m <= 1000000 -> (-300000000000000 : Int) <= lfV v m /\ lfV v m <= 1000000 := by
 induction k with
 | zero => intro v m h; obtain ⟨_, _, _, _, _⟩ := v; simp only [Val.mk.sizeOf_spec] at h; omega
 | succ k ih =>
  intro v m hsz ov h1 h2
  obtain ⟨ls, ll, lf, ol, of_⟩ := dA ov
  rw [qK]
  have A : ∀ (l : List Val) (m : Int), (∀ x ∈ l, SizeOf.sizeOf x <= k /\ okV x) -> (-300000000000000 : Int) <= m -> m <= 1000000 -> (-300000000000000 : Int) <= cI l m /\ cI l m <= 1000000 := by
   intro l
   induction l with
   | nil => intro m _ a b; rw [cI]; exact ⟨a, b⟩
   | cons x l il =>
    intro m hx a b
    rw [cI]
    by_cases h0 : 0 <= m
    ·rw [if_pos h0]
     have hx1 := hx x (List.mem_cons_self ..)
     have := ih x m hx1.1 hx1.2 (by omega) b
     exact il _ (fun y hy => hx y (List.mem_cons_of_mem _ hy)) this.1 this.2
    ·rw [if_neg h0]; exact il _ (fun y hy => hx y (List.mem_cons_of_mem _ hy)) a b
  have B : ∀ (l : List Fld) (m : Int), (∀ x ∈ l, SizeOf.sizeOf x.v <= k /\ okF x) -> (-300000000000000 : Int) <= m -> m <= 1000000 -> (-300000000000000 : Int) <= cR l m /\ cR l m <= 1000000 := by
   intro l
   induction l with
   | nil => intro m _ a b; rw [cR]; exact ⟨a, b⟩
   | cons x l il =>
    intro m hx a b
    rw [cR]
    by_cases h0 : 0 <= m
    ·rw [if_pos h0, lP]
     have hx1 := hx x (List.mem_cons_self ..)
     have hx2 := ml hx1.2
     have := ih x.v (m - (x.name.length : Nat)) hx1.1 hx2.2 (by omega) (by omega)
     exact il _ (fun y hy => hx y (List.mem_cons_of_mem _ hy)) this.1 this.2
    ·rw [if_neg h0]; exact il _ (fun y hy => hx y (List.mem_cons_of_mem _ hy)) a b
  have a := A v.list (m - 1 - (v.s.length : Nat)) (fun x hx => ⟨by have := dp v hx; omega, ol x hx⟩) (by omega) (by omega)
  exact B v.fields _ (fun x hx => ⟨by have := cr v hx; omega, of_ x hx⟩) a.1 a.2
theorem lfVs_bnd {v : Val} {m : Int} (ov : okV v) (h1 : (-140737488360000 : Int) <= m) (h2 : m <= 1000000) (j : Nat) : (-300000000000000 : Int) <= cI (v.list.take j) (m - 1 - (v.s.length : Nat)) /\ cI (v.list.take j) (m - 1 - (v.s.length : Nat)) <= 1000000 := by
 obtain ⟨ls, ll, lf, ol, of_⟩ := dA ov
 have A : ∀ (l : List Val) (m : Int), (∀ x ∈ l, okV x) -> (-300000000000000 : Int) <= m -> m <= 1000000 -> (-300000000000000 : Int) <= cI l m /\ cI l m <= 1000000 := by
  intro l
  induction l with
  | nil => intro m _ a b; rw [cI]; exact ⟨a, b⟩
  | cons x l il =>
   intro m hx a b
   rw [cI]
   by_cases h0 : 0 <= m
   ·rw [if_pos h0]
    have := lf_bnd _ x m (Nat.le_refl _) (hx x (List.mem_cons_self ..)) (by omega) b
    exact il _ (fun y hy => hx y (List.mem_cons_of_mem _ hy)) this.1 this.2
   ·rw [if_neg h0]; exact il _ (fun y hy => hx y (List.mem_cons_of_mem _ hy)) a b
 exact A _ _ (fun x hx => ol x (List.mem_of_mem_take hx)) (by omega) (by omega)
theorem lfFs_bnd {v : Val} {m : Int} (ov : okV v) (h1 : (-300000000000000 : Int) <= m) (h2 : m <= 1000000) (j : Nat) : (-300000000000000 : Int) <= cR (v.fields.take j) m /\ cR (v.fields.take j) m <= 1000000 := by
 obtain ⟨ls, ll, lf, ol, of_⟩ := dA ov
 have A : ∀ (l : List Fld) (m : Int), (∀ x ∈ l, okF x) -> (-300000000000000 : Int) <= m -> m <= 1000000 -> (-300000000000000 : Int) <= cR l m /\ cR l m <= 1000000 := by
  intro l
  induction l with
  | nil => intro m _ a b; rw [cR]; exact ⟨a, b⟩
  | cons x l il =>
   intro m hx a b
   rw [cR]
   by_cases h0 : 0 <= m
   ·rw [if_pos h0, lP]
    have hx2 := ml (hx x (List.mem_cons_self ..))
    have := lf_bnd _ x.v (m - (x.name.length : Nat)) (Nat.le_refl _) hx2.2 (by omega) (by omega)
    exact il _ (fun y hy => hx y (List.mem_cons_of_mem _ hy)) this.1 this.2
   ·rw [if_neg h0]; exact il _ (fun y hy => hx y (List.mem_cons_of_mem _ hy)) a b
 exact A _ _ (fun x hx => of_ x (List.mem_of_mem_take hx)) h1 h2
theorem c48 (k : Nat) : ∀ (v : Val) (m : Int), SizeOf.sizeOf v <= k -> okV v -> (-140737488360000 : Int) <= m -> m <= 1000000 -> R T0 48 [ak v, .i .i64 m] (.i .i64 (lfV v m)) := by
 induction k with
 | zero => intro v m h; obtain ⟨_, _, _, _, _⟩ := v; simp only [Val.mk.sizeOf_spec] at h; omega
 | succ k ih =>
  intro v m hsz ov h1 h2
  obtain ⟨ls, ll, lf, ol, of_⟩ := dA ov
  have bv := lfVs_bnd ov h1 h2
  refine r48 _ _ (nQ v m) (nz v m) ?_
  unfold w48
  dsimp only [av]
  simp (disch := first | omega | assumption | (intros; simp only [dl3]; try omega)) only [vb0, ne_eq, aZ, lH, aC, bB, vb1, bx, dB]
  refine fL (X := Nat) (fun j => .i .i64 (cI (v.list.take j) (m - 1 - (v.s.length : Nat)))) (fun _ => .ptr 0 0) (fun j => .i .i64 (j : Nat))
   (fun j σ => j <= v.list.length /\ σ.h.get 0 = some (.cells (ak v).cells 35 false)) (fun j => v.list.length - j) ?_ 0 _ ⟨Nat.zero_le _, ah _ _ _⟩
  rintro R j σ ⟨hj, hg⟩ hR
  have hb := bv j
  by_cases hc : j < v.list.length /\ 0 <= cI (v.list.take j) (m - 1 - (v.s.length : Nat))
  ·obtain ⟨hj', h0⟩ := hc
   have hm := aS hj'
   have ht := Am hj' h0
   have hR' := hR (j + 1)
   rw [ht] at hR'
   generalize cI (v.list.take j) (m - 1 - (v.s.length : Nat)) = x at h0 hb hR' |-
   have er : ∀ (d : Nat) (σ : AS) (K : AV -> AS -> Prop), oC T0 d 48 [ak (v.list.getD j default), .i .i64 x] σ K = K (.i .i64 (lfV (v.list.getD j default) x)) σ := fun d σ K => (ih _ x (by have := dp v hm; omega) (ol _ hm) (by omega) hb.2).eq d σ K
   simp (disch := first | omega | assumption | (intros; simp only [dl3]; try omega)) only [vb0, ne_eq, aZ, lH, aC, bB, vb1, bx, dB, hg, er, cJ]
   exact hR' _ ⟨by omega, hg⟩ (by omega)
  ·have hall : cI v.list (m - 1 - (v.s.length : Nat)) = cI (v.list.take j) (m - 1 - (v.s.length : Nat)) := by
    by_cases hj' : j < v.list.length
    ·exact An (by omega)
    ·rw [List.take_of_length_le (by omega)]
   rw [qK, hall]
   generalize cI (v.list.take j) (m - 1 - (v.s.length : Nat)) = x at hc hb |-
   clear hR
   have hcF : (decide (((j : Nat) : Int) < (v.list.length : Nat)) && decide (0 <= x)) = false := by
    rw [Bool.and_eq_false_iff, decide_eq_false_iff_not, decide_eq_false_iff_not]; omega
   simp (disch := first | omega | assumption | (intros; simp only [dl3]; try omega)) only [vb0, ne_eq, aZ, lH, aC, bB, vb1, bx, dB, vb2, Bool.true_and, hg, hcF]
   have bf := lfFs_bnd ov hb.1 hb.2
   refine fL (X := Nat) (fun j => .i .i64 (cR (v.fields.take j) x)) (fun _ => .ptr 0 0) (fun j => .i .i64 (j : Nat))
    (fun j σ => j <= v.fields.length /\ σ.h.get 0 = some (.cells (ak v).cells 35 false)) (fun j => v.fields.length - j) ?_ 0 _ ⟨Nat.zero_le _, hg⟩
   clear hg hcF hb hc
   rintro R j σ ⟨hj, hg⟩ hR
   have hb := bf j
   by_cases hc : j < v.fields.length /\ 0 <= cR (v.fields.take j) x
   ·obtain ⟨hj', h0⟩ := hc
    have hm := aS hj'
    have hR' := hR (j + 1)
    rw [Ao hj' h0] at hR'
    generalize cR (v.fields.take j) x = y at h0 hb hR' |-
    have hF := ml (of_ _ hm)
    have er : ∀ (d : Nat) (σ : AS) (K : AV -> AS -> Prop), oC T0 d 48 [ak (v.fields.getD j default).v, .i .i64 (y - ((v.fields.getD j default).name.length : Nat))] σ K = K (.i .i64 (lfV (v.fields.getD j default).v (y - ((v.fields.getD j default).name.length : Nat)))) σ := fun d σ K => (ih _ _ (by have := cr v hm; omega) hF.2 (by omega) (by omega)).eq d σ K
    have hl := hF.1
    simp (disch := first | omega | assumption | (intros; simp only [dl3]; try omega)) only [vb0, ne_eq, aZ, lH, aC, bB, vb1, bx, dB, hg, er, cJ]
    exact hR' _ ⟨by omega, hg⟩ (by omega)
   ·have hall : cR v.fields x = cR (v.fields.take j) x := by
     by_cases hj' : j < v.fields.length
     ·exact Ap (by omega)
     ·rw [List.take_of_length_le (by omega)]
    rw [hall]
    generalize cR (v.fields.take j) x = y at hc hb |-
    have hcF : (decide (((j : Nat) : Int) < (v.fields.length : Nat)) && decide (0 <= y)) = false := by
     rw [Bool.and_eq_false_iff, decide_eq_false_iff_not, decide_eq_false_iff_not]; omega
    simp (disch := first | omega | assumption | (intros; simp only [dl3]; try omega)) only [vb0, ne_eq, aZ, lH, aC, bB, vb1, bx, dB, vb2, Bool.true_and, hg, hcF]
theorem e48 {v : Val} {m : Int} (ov : okV v) (h1 : (-140737488360000 : Int) <= m) (h2 : m <= 1000000) {d : Nat} {σ : AS} {K : AV -> AS -> Prop} : oC T0 d 48 [ak v, .i .i64 m] σ K = K (.i .i64 (lfV v m)) σ := (c48 _ v m (Nat.le_refl _) ov h1 h2).eq d σ K
def fewV (v : Val) : Bool := decide (0 <= lfV v 2000)
theorem c22 (v : Val) (ov : okV v) : R T0 22 [ak v, .i .i64 2000] (.b (fewV v)) := by
 refine r22 _ _ (nQ v 2000) (nz v 2000) ?_
 unfold w22
 dsimp only [av]
 simp (disch := first | omega | assumption | (intros; simp only [dl3]; try omega)) only [vb0, ne_eq, fK, vb1, e48 ov (show (-140737488360000 : Int) <= 2000 by decide) (show (2000 : Int) <= 1000000 by decide)]
 rfl
theorem e22 {v : Val} (ov : okV v) {d : Nat} {σ : AS} {K : AV -> AS -> Prop} : oC T0 d 22 [ak v, .i .i64 2000] σ K = K (.b (fewV v)) σ := (c22 v ov).eq d σ K
mutual
inductive smV : Val -> Prop where
 | mk {k n : Int} {s : List UInt8} {l : List Val} {fs : List Fld} : (Lit.int .i64 k).wf = true -> (Lit.int .i64 n).wf = true -> s.length <= 100000 -> l.length <= 100000 -> fs.length <= 100000 -> (∀ x ∈ l, smV x) -> (∀ f ∈ fs, smF f) -> smV (.mk k n s l fs)
inductive smF : Fld -> Prop where
 | mk {nm : List UInt8} {v : Val} : nm.length <= 100000 -> smV v -> smF (.mk nm v)
end
theorem bU {v : Val} (h : smV v) : ((Lit.int .i64 v.kind).wf = true /\ (Lit.int .i64 v.n).wf = true) /\ v.s.length <= 100000 /\ v.list.length <= 100000 /\ v.fields.length <= 100000 /\ (∀ x ∈ v.list, smV x) /\ (∀ f ∈ v.fields, smF f) := by
 cases h with
 | mk h1 h2 h3 h4 h5 h6 h7 => exact ⟨⟨h1, h2⟩, h3, h4, h5, h6, h7⟩
theorem fO {f : Fld} (h : smF f) : f.name.length <= 100000 /\ smV f.v := by
 cases h with
 | mk h1 h2 => exact ⟨h1, h2⟩
theorem smV.of {v : Val} (h1 : (Lit.int .i64 v.kind).wf = true /\ (Lit.int .i64 v.n).wf = true) (h2 : v.s.length <= 100000) (h3 : v.list.length <= 100000) (h4 : v.fields.length <= 100000) (h5 : ∀ x ∈ v.list, smV x) (h6 : ∀ f ∈ v.fields, smF f) : smV v := by
 obtain ⟨k, n, s, l, fs⟩ := v
 exact .mk h1.1 h1.2 h2 h3 h4 h5 h6
theorem smF.of {f : Fld} (h1 : f.name.length <= 100000) (h2 : smV f.v) : smF f := by
 obtain ⟨nm, v⟩ := f
 exact .mk h1 h2
theorem okV_of (k : Nat) : ∀ v : Val, SizeOf.sizeOf v <= k -> smV v -> okV v := by
 induction k with
 | zero => intro v h; obtain ⟨_, _, _, _, _⟩ := v; simp only [Val.mk.sizeOf_spec] at h; omega
 | succ k ih =>
  intro v hsz h
  obtain ⟨h1, h2, h3, h4, h5, h6⟩ := bU h
  have a : ∀ x ∈ v.list, okV x := fun x hx => ih x (by have := dp v hx; omega) (h5 x hx)
  have b : ∀ f ∈ v.fields, okF f := fun f hf => by
   have g := fO (h6 f hf)
   have q := ih f.v (by have := cr v hf; omega) g.2
   obtain ⟨nm, w⟩ := f
   exact .mk (by have := g.1; simp only [Fld.name] at this; omega) q
  obtain ⟨k, n, s, l, fs⟩ := v
  exact .mk h1.1 h1.2 (by simp only [Val.s] at h2; omega) (by simp only [Val.list] at h3; omega) (by simp only [Val.fields] at h4; omega) a b
theorem smV.ok {v : Val} (h : smV v) : okV v := okV_of _ v (Nat.le_refl _) h
theorem wf_okV {v : Val} (h : okV v) : (Lit.int .i64 v.kind).wf = true /\ (Lit.int .i64 v.n).wf = true := by
 cases h with
 | mk h1 h2 => exact ⟨h1, h2⟩
theorem lf_le (k : Nat) : ∀ (v : Val) (m : Int), SizeOf.sizeOf v <= k -> lfV v m <= m - 1 := by
 induction k with
 | zero => intro v m h; obtain ⟨_, _, _, _, _⟩ := v; simp only [Val.mk.sizeOf_spec] at h; omega
 | succ k ih =>
  intro v m hsz
  rw [qK]
  have A : ∀ (l : List Val) (m : Int), (∀ x ∈ l, SizeOf.sizeOf x <= k) -> cI l m <= m := by
   intro l
   induction l with
   | nil => intro m _; rw [cI]; exact Int.le_refl _
   | cons x l il =>
    intro m hx
    rw [cI]
    have h1 := il (if 0 <= m then lfV x m else m) (fun y hy => hx y (List.mem_cons_of_mem _ hy))
    have := ih x m (hx x (List.mem_cons_self ..))
    by_cases h0 : 0 <= m
    ·rw [if_pos h0] at h1 |-; omega
    ·rw [if_neg h0] at h1 |-; exact h1
  have B : ∀ (l : List Fld) (m : Int), (∀ x ∈ l, SizeOf.sizeOf x.v <= k) -> cR l m <= m := by
   intro l
   induction l with
   | nil => intro m _; rw [cR]; exact Int.le_refl _
   | cons x l il =>
    intro m hx
    rw [cR]
    have h1 := il (if 0 <= m then lfF x m else m) (fun y hy => hx y (List.mem_cons_of_mem _ hy))
    have := ih x.v (m - (x.name.length : Nat)) (hx x (List.mem_cons_self ..))
    by_cases h0 : 0 <= m
    ·rw [if_pos h0, lP] at h1 |-; omega
    ·rw [if_neg h0] at h1 |-; exact h1
  have a := A v.list (m - 1 - (v.s.length : Nat)) (fun x hx => by have := dp v hx; omega)
  have b := B v.fields (cI v.list (m - 1 - (v.s.length : Nat))) (fun x hx => by have := cr v hx; omega)
  omega
theorem mz : ∀ (l : List Val) (m : Int), 0 <= cI l m -> 0 <= m /\ cI l m + (l.length : Nat) <= m /\ ∀ x ∈ l, ∃ m', m' <= m /\ 0 <= lfV x m'
 | [], m, h => by rw [cI] at h |-; exact ⟨h, by simp, fun x hx => by cases hx⟩
 | x :: l, m, h => by
  rw [cI] at h |-
  by_cases h0 : 0 <= m
  ·rw [if_pos h0] at h |-
   have ih := mz l _ h
   have hx := lf_le _ x m (Nat.le_refl _)
   refine ⟨h0, by rw [List.length_cons]; omega, fun y hy => ?_⟩
   rcases List.mem_cons.1 hy with rfl | hy
   ·exact ⟨m, Int.le_refl _, ih.1⟩
   ·obtain ⟨m', g1, g2⟩ := ih.2.2 y hy; exact ⟨m', by omega, g2⟩
  ·rw [if_neg h0, vp _ _ (by omega)] at h; omega
theorem kz : ∀ (l : List Fld) (m : Int), 0 <= cR l m -> 0 <= m /\ cR l m + (l.length : Nat) <= m /\ ∀ x ∈ l, ∃ m', m' <= m /\ 0 <= lfF x m'
 | [], m, h => by rw [cR] at h |-; exact ⟨h, by simp, fun x hx => by cases hx⟩
 | x :: l, m, h => by
  rw [cR] at h |-
  by_cases h0 : 0 <= m
  ·rw [if_pos h0] at h |-
   have ih := kz l _ h
   have hx := lf_le _ x.v (m - (x.name.length : Nat)) (Nat.le_refl _)
   rw [<- lP] at hx
   refine ⟨h0, by rw [List.length_cons]; omega, fun y hy => ?_⟩
   rcases List.mem_cons.1 hy with rfl | hy
   ·exact ⟨m, Int.le_refl _, ih.1⟩
   ·obtain ⟨m', g1, g2⟩ := ih.2.2 y hy; exact ⟨m', by omega, g2⟩
  ·rw [if_neg h0, vr _ _ (by omega)] at h; omega
theorem few_sm (k : Nat) : ∀ (v : Val) (m : Int), SizeOf.sizeOf v <= k -> okV v -> 0 <= lfV v m -> m <= 100000 -> smV v := by
 induction k with
 | zero => intro v m h; obtain ⟨_, _, _, _, _⟩ := v; simp only [Val.mk.sizeOf_spec] at h; omega
 | succ k ih =>
  intro v m hsz ov h hm
  obtain ⟨ls, ll, lf, ol, of_⟩ := dA ov
  rw [qK] at h
  obtain ⟨b1, b2, b3⟩ := kz _ _ h
  obtain ⟨a1, a2, a3⟩ := mz _ _ b1
  refine .of (wf_okV ov) (by omega) (by omega) (by omega) (fun x hx => ?_) (fun f hf => ?_)
  ·obtain ⟨m', g1, g2⟩ := a3 x hx
   exact ih x m' (by have := dp v hx; omega) (ol x hx) g2 (by omega)
  ·obtain ⟨m', g1, g2⟩ := b3 f hf
   rw [lP] at g2
   have hle := lf_le _ f.v (m' - (f.name.length : Nat)) (Nat.le_refl _)
   exact .of (by omega) (ih f.v _ (by have := cr v hf; omega) (ml (of_ f hf)).2 g2 (by omega))
theorem fewV_sm {v : Val} (ov : okV v) (h : fewV v = true) : smV v := few_sm _ v 2000 (Nat.le_refl _) ov (of_decide_eq_true h) (by decide)
theorem elV : El T0 ak 32 35 4 80 where
 ty := by kernel_rfl
 sz := by kernel_rfl
 bytes := by kernel_rfl
 zr := by kernel_rfl
 de := agg_of (by kernel_rfl)
 len := bo
 leaf := fX
 free := frees_V
 nrm := norms_V
 agg := fun v => by rw [ax]; rfl
theorem elF : El T0 ay 33 52 5 96 where
 ty := by kernel_rfl
 sz := by kernel_rfl
 bytes := by kernel_rfl
 zr := by kernel_rfl
 de := agg_of (by kernel_rfl)
 len := bq
 leaf := mA
 free := fun f => by rw [bh, ax]; rfl
 nrm := fun f => by rw [bh, ax]; rfl
 agg := fun f => by rw [bh]; rfl
theorem gH {n b : Nat} (hb : b <= 1000) (h : n <= 1000000) : cq n b = true := by
 unfold cq
 have : n * b <= 1000000 * 1000 := Nat.mul_le_mul h hb
 rw [Nat.ble_eq_true_of_le (by omega), Nat.ble_eq_true_of_le (by omega), Nat.ble_eq_true_of_le (by omega)]; rfl
theorem a77 {l : List Val} (hl : l.length <= 1000000) {d n : Nat} {K : AV -> Option AB -> Prop} : oA T0 d 77 [.lst (l.map ak)] n K = K (bC l n) (ju ak 35 l) :=
 tg (fn := Tryz.f77) elV (gH (by decide) hl) (by kernel_rfl) (by kernel_rfl) (by kernel_rfl) (by kernel_rfl) (by kernel_rfl) (by kernel_rfl) (fun P a Q => by kernel_rfl) d n K
theorem a78 {l : List Fld} (hl : l.length <= 1000000) {d n : Nat} {K : AV -> Option AB -> Prop} : oA T0 d 78 [.lst (l.map ay)] n K = K (bC l n) (ju ay 52 l) :=
 tg (fn := Tryz.f78) elF (gH (by decide) hl) (by kernel_rfl) (by kernel_rfl) (by kernel_rfl) (by kernel_rfl) (by kernel_rfl) (by kernel_rfl) (fun P a Q => by kernel_rfl) d n K
theorem q77 {l : List Val} (hl : l.length <= 1000000) (σ : AS) : ∃ σ', (∀ d K, oC T0 d 77 [.lst (l.map ak)] σ K = K (bC l σ.n) σ') /\ (∀ j, j < σ.n -> σ'.h.get j = σ.h.get j) /\ σ.n <= σ'.n /\ (l ≠ [] -> σ.n < σ'.n) /\ (∀ encD : Val -> AV, RowAt ak encD 35 σ'.h l σ.n 0) :=
 wu (fn := Tryz.f77) elV (gH (by decide) hl) (by kernel_rfl) (by kernel_rfl) (by kernel_rfl) (by kernel_rfl) (by kernel_rfl) (by kernel_rfl) (fun P a Q => by kernel_rfl) σ
theorem q78 {l : List Fld} (hl : l.length <= 1000000) (σ : AS) : ∃ σ', (∀ d K, oC T0 d 78 [.lst (l.map ay)] σ K = K (bC l σ.n) σ') /\ (∀ j, j < σ.n -> σ'.h.get j = σ.h.get j) /\ σ.n <= σ'.n /\ (l ≠ [] -> σ.n < σ'.n) /\ (∀ encD : Fld -> AV, RowAt ay encD 52 σ'.h l σ.n 0) :=
 wu (fn := Tryz.f78) elF (gH (by decide) hl) (by kernel_rfl) (by kernel_rfl) (by kernel_rfl) (by kernel_rfl) (by kernel_rfl) (by kernel_rfl) (fun P a Q => by kernel_rfl) σ
def aK (v : Val) (A B : AV) : List AV := [.i .i64 v.kind, .i .i64 v.n, .s v.s, A, B]
theorem ir (v : Val) : (ak v).cells = aK v (.lst (v.list.map ak)) (.lst (v.fields.map ay)) := by rw [ax]; rfl
section
variable {h : Tr AB} {v : Val} {A B x : AV} {id e : Nat} {g : Bool}
theorem l3 (hg : h.get id = some (.cells (aK v A B) e g)) : ac T0 h 32 (.ptr id 3) = some A := by rw [dk hg (show 3 <= 5 by decide)]; exact ofc_32 _ _
theorem l4 (hg : h.get id = some (.cells (aK v A B) e g)) : ac T0 h 33 (.ptr id 4) = some B := by rw [dk hg (show 4 <= 5 by decide)]; exact ofc_33 _ _
theorem l5 (hg : h.get id = some (.cells (aK v A B) e g)) : ac T0 h 35 (.ptr id 0) = some (.agg (aK v A B)) := by rw [dk hg (Nat.zero_le _), List.drop_zero, lM]; rfl
theorem s3 (hg : h.get id = some (.cells (aK v A B) e g)) (hc : x.cells = [x]) (hl : x.leaf = true) : az T0 h 32 (.ptr id 3) x = some (h.put id (some (.cells (aK v x B) e g))) :=
 em sz_32 hg (by rw [hc]; rfl) (by rw [hc]; simp [aO, hl]) (by rw [hc]; rfl)
theorem s4 (hg : h.get id = some (.cells (aK v A B) e g)) (hc : x.cells = [x]) (hl : x.leaf = true) : az T0 h 33 (.ptr id 4) x = some (h.put id (some (.cells (aK v A x) e g))) :=
 em sz_33 hg (by rw [hc]; rfl) (by rw [hc]; simp [aO, hl]) (by rw [hc]; rfl)
theorem t3 (hg : h.get id = some (.cells (aK v A B) e g)) (hc : x.cells = [x]) (hl : x.leaf = true) : ba T0 h 32 (.ptr id 3) x = some (id, .cells (aK v x B) e g) :=
 fu sz_32 hg (by rw [hc]; rfl) (by rw [hc]; simp [aO, hl]) (by rw [hc]; rfl)
theorem t4 (hg : h.get id = some (.cells (aK v A B) e g)) (hc : x.cells = [x]) (hl : x.leaf = true) : ba T0 h 33 (.ptr id 4) x = some (id, .cells (aK v A x) e g) :=
 fu sz_33 hg (by rw [hc]; rfl) (by rw [hc]; simp [aO, hl]) (by rw [hc]; rfl)
end
theorem cf : ∀ (a b : List AV), a.length = b.length -> bL a 0 b = some b := by
 intro a b
 induction b generalizing a with
 | nil => intro q; cases a with | nil => rfl | cons _ _ => simp at q
 | cons x b ih => intro q; cases a with | nil => simp at q | cons y a => simp [bL, ih a (by simpa using q)]
theorem uN {h : Tr AB} {l : List Val} {id j : Nat} (r : RowAt ak ak 35 h l id j) (hj : j < l.length) : ba T0 h 35 (.ptr id (j * (4 + 1))) (ak (l.getD j default)) = some (id, .cells (dJ ak ak l (j + 1)) 35 true) :=
 r.store (k := 0) bo hj ic (bo _) (fX _) (cf _ _ rfl)
theorem uO {h : Tr AB} {l : List Fld} {id j : Nat} (r : RowAt ay ay 52 h l id j) (hj : j < l.length) : ba T0 h 35 (.ptr id (j * (5 + 1) + 1)) (ak (l.getD j default).v) = some (id, .cells (dJ ay ay l (j + 1)) 52 true) :=
 r.store (k := 1) bq hj ic (bo _) (fX _) (by
  rw [bh]
  show bL (AV.s _ :: _) 1 _ = _
  have : ∀ (x : AV) (a b : List AV), bL (x :: a) 1 b = (bL a 0 b).map (x :: ·) := fun x a b => by cases b <;> rfl
  rw [this, cf _ _ rfl]; rfl)
theorem zn {h : Tr AB} {v : Val} {a b i j : Nat} (ra : RowAt ak ak 35 h v.list a i) (hi : v.list.length <= i) (rb : RowAt ay ay 52 h v.fields b j) (hj : v.fields.length <= j) : fz T0 h 4 (.agg (aK v (bC v.list a) (bC v.fields b))) = some (ak v) := by
 have g1 := RowAt.fz elV bo elV.free elV.nrm ra hi
 have g2 := RowAt.fz elF bq elF.free elF.nrm rb hj
 rw [fz_agg 2]
 have m : di (fz T0 h 3) (aK v (bC v.list a) (bC v.fields b)) = some (ak v).cells := by
  rw [ir]
  exact bj (dn 2 rfl) (bj (dn 2 rfl) (bj (dn 2 rfl) (bj g1 (bj g2 rfl))))
 rw [m, ax]; rfl
theorem oz {h : Tr AB} {id e : Nat} {g : Bool} {A B : AV} {v : Val} {cs : List AV} (hc : cs.length = 5) (hg : h.get id = some (.cells cs e g)) (hA : A.leaf = true) (hB : B.leaf = true) : az T0 h 35 (.ptr id 0) (.agg (aK v A B)) = some (h.put id (some (.cells (aK v A B) e g))) :=
 em ic hg rfl (by show aO [.i .i64 v.kind, .i .i64 v.n, .s v.s, A, B] = true; rw [show aO [.i .i64 v.kind, .i .i64 v.n, .s v.s, A, B] = aO [A, B] from rfl]; simp only [aO, hA, hB]) (cf _ _ hc)
theorem frA {v : Val} : mN [ak v] = true := gk v
theorem r107 (a0 : AV) {r : AV} (hi : AV.idfree.idfrees [a0] = true) (hn : AV.norm.norms [a0] = [a0]) (h : w107 (av T0) a0 (fun r1 s1 => oZ T0 s1 r1 (fun r2 => r2 = r))) : R T0 107 [a0] r :=
 R.mkH (by kernel_rfl) (by kernel_rfl) (show T0.fn 107 = some Tryz.f107 by kernel_rfl) (by kernel_rfl) (by kernel_rfl) (by kernel_rfl) hi hn (by rw [w107_eq] at h; exact h)
theorem c107 (k : Nat) : ∀ v : Val, SizeOf.sizeOf v <= k -> smV v -> R T0 107 [ak v] (ak v) := by
 induction k with
 | zero => intro v h; obtain ⟨_, _, _, _, _⟩ := v; simp only [Val.mk.sizeOf_spec] at h; omega
 | succ k ih =>
  intro v hsz sm
  obtain ⟨-, ls, ll, lf, ol, of_⟩ := bU sm
  refine r107 _ (gk v) (iy v) ?_
  unfold w107
  dsimp only [av]
  simp (disch := first | omega | assumption | (intros; simp only [dl2]; try omega)) only [bu, cG, Nat.zero_add, aa]
  have h0 : ((Tr.nil.put 0 (some (.cells (ak v).cells 35 false))).put 1 (some (.cells [.i .i64 0, .i .i64 0, .s [], .nilz true, .nilz true] 35 false)) : Tr AB).get 0 = some (.cells (aK v (.lst (v.list.map ak)) (.lst (v.fields.map ay))) 35 false) := by
   rw [ae _ _ (by decide), ah, ir]
  rw [l3 h0, aa]
  obtain ⟨σ3, q1, q2, q3, q4, q5⟩ := q77 (l := v.list) (by omega) ⟨((Tr.nil.put 0 (some (.cells (ak v).cells 35 false))).put 1 (some (.cells [.i .i64 0, .i .i64 0, .s [], .nilz true, .nilz true] 35 false)) : Tr AB), 2⟩
  dsimp only at q1 q2 q3 q4 q5
  have g0 := (q2 0 (by decide)).trans h0
  have g1 := (q2 1 (by decide)).trans (ah _ _ _)
  have q5 := q5 ak
  rw [q1, s3 g0 fR ca, aH]
  simp (disch := first | omega | assumption | (intros; simp only [dl2]; try omega)) only [aa, l3 (ah _ _ _), iK elV.ty]
  refine ij (X := Nat) (fun _ => .ptr 1 0) (fun _ => .ptr 0 0) (fun _ => bC v.list 2) (fun _ => .i .i64 (v.list.length : Nat)) (fun j => .i .i64 (j : Nat))
   (fun j σ => j <= v.list.length /\ 2 <= σ.n /\ (v.list ≠ [] -> 2 < σ.n) /\ σ.h.get 0 = some (.cells (aK v (bC v.list 2) (.lst (v.fields.map ay))) 35 false) /\ σ.h.get 1 = some (.cells [.i .i64 0, .i .i64 0, .s [], .nilz true, .nilz true] 35 false) /\ RowAt ak ak 35 σ.h v.list 2 j) (fun j => v.list.length - j) ?_ 0 _
   ⟨Nat.zero_le _, q3, q4, ah _ _ _, (ae _ _ (by decide)).trans g1, q5.same (ae _ _ (by decide))⟩
  clear q1 q2 q3 q4 q5 g0 g1 h0
  rintro R j σ ⟨hj, hn, hn2, b0, b1, hr⟩ hR
  simp only [cm]
  refine aV (fun h => ?_) (fun h => ?_)
  ·have hj' : j < v.list.length := by omega
   have hne : v.list ≠ [] := fun q => by rw [q] at hj'; cases hj'
   have hn2 := hn2 hne
   have hm := aS hj'
   have er := fun (d : Nat) (σ : AS) (K : AV -> AS -> Prop) => (ih _ (by have := dp v hm; omega) (ol _ hm)).eq d σ K
   rw [fw elV.ty elV.sz hj', aa, hr.load elV bo hj', aa]
   have e1 : ((σ.h.put σ.n (some (.cells [.i .i64 0, .i .i64 0, .s [], .nilz true, .nilz true] 35 false))).put σ.n (some (.cells (ak (v.list.getD j default)).cells 35 false))).get 0 = some (.cells (aK v (bC v.list 2) (.lst (v.fields.map ay))) 35 false) := by rw [ae _ _ (by omega), ae _ _ (by omega)]; exact b0
   have e2 : RowAt ak ak 35 ((σ.h.put σ.n (some (.cells [.i .i64 0, .i .i64 0, .s [], .nilz true, .nilz true] 35 false))).put σ.n (some (.cells (ak (v.list.getD j default)).cells 35 false))) v.list 2 j := hr.same (by rw [ae _ _ (by omega), ae _ _ (by omega)])
   simp (disch := first | omega | assumption | (intros; simp only [dl2]; try omega)) only [bu, st_V0, aH, cG, Nat.zero_add, aa, l3 e1, cQ, ah, bN, iV, frA, fE, er, fw elV.ty elV.sz hj', uN e2 hj', bI]
   rw [eN rfl rfl, eD]
   simp (disch := first | omega | assumption | (intros; simp only [dl2]; try omega)) only [aa, aC, cL]
   refine hR (j + 1) ⟨_, _⟩ ?_ (by omega)
   refine ⟨by omega, by dsimp only; omega, fun _ => by dsimp only; omega, ?_, ?_, fun _ => ah _ _ _⟩
   ·dsimp only; rw [ae _ _ (by decide)]; exact e1
   ·dsimp only; rw [ae _ _ (by decide), ae _ _ (by omega), ae _ _ (by omega)]; exact b1
  ·clear hR
   have hall : v.list.length <= j := by omega
   simp (disch := first | omega | assumption | (intros; simp only [dl2]; try omega)) only [cG, Nat.zero_add, aa, l4 b0]
   obtain ⟨σ3, q1, q2, q3, q4, q5⟩ := q78 (l := v.fields) (by omega) σ
   have q5 := q5 ay
   obtain ⟨m, hm⟩ : ∃ m, m = σ.n := ⟨_, rfl⟩
   rw [<- hm] at q1 q2 q3 q4 q5 hn hn2
   have g0 := (q2 0 (by omega)).trans b0
   have g1 := (q2 1 (by omega)).trans b1
   have hr : RowAt ak ak 35 σ3.h v.list 2 j := fun hne => (q2 2 (hn2 hne)).trans (hr hne)
   rw [q1, s4 g0 fR ca, aH]
   simp (disch := first | omega | assumption | (intros; simp only [dl2]; try omega)) only [aa, l4 (ah _ _ _), iK elF.ty]
   refine ij (X := Nat) (fun _ => .ptr 1 0) (fun _ => .ptr 0 0) (fun _ => bC v.fields m) (fun _ => .i .i64 (v.fields.length : Nat)) (fun j => .i .i64 (j : Nat))
    (fun i σ => i <= v.fields.length /\ m <= σ.n /\ (v.fields ≠ [] -> m < σ.n) /\ σ.h.get 0 = some (.cells (aK v (bC v.list 2) (bC v.fields m)) 35 false) /\ σ.h.get 1 = some (.cells [.i .i64 0, .i .i64 0, .s [], .nilz true, .nilz true] 35 false) /\ RowAt ak ak 35 σ.h v.list 2 j /\ RowAt ay ay 52 σ.h v.fields m i) (fun i => v.fields.length - i) ?_ 0 _
    ⟨Nat.zero_le _, q3, q4, ah _ _ _, (ae _ _ (by decide)).trans g1, hr.same (ae _ _ (by decide)), q5.same (ae _ _ (by omega))⟩
   clear q1 q2 q3 q4 q5 g0 g1 hr b0 b1 h
   rintro R i σ ⟨hi, hm3, hm4, b0, b1, hr, hf⟩ hR
   simp only [cm]
   refine aV (fun h => ?_) (fun h => ?_)
   ·have hi' : i < v.fields.length := by omega
    have hne : v.fields ≠ [] := fun q => by rw [q] at hi'; cases hi'
    have hm4 := hm4 hne
    have hmm := aS hi'
    have er := fun (d : Nat) (σ : AS) (K : AV -> AS -> Prop) => (ih _ (by have := cr v hmm; omega) (fO (of_ _ hmm)).2).eq d σ K
    rw [fw elF.ty elF.sz hi', aa, hf.load elF bq hi', aa]
    have e1 : ((σ.h.put σ.n (some (.cells [.s [], .i .i64 0, .i .i64 0, .s [], .nilz true, .nilz true] 52 false))).put σ.n (some (.cells (ay (v.fields.getD i default)).cells 52 false))).get 0 = some (.cells (aK v (bC v.list 2) (bC v.fields m)) 35 false) := by rw [ae _ _ (by omega), ae _ _ (by omega)]; exact b0
    have e2 : RowAt ay ay 52 ((σ.h.put σ.n (some (.cells [.s [], .i .i64 0, .i .i64 0, .s [], .nilz true, .nilz true] 52 false))).put σ.n (some (.cells (ay (v.fields.getD i default)).cells 52 false))) v.fields m i := hf.same (by rw [ae _ _ (by omega), ae _ _ (by omega)])
    have c1 : 1 <= (ay (v.fields.getD i default)).cells.length := by rw [bq]; decide
    simp (disch := first | omega | assumption | (intros; simp only [dl2]; try omega)) only [bu, uH, aH, cG, Nat.zero_add, aa, l4 e1, cQ, ah, bN c1, mO, frA, fE, er, fw elF.ty elF.sz hi', uO e2 hi', bI]
    rw [eN rfl rfl, eD]
    simp (disch := first | omega | assumption | (intros; simp only [dl2]; try omega)) only [aa, aC, cL]
    refine hR (i + 1) ⟨_, _⟩ ?_ (by omega)
    refine ⟨by omega, by dsimp only; omega, fun _ => by dsimp only; omega, ?_, ?_, ?_, fun _ => ah _ _ _⟩
    ·dsimp only; rw [ae _ _ (by omega)]; exact e1
    ·dsimp only; rw [ae _ _ (by omega), ae _ _ (by omega), ae _ _ (by omega)]; exact b1
    ·dsimp only
     intro hne
     have := hn2 hne
     rw [ae _ _ (by omega), ae _ _ (by omega), ae _ _ (by omega)]; exact hr hne
   ·clear hR
    simp (disch := first | omega | assumption | (intros; simp only [dl2]; try omega)) only [aa, l5 b0]
    rw [oz rfl b1 ca ca, aH]
    rw [l5 (ah _ _ _), aa]
    exact ⟨4, _, zn (hr.same (ae _ _ (by decide))) hall (hf.same (ae _ _ (by omega))) (by omega), rfl⟩
theorem e107 {v : Val} (sm : smV v) {d : Nat} {σ : AS} {K : AV -> AS -> Prop} : oC T0 d 107 [ak v] σ K = K (ak v) σ := (c107 _ v (Nat.le_refl _) sm).eq d σ K
theorem c50 (k : Nat) : ∀ v : Val, SizeOf.sizeOf v <= k -> smV v -> R T0 50 [ak v] (ak v) := by
 induction k with
 | zero => intro v h; obtain ⟨_, _, _, _, _⟩ := v; simp only [Val.mk.sizeOf_spec] at h; omega
 | succ k ih =>
  intro v hsz sm
  obtain ⟨-, ls, ll, lf, ol, of_⟩ := bU sm
  refine r50 _ (gk v) (iy v) ?_
  unfold w50
  dsimp only [av]
  simp (disch := first | omega | assumption | (intros; simp only [dl2]; try omega)) only [bu, cG, Nat.zero_add, aa]
  have h0 : ((Tr.nil.put 0 (some (.cells (ak v).cells 35 false))).put 1 (some (.cells [.i .i64 0, .i .i64 0, .s [], .nilz true, .nilz true] 35 false)) : Tr AB).get 0 = some (.cells (aK v (.lst (v.list.map ak)) (.lst (v.fields.map ay))) 35 false) := by
   rw [ae _ _ (by decide), ah, ir]
  have h1 : ((Tr.nil.put 0 (some (.cells (ak v).cells 35 false))).put 1 (some (.cells [.i .i64 0, .i .i64 0, .s [], .nilz true, .nilz true] 35 false)) : Tr AB).get 1 = some (.cells [.i .i64 0, .i .i64 0, .s [], .nilz true, .nilz true] 35 false) := ah _ _ _
  generalize ((Tr.nil.put 0 (some (.cells (ak v).cells 35 false))).put 1 (some (.cells [.i .i64 0, .i .i64 0, .s [], .nilz true, .nilz true] 35 false)) : Tr AB) = h at h0 h1
  rw [l3 h0, aa, a77 (by omega), ny rfl, l4 h0, aa, kv rfl, a78 (by omega), kv rfl]
  have h2 : ((h.put (1 + 1) (ju ak 35 v.list)).put (1 + 1 + 1) (ju ay 52 v.fields)).get 0 = some (.cells (aK v (.lst (v.list.map ak)) (.lst (v.fields.map ay))) 35 false) := by
   rw [ae _ _ (by decide), ae _ _ (by decide)]; exact h0
  rw [t3 h2 fR ca, bI, eN rfl rfl, kv rfl, t4 (ah _ _ _) fR ca, bI, eN rfl rfl, eD]
  rw [l3 (ah _ _ _), aa, iK elV.ty, aa]
  refine kw (X := Nat) (fun _ => .ptr 1 0) (fun _ => .ptr 0 0) (fun _ => .i .i64 (v.list.length : Nat)) (fun j => .i .i64 (j : Nat))
   (fun j σ => j <= v.list.length /\ σ.h.get 0 = some (.cells (aK v (bC v.list 2) (bC v.fields 3)) 35 false) /\ σ.h.get 1 = some (.cells [.i .i64 0, .i .i64 0, .s [], .nilz true, .nilz true] 35 false) /\ RowAt ak ak 35 σ.h v.list 2 j /\ RowAt ay ay 52 σ.h v.fields 3 0) (fun j => v.list.length - j) ?_ 0 _
   ⟨Nat.zero_le _, ah _ _ _, by dsimp only; rw [ae _ _ (by decide), ae _ _ (by decide), ae _ _ (by decide), ae _ _ (by decide)]; exact h1, RowAt.new (by dsimp only; rw [ae _ _ (by decide), ae _ _ (by decide), ae _ _ (by decide), ah]), RowAt.new (by dsimp only; rw [ae _ _ (by decide), ae _ _ (by decide), ah])⟩
  clear h0 h1 h2 h
  rintro R j σ ⟨hj, b0, b1, hr, hf⟩ hR
  simp only [cm]
  refine aV (fun h => ?_) (fun h => ?_)
  ·have hj' : j < v.list.length := by omega
   have hm := aS hj'
   have er := fun (d : Nat) (σ : AS) (K : AV -> AS -> Prop) => (ih _ (by have := dp v hm; omega) (ol _ hm)).eq d σ K
   simp (disch := first | omega | assumption | (intros; simp only [dl2]; try omega)) only [cG, Nat.zero_add, aa, l3 b0, fw elV.ty elV.sz hj', hr.load elV bo hj', er, uN hr hj', bI]
   rw [eN rfl rfl, eD]
   simp (disch := first | omega | assumption | (intros; simp only [dl2]; try omega)) only [aa, aC, cL]
   refine hR (j + 1) ⟨_, _⟩ ?_ (by omega)
   refine ⟨by omega, ?_, ?_, fun _ => ah _ _ _, hf.same (ae _ _ (by decide))⟩
   ·dsimp only; rw [ae _ _ (by decide)]; exact b0
   ·dsimp only; rw [ae _ _ (by decide)]; exact b1
  ·clear hR
   have hall : v.list.length <= j := by omega
   simp (disch := first | omega | assumption | (intros; simp only [dl2]; try omega)) only [cG, Nat.zero_add, aa, l4 b0, iK elF.ty]
   refine kw (X := Nat) (fun _ => .ptr 1 0) (fun _ => .ptr 0 0) (fun _ => .i .i64 (v.fields.length : Nat)) (fun j => .i .i64 (j : Nat))
    (fun i σ => i <= v.fields.length /\ σ.h.get 0 = some (.cells (aK v (bC v.list 2) (bC v.fields 3)) 35 false) /\ σ.h.get 1 = some (.cells [.i .i64 0, .i .i64 0, .s [], .nilz true, .nilz true] 35 false) /\ RowAt ak ak 35 σ.h v.list 2 j /\ RowAt ay ay 52 σ.h v.fields 3 i) (fun i => v.fields.length - i) ?_ 0 _
    ⟨Nat.zero_le _, b0, b1, hr, hf⟩
   clear b0 b1 hr hf h
   rintro R i σ ⟨hi, b0, b1, hr, hf⟩ hR
   simp only [cm]
   refine aV (fun h => ?_) (fun h => ?_)
   ·have hi' : i < v.fields.length := by omega
    have hmm := aS hi'
    have er := fun (d : Nat) (σ : AS) (K : AV -> AS -> Prop) => (ih _ (by have := cr v hmm; omega) (fO (of_ _ hmm)).2).eq d σ K
    have ld : ac T0 σ.h 35 (.ptr 3 (i * (5 + 1) + 1)) = some (ak (v.fields.getD i default).v) := by
     rw [dk (hf.get hi') (by rw [yj bq bq]; omega), <- List.drop_drop, mu bq hi']
     rw [bh]
     show aJ T0 35 ((ak (v.fields.getD i default).v).cells ++ _) = _
     rw [ax, lM]; rfl
    simp (disch := first | omega | assumption | (intros; simp only [dl2]; try omega)) only [cG, Nat.zero_add, aa, l4 b0, fw elF.ty elF.sz hi', ld, er, uO hf hi', bI]
    rw [eN rfl rfl, eD]
    simp (disch := first | omega | assumption | (intros; simp only [dl2]; try omega)) only [aa, aC, cL]
    refine hR (i + 1) ⟨_, _⟩ ?_ (by omega)
    refine ⟨by omega, ?_, ?_, hr.same (ae _ _ (by decide)), fun _ => ah _ _ _⟩
    ·dsimp only; rw [ae _ _ (by decide)]; exact b0
    ·dsimp only; rw [ae _ _ (by decide)]; exact b1
   ·clear hR
    simp (disch := first | omega | assumption | (intros; simp only [dl2]; try omega)) only [aa, l5 b0]
    rw [oz rfl b1 ca ca, aH]
    rw [l5 (ah _ _ _), aa]
    exact ⟨4, _, zn (hr.same (ae _ _ (by decide))) hall (hf.same (ae _ _ (by decide))) (by omega), rfl⟩
theorem e50 {v : Val} (sm : smV v) {d : Nat} {σ : AS} {K : AV -> AS -> Prop} : oC T0 d 50 [ak v] σ K = K (ak v) σ := (c50 _ v (Nat.le_refl _) sm).eq d σ K
def gj (v : Val) (nm : List UInt8) : Int := if v.kind = 5 then cS (fun f : Fld => f.name == nm) v.fields else -1
def pv (v : Val) (nm : List UInt8) : Option Val := if 0 <= gj v nm then some (v.fields.getD (gj v nm).toNat default).v else none
def mtB (v : Val) (nm s : List UInt8) : Bool := match pv v nm with
 | some w => decide (w.kind = 3) && (w.s == s)
 | none => false
def chI (v : Val) (x : XStep) : Int :=
 if x.kind_ = 1 /\ v.kind = 5 then cS (fun f : Fld => f.name == x.name_) v.fields
 else if x.kind_ = 2 /\ v.kind = 4 /\ x.index_ < (v.list.length : Nat) then x.index_
 else if x.kind_ = 3 /\ v.kind = 4 then cS (fun e : Val => mtB e x.name_ x.value_) v.list else -1
theorem qP {α : Type} (q : α -> Bool) (l : List α) : -1 <= cS q l /\ cS q l < (l.length : Nat) := by
 unfold cS
 by_cases h : l.findIdx q < l.length
 ·rw [if_pos h]; omega
 ·rw [if_neg h]; omega
theorem fldI_bnd (v : Val) (nm : List UInt8) : -1 <= gj v nm /\ gj v nm < (v.fields.length : Nat) := by
 unfold gj
 by_cases h : v.kind = 5
 ·rw [if_pos h]; exact qP _ _
 ·rw [if_neg h]; omega
def gtR : Option Val -> AV
 | some w => .tup [ak w, .b true]
 | none => .tup [ak default, .b false]
theorem jh : bF T0 35 [] = some (.agg [.i .i64 0, .i .i64 0, .s [], .nilz true, .nilz true]) := by kernel_rfl
theorem ozz {σ : AS} {K : AV -> Prop} {b : Bool} : oZ T0 σ (.tup [.agg [.i .i64 0, .i .i64 0, .s [], .nilz true, .nilz true], .b b]) K = K (.tup [ak default, .b b]) := dP rfl
theorem ozvb {σ : AS} {K : AV -> Prop} {w : Val} {b : Bool} : oZ T0 σ (.tup [ak w, .b b]) K = K (.tup [ak w, .b b]) := by
 rw [dP (by show AV.idfree.idfrees [ak w, .b b] = true; rw [ax]; rfl)]
 rw [ax]; rfl
theorem dM {h : Tr AB} {id e : Nat} {g : Bool} {cs : List AV} (hc : cs.length = 5) (hg : h.get id = some (.cells cs e g)) (w : Val) : az T0 h 35 (.ptr id 0) (ak w) = some (h.put id (some (.cells (ak w).cells e g))) :=
 em ic hg (bo w) (fX w) (cf _ _ (by rw [hc, bo]))
theorem jI {h : Tr AB} {id e : Nat} {g : Bool} {cs : List AV} (hc : cs.length = 5) (hg : h.get id = some (.cells cs e g)) : az T0 h 35 (.ptr id 0) (.agg [.i .i64 0, .i .i64 0, .s [], .nilz true, .nilz true]) = some (h.put id (some (.cells [.i .i64 0, .i .i64 0, .s [], .nilz true, .nilz true] e g))) :=
 em ic hg rfl rfl (cf _ _ hc)
theorem tW {h : Tr AB} {id e : Nat} {g : Bool} : ac T0 (h.put id (some (.cells [.i .i64 0, .i .i64 0, .s [], .nilz true, .nilz true] e g))) 35 (.ptr id 0) = some (.agg [.i .i64 0, .i .i64 0, .s [], .nilz true, .nilz true]) := by
 rw [cQ, ah, bN (Nat.zero_le _), List.drop_zero, lM]; rfl
theorem ofz : aJ T0 35 (List.drop 0 [.i .i64 0, .i .i64 0, .s [], .nilz true, .nilz true]) = some (.agg [.i .i64 0, .i .i64 0, .s [], .nilz true, .nilz true]) := by rw [List.drop_zero, lM]; rfl
theorem vu {h : Tr AB} {id e : Nat} {g : Bool} {w : Val} : ac T0 (h.put id (some (.cells (ak w).cells e g))) 35 (.ptr id 0) = some (ak w) := by
 rw [cQ, ah, bN (Nat.zero_le _)]; exact iV w
theorem Aw {v : Val} {nm : List UInt8} {j : Nat} (hk : v.kind = 5) (h : gj v nm = (j : Nat)) : pv v nm = some (v.fields.getD j default).v := by
 unfold pv; rw [h, if_pos (by omega)]; rfl
theorem sO {v : Val} {nm : List UInt8} (h : gj v nm = -1) : pv v nm = none := by
 unfold pv; rw [h, if_neg (by omega)]
theorem c101 (v : Val) (nm : List UInt8) (sm : smV v) : R T0 101 [ak v, .s nm] (gtR (pv v nm)) := by
 obtain ⟨-, ls, ll, lf, ol, of_⟩ := bU sm
 refine r101 _ _ (by rw [ax]; rfl) (by rw [ax]; rfl) ?_
 unfold w101
 dsimp only [av]
 by_cases hk : v.kind = 5
 ·simp (disch := first | omega | assumption | (intros; simp only [dl3]; try omega)) only [vb0, ne_eq, aZ, vb8, aC, vb1, bx, mC, ck, ofz, hk, cJ]
  refine ij (X := Nat) (fun _ => .ptr 1 0) (fun _ => .s nm) (fun _ => .lst (v.fields.map ay)) (fun _ => .i .i64 (v.fields.length : Nat)) (fun j => .i .i64 (j : Nat))
   (fun j σ => j <= v.fields.length /\ 2 <= σ.n /\ σ.h.get 1 = some (.cells [.i .i64 0, .i .i64 0, .s [], .nilz true, .nilz true] 35 false) /\ (v.fields.take j).all (fun f => !(f.name == nm)) = true) (fun j => v.fields.length - j) ?_ 0 _ ⟨Nat.zero_le _, Nat.le_refl _, ah _ _ _, rfl⟩
  rintro R j σ ⟨hj, hn, b1, ha⟩ hR
  simp only [cm]
  refine aV (fun h => ?_) (fun h => ?_)
  ·have hj' : j < v.fields.length := by omega
   have smf := (fO (of_ _ (aS hj'))).2
   have c1 : 1 <= (ay (v.fields.getD j default)).cells.length := by rw [bq]; decide
   have b2 : ((σ.h.put σ.n (some (.cells [.s [], .i .i64 0, .i .i64 0, .s [], .nilz true, .nilz true] 52 false))).put σ.n (some (.cells (ay (v.fields.getD j default)).cells 52 false))).get 1 = some (.cells [.i .i64 0, .i .i64 0, .s [], .nilz true, .nilz true] 35 false) := by rw [ae _ _ (by omega), ae _ _ (by omega)]; exact b1
   cases hs : ((v.fields.getD j default).name == nm)
   ·simp (disch := first | omega | assumption | (intros; simp only [dl3]; try omega)) only [vb0, ne_eq, aZ, vb8, aC, vb1, bx, mC, ck, ofz, hs]
    refine hR (j + 1) ⟨_, _⟩ ?_ (by omega)
    exact ⟨by omega, by dsimp only; omega, b2, aR (d := default) ha hj' (by rw [hs]; rfl)⟩
   ·rw [Aw (j := j) hk (by unfold gj; rw [if_pos hk]; exact jA (d := default) ha hj' hs)]
    simp (disch := first | omega | assumption | (intros; simp only [dl3]; try omega)) only [vb0, ne_eq, aZ, vb8, aC, vb1, bx, mC, ck, ofz, hs, bN c1, e107 smf, dM rfl b2, vu, ozvb, gtR]
  ·rw [sO (by unfold gj; rw [if_pos hk]; exact ik (cF ha (by omega)))]
   simp (disch := first | omega | assumption | (intros; simp only [dl3]; try omega)) only [aa, aH, jh, jI rfl b1, tW, ozz, gtR]
 ·rw [sO (by unfold gj; rw [if_neg hk])]
  have b1 : ((Tr.nil.put 0 (some (.cells (ak v).cells 35 false))).put 1 (some (.cells [.i .i64 0, .i .i64 0, .s [], .nilz true, .nilz true] 35 false)) : Tr AB).get 1 = some (.cells [.i .i64 0, .i .i64 0, .s [], .nilz true, .nilz true] 35 false) := ah _ _ _
  simp (disch := first | omega | assumption | (intros; simp only [dl3]; try omega)) only [vb0, ne_eq, aZ, vb8, aC, vb1, bx, mC, ck, ofz, hk, cW, jh, jI rfl b1, tW, ozz, gtR]
theorem e101 {v : Val} {nm : List UInt8} (sm : smV v) {d : Nat} {σ : AS} {K : AV -> AS -> Prop} : oC T0 d 101 [ak v, .s nm] σ K = K (gtR (pv v nm)) σ := (c101 v nm sm).eq d σ K
theorem c76 (v : Val) (x : XStep) (sm : smV v) : R T0 76 [ak v, am x] (.b (mtB v x.name_ x.value_)) := by
 refine r76 _ _ (by rw [ax]; rfl) (by rw [ax]; rfl) ?_
 unfold w76
 dsimp only [av]
 unfold mtB
 have e := fun (d : Nat) (σ : AS) (K : AV -> AS -> Prop) => e101 (nm := x.name_) sm (d := d) (σ := σ) (K := K)
 cases hg : pv v x.name_ with
 | none =>
  rw [hg] at e
  simp (disch := first | omega | assumption | (intros; simp only [dl3]; try omega)) only [vb0, ne_eq, vb8, vb1, bx, jU, List.getElem?_cons_zero, List.getElem?_cons_succ, vb5, jZ, ck, ofz, e, gtR, ex0, ex1]
 | some w =>
  rw [hg] at e
  simp only [gtR] at e
  simp only []
  by_cases hk : w.kind = 3
  ·rw [decide_eq_true hk, Bool.true_and]
   simp (disch := first | omega | assumption | (intros; simp only [dl3]; try omega)) only [vb0, ne_eq, vb8, vb1, bx, jU, List.getElem?_cons_zero, List.getElem?_cons_succ, vb5, jZ, ck, ofz, e, ex0, ex1, cJ]
  ·rw [decide_eq_false hk, Bool.false_and]
   simp (disch := first | omega | assumption | (intros; simp only [dl3]; try omega)) only [vb0, ne_eq, vb8, vb1, bx, jU, List.getElem?_cons_zero, List.getElem?_cons_succ, vb5, jZ, ck, ofz, e, ex0, ex1, cW]
theorem e76 {v : Val} {x : XStep} (sm : smV v) {d : Nat} {σ : AS} {K : AV -> AS -> Prop} : oC T0 d 76 [ak v, am x] σ K = K (.b (mtB v x.name_ x.value_)) σ := (c76 v x sm).eq d σ K
theorem c75 (v : Val) (x : XStep) (sm : smV v) : R T0 75 [ak v, .iptr (am x).cells] (.b (mtB v x.name_ x.value_)) := by
 refine r75 _ _ (by rw [ax]; rfl) (by rw [ax]; rfl) ?_
 unfold w75
 dsimp only [av]
 simp (disch := first | omega | assumption | (intros; simp only [dl3]; try omega)) only [vb0, ne_eq, vb1, ck, ofz, e76 sm]
theorem e75 {v : Val} {x : XStep} (sm : smV v) {d : Nat} {σ : AS} {K : AV -> AS -> Prop} : oC T0 d 75 [ak v, .iptr (am x).cells] σ K = K (.b (mtB v x.name_ x.value_)) σ := (c75 v x sm).eq d σ K
theorem c73 (f : Fld) (x : XStep) : R T0 73 [ay f, .iptr (am x).cells] (.b (f.name == x.name_)) := by
 refine r73 _ _ (by rw [bh, ax]; rfl) (by rw [bh, ax]; rfl) ?_
 unfold w73
 dsimp only [av]
 simp (disch := first | omega | assumption | (intros; simp only [dl3]; try omega)) only [vb4, ne_eq, vb8, vb1, bx, ck, ofz, dE]
theorem e73 {f : Fld} {x : XStep} {d : Nat} {σ : AS} {K : AV -> AS -> Prop} : oC T0 d 73 [ay f, .iptr (am x).cells] σ K = K (.b (f.name == x.name_)) σ := (c73 f x).eq d σ K
theorem c74 (l : List Val) (x : XStep) (hl : l.length <= 100000) (sm : ∀ v ∈ l, smV v) : R T0 74 [.lst (l.map ak), .fn 75 [] [.iptr (am x).cells]] (.i .i64 (cS (fun e => mtB e x.name_ x.value_) l)) := by
 refine r74 _ _ rfl rfl ?_
 unfold w74
 dsimp only [av]
 simp (disch := first | omega | assumption | (intros; simp only [dl3]; try omega)) only [aa, nJ, cd]
 refine kw (X := Nat) (fun _ => .lst (l.map ak)) (fun _ => .fn 75 [] [.iptr (am x).cells]) (fun _ => .i .i64 (l.length : Nat)) (fun j => .i .i64 (j : Nat)) (fun j σ => j <= l.length /\ (l.take j).all (fun e => !mtB e x.name_ x.value_) = true) (fun j => l.length - j) ?_ 0 _ ⟨Nat.zero_le _, rfl⟩
 rintro R j σ ⟨hj, ha⟩ hR
 simp only [cm]
 refine aV (fun h => ?_) (fun h => ?_)
 ·have hj' : j < l.length := by omega
  have e := fun (d : Nat) (σ : AS) (K : AV -> AS -> Prop) => e75 (x := x) (sm _ (aS hj')) (d := d) (σ := σ) (K := K)
  cases hs : mtB (l.getD j default) x.name_ x.value_
  ·rw [hs] at e
   simp (disch := first | omega | assumption | (intros; simp only [dl3]; try omega)) only [vb4, ne_eq, aZ, aC, vb1, ck, ofz, lv, List.nil_append, List.cons_append, e]
   exact hR (j + 1) _ ⟨by omega, aR (d := default) ha hj' (by rw [hs]; rfl)⟩ (by omega)
  ·rw [hs] at e
   simp (disch := first | omega | assumption | (intros; simp only [dl3]; try omega)) only [vb4, ne_eq, aZ, aC, vb1, ck, ofz, lv, List.nil_append, List.cons_append, e]
   rw [jA (q := fun e => mtB e x.name_ x.value_) (d := default) ha hj' hs]
 ·rw [ik (cF ha (by omega)), pu]
theorem c72 (l : List Fld) (x : XStep) (hl : l.length <= 100000) : R T0 72 [.lst (l.map ay), .fn 73 [] [.iptr (am x).cells]] (.i .i64 (cS (fun f => f.name == x.name_) l)) := by
 refine r72 _ _ rfl rfl ?_
 unfold w72
 dsimp only [av]
 simp (disch := first | omega | assumption | (intros; simp only [dl3]; try omega)) only [aa, nI, cd]
 refine kw (X := Nat) (fun _ => .lst (l.map ay)) (fun _ => .fn 73 [] [.iptr (am x).cells]) (fun _ => .i .i64 (l.length : Nat)) (fun j => .i .i64 (j : Nat)) (fun j σ => j <= l.length /\ (l.take j).all (fun f => !(f.name == x.name_)) = true) (fun j => l.length - j) ?_ 0 _ ⟨Nat.zero_le _, rfl⟩
 rintro R j σ ⟨hj, ha⟩ hR
 simp only [cm]
 refine aV (fun h => ?_) (fun h => ?_)
 ·have hj' : j < l.length := by omega
  have e := fun (d : Nat) (σ : AS) (K : AV -> AS -> Prop) => e73 (f := l.getD j default) (x := x) (d := d) (σ := σ) (K := K)
  cases hs : ((l.getD j default).name == x.name_)
  ·rw [hs] at e
   simp (disch := first | omega | assumption | (intros; simp only [dl3]; try omega)) only [vb4, ne_eq, aZ, aC, vb1, ck, ofz, lv, List.nil_append, List.cons_append, e]
   exact hR (j + 1) _ ⟨by omega, aR (d := default) ha hj' (by rw [hs]; rfl)⟩ (by omega)
  ·rw [hs] at e
   simp (disch := first | omega | assumption | (intros; simp only [dl3]; try omega)) only [vb4, ne_eq, aZ, aC, vb1, ck, ofz, lv, List.nil_append, List.cons_append, e]
   rw [jA (q := fun f : Fld => f.name == x.name_) (d := default) ha hj' hs]
 ·rw [ik (cF ha (by omega)), pu]
theorem c49 (v : Val) (x : XStep) (sm : smV v) : R T0 49 [ak v, am x] (.i .i64 (chI v x)) := by
 obtain ⟨-, ls, ll, lf, ol, of_⟩ := bU sm
 refine r49 _ _ (by rw [ax]; rfl) (by rw [ax]; rfl) ?_
 unfold w49
 dsimp only [av]
 have e72 : ∀ (σ : AS), σ = ⟨(Tr.nil.put 0 (some (.cells (ak v).cells 35 false))).put 1 (some (.cells (am x).cells 50 false)), 1 + 1⟩ -> ∀ (d : Nat) (K : AV -> AS -> Prop), oC T0 d 72 [.lst (v.fields.map ay), .fn 73 [] [.ptr 1 0]] σ K = K (.i .i64 (cS (fun f : Fld => f.name == x.name_) v.fields)) σ := fun σ hσ d K => by
  subst hσ
  exact (R.lent (m := 3) (args' := [.lst (v.fields.map ay), .fn 73 [] [.iptr (am x).cells]]) (by kernel_rfl) (by kernel_rfl) (by kernel_rfl) rfl rfl rfl rfl (by kernel_rfl) (c72 v.fields x lf)).eq d K
 have e74 : ∀ (σ : AS), σ = ⟨(Tr.nil.put 0 (some (.cells (ak v).cells 35 false))).put 1 (some (.cells (am x).cells 50 false)), 1 + 1⟩ -> ∀ (d : Nat) (K : AV -> AS -> Prop), oC T0 d 74 [.lst (v.list.map ak), .fn 75 [] [.ptr 1 0]] σ K = K (.i .i64 (cS (fun e : Val => mtB e x.name_ x.value_) v.list)) σ := fun σ hσ d K => by
  subst hσ
  exact (R.lent (m := 3) (args' := [.lst (v.list.map ak), .fn 75 [] [.iptr (am x).cells]]) (by kernel_rfl) (by kernel_rfl) (by kernel_rfl) rfl rfl rfl rfl (by kernel_rfl) (c74 v.list x ll ol)).eq d K
 have e72' := e72 _ rfl
 have e74' := e74 _ rfl
 by_cases k1 : x.kind_ = 1
 ·by_cases v5 : v.kind = 5
  ·rw [show chI v x = cS (fun f : Fld => f.name == x.name_) v.fields from if_pos ⟨k1, v5⟩]
   simp (disch := first | omega | assumption | (intros; simp only [dl3]; try omega)) only [vb0, ne_eq, aZ, vb8, vb1, bx, vb5, jo, cJ, e72']
  ·rw [show chI v x = -1 by unfold chI; rw [if_neg (fun q => v5 q.2), if_neg (fun q => by omega), if_neg (fun q => by omega)]]
   simp (disch := first | omega | assumption | (intros; simp only [dl3]; try omega)) only [vb0, ne_eq, aZ, vb8, vb1, bx, vb5, jo, cJ, cW]
 ·by_cases k2 : x.kind_ = 2
  ·by_cases v4 : v.kind = 4
   ·by_cases hi : x.index_ < (v.list.length : Nat)
    ·rw [show chI v x = x.index_ by unfold chI; rw [if_neg (fun q => k1 q.1), if_pos ⟨k2, v4, hi⟩]]
     simp (disch := first | omega | assumption | (intros; simp only [dl3]; try omega)) only [vb0, ne_eq, aZ, vb8, vb1, bx, vb5, jo, cJ, cW]
    ·rw [show chI v x = -1 by unfold chI; rw [if_neg (fun q => k1 q.1), if_neg (fun q => hi q.2.2), if_neg (fun q => by omega)]]
     simp (disch := first | omega | assumption | (intros; simp only [dl3]; try omega)) only [vb0, ne_eq, aZ, vb8, vb1, bx, vb5, jo, cJ, cW]
   ·rw [show chI v x = -1 by unfold chI; rw [if_neg (fun q => k1 q.1), if_neg (fun q => v4 q.2.1), if_neg (fun q => v4 q.2)]]
    simp (disch := first | omega | assumption | (intros; simp only [dl3]; try omega)) only [vb0, ne_eq, aZ, vb8, vb1, bx, vb5, jo, cJ, cW]
  ·by_cases k3 : x.kind_ = 3 /\ v.kind = 4
   ·obtain ⟨k3, v4⟩ := k3
    rw [show chI v x = cS (fun e : Val => mtB e x.name_ x.value_) v.list by unfold chI; rw [if_neg (fun q => k1 q.1), if_neg (fun q => k2 q.1), if_pos ⟨k3, v4⟩]]
    simp (disch := first | omega | assumption | (intros; simp only [dl3]; try omega)) only [vb0, ne_eq, aZ, vb8, vb1, bx, vb5, jo, cJ, cW, e74']
   ·rw [show chI v x = -1 by unfold chI; rw [if_neg (fun q => k1 q.1), if_neg (fun q => k2 q.1), if_neg k3]]
    by_cases k : x.kind_ = 3
    ·simp (disch := first | omega | assumption | (intros; simp only [dl3]; try omega)) only [vb0, ne_eq, aZ, vb8, vb1, bx, vb5, jo, cJ, cW]
    ·simp (disch := first | omega | assumption | (intros; simp only [dl3]; try omega)) only [vb0, ne_eq, aZ, vb8, vb1, bx, vb5, jo, cJ, cW]
theorem e49 {v : Val} {x : XStep} (sm : smV v) {d : Nat} {σ : AS} {K : AV -> AS -> Prop} : oC T0 d 49 [ak v, am x] σ K = K (.i .i64 (chI v x)) σ := (c49 v x sm).eq d σ K
theorem wH : type_of% (And.intro @gtt_8 (And.intro @gff_8 (And.intro @vO (And.intro @gft_8 (And.intro @gvv_8 (And.intro @gnt_8 (And.intro @gnf_8 (And.intro @cJ @cW)))))))) := And.intro @gtt_8 (And.intro @gff_8 (And.intro @vO (And.intro @gft_8 (And.intro @gvv_8 (And.intro @gnt_8 (And.intro @gnf_8 (And.intro @cJ @cW)))))))
theorem c79 (v : Val) (nm : List UInt8) (sm : smV v) : R T0 79 [ak v, .s nm] (.i .i64 (gj v nm)) := by
 obtain ⟨-, ls, ll, lf, ol, of_⟩ := bU sm
 refine r79 _ _ (by rw [ax]; rfl) (by rw [ax]; rfl) ?_
 unfold w79
 dsimp only [av]
 rw [bu]
 refine fL (X := Nat) (fun _ => .s nm) (fun _ => .ptr 0 0) (fun j => .i .i64 (j : Nat)) (fun j σ => j <= v.fields.length /\ σ.h.get 0 = some (.cells (ak v).cells 35 false) /\ (v.kind = 5 -> (v.fields.take j).all (fun f => !(f.name == nm)) = true)) (fun j => v.fields.length - j) ?_ 0 _ ⟨Nat.zero_le _, ah _ _ _, fun _ => rfl⟩
 rintro R j σ ⟨hj, hg, ha⟩ hR
 by_cases hj' : j < v.fields.length
 ·by_cases k5 : v.kind = 5
  ·have ha := ha k5
   cases hs : ((v.fields.getD j default).name == nm)
   ·simp (disch := first | omega | assumption | (intros; simp only [dl3]; try omega)) only [vb0, ne_eq, aZ, vb8, aC, vb1, bx, wH, hg, ck, hs]
    exact hR (j + 1) _ ⟨by omega, hg, fun _ => aR (d := default) ha hj' (by rw [hs]; rfl)⟩ (by omega)
   ·rw [show gj v nm = (j : Nat) by unfold gj; rw [if_pos k5]; exact jA (d := default) ha hj' hs]
    simp (disch := first | omega | assumption | (intros; simp only [dl3]; try omega)) only [vb0, ne_eq, aZ, vb8, aC, vb1, bx, wH, hg, ck, hs]
  ·simp (disch := first | omega | assumption | (intros; simp only [dl3]; try omega)) only [vb0, ne_eq, aZ, vb8, aC, vb1, bx, wH, hg, ck]
   exact hR (j + 1) _ ⟨by omega, hg, fun q => absurd q k5⟩ (by omega)
 ·rw [show gj v nm = -1 by
   unfold gj
   by_cases k5 : v.kind = 5
   ·rw [if_pos k5]; exact ik (cF (ha k5) (by omega))
   ·rw [if_neg k5]]
  simp (disch := first | omega | assumption | (intros; simp only [dl3]; try omega)) only [vb0, ne_eq, aZ, vb8, aC, vb1, bx, wH, hg]
theorem e79 {v : Val} {nm : List UInt8} (sm : smV v) {d : Nat} {σ : AS} {K : AV -> AS -> Prop} : oC T0 d 79 [ak v, .s nm] σ K = K (.i .i64 (gj v nm)) σ := (c79 v nm sm).eq d σ K
theorem c80 (v : Val) (nm s : List UInt8) (sm : smV v) : R T0 80 [ak v, .s nm, .s s] (.b (mtB v nm s)) := by
 have hb := fldI_bnd v nm
 refine r80 _ _ _ (by rw [ax]; rfl) (by rw [ax]; rfl) ?_
 unfold w80
 dsimp only [av]
 by_cases h0 : 0 <= gj v nm
 ·have hg : pv v nm = some (v.fields.getD (gj v nm).toNat default).v := by unfold pv; rw [if_pos h0]
  unfold mtB
  rw [hg]
  simp only []
  have d1 : 1 <= (ay (v.fields.getD (gj v nm).toNat default)).cells.length := by rw [bq]; decide
  have g0 : aJ T0 3 (List.drop 0 (List.drop 1 (ay (v.fields.getD (gj v nm).toNat default)).cells)) = some (.i .i64 (v.fields.getD (gj v nm).toNat default).v.kind) := by rw [List.drop_zero]; exact fld_F_v0 _
  have g2 : aJ T0 9 (List.drop 2 (List.drop 1 (ay (v.fields.getD (gj v nm).toNat default)).cells)) = some (.s (v.fields.getD (gj v nm).toNat default).v.s) := by rw [List.drop_drop]; exact fld_F_v2 _
  by_cases hk : (v.fields.getD (gj v nm).toNat default).v.kind = 3
  ·rw [decide_eq_true hk, Bool.true_and]
   simp (disch := first | omega | assumption | (intros; simp only [dl3]; try omega)) only [vb0, ne_eq, fK, vb8, vb1, bx, wH, gtt_9, yW, yO, gft_9, gvv_9, gnt_9, gnf_9, e79 sm, ck, g0, g2]
  ·rw [decide_eq_false hk, Bool.false_and]
   simp (disch := first | omega | assumption | (intros; simp only [dl3]; try omega)) only [vb0, ne_eq, fK, vb8, vb1, bx, wH, gtt_9, yW, yO, gft_9, gvv_9, gnt_9, gnf_9, e79 sm, ck, g0, g2]
 ·have hg : pv v nm = none := by unfold pv; rw [if_neg h0]
  unfold mtB
  rw [hg]
  simp (disch := first | omega | assumption | (intros; simp only [dl3]; try omega)) only [vb0, ne_eq, fK, vb8, vb1, bx, wH, gtt_9, yW, yO, gft_9, gvv_9, gnt_9, gnf_9, e79 sm, ck]
theorem e80 {v : Val} {nm s : List UInt8} (sm : smV v) {d : Nat} {σ : AS} {K : AV -> AS -> Prop} : oC T0 d 80 [ak v, .s nm, .s s] σ K = K (.b (mtB v nm s)) σ := (c80 v nm s sm).eq d σ K
theorem c51 (v : Val) (x : XStep) (sm : smV v) (hk : x.kind_ = 1 ∨ x.kind_ = 2 ∨ x.kind_ = 3) : R T0 51 [ak v, am x] (.i .i64 (chI v x)) := by
 obtain ⟨-, ls, ll, lf, ol, of_⟩ := bU sm
 refine r51 _ _ (by rw [ax]; rfl) (by rw [ax]; rfl) ?_
 unfold w51
 dsimp only [av]
 by_cases k1 : x.kind_ = 1
 ·have e : chI v x = gj v x.name_ := by
   unfold chI gj
   by_cases v5 : v.kind = 5
   ·rw [if_pos ⟨k1, v5⟩, if_pos v5]
   ·rw [if_neg (fun q => v5 q.2), if_neg (fun q => by omega), if_neg (fun q => by omega), if_neg v5]
  rw [e]
  simp (disch := first | omega | assumption | (intros; simp only [dl3]; try omega)) only [vb0, ne_eq, aZ, vb8, eH, aC, vb1, bx, e79 sm, cJ, cW]
 ·by_cases v4 : v.kind = 4
  ·by_cases k2 : x.kind_ = 2
   ·by_cases hi : x.index_ < (v.list.length : Nat)
    ·rw [show chI v x = x.index_ by unfold chI; rw [if_neg (fun q => k1 q.1), if_pos ⟨k2, v4, hi⟩]]
     simp (disch := first | omega | assumption | (intros; simp only [dl3]; try omega)) only [vb0, ne_eq, aZ, vb8, eH, aC, vb1, bx, cJ, cW]
    ·rw [show chI v x = -1 by unfold chI; rw [if_neg (fun q => k1 q.1), if_neg (fun q => hi q.2.2), if_neg (fun q => by omega)]]
     simp (disch := first | omega | assumption | (intros; simp only [dl3]; try omega)) only [vb0, ne_eq, aZ, vb8, eH, aC, vb1, bx, cJ, cW]
   ·rw [show chI v x = cS (fun e : Val => mtB e x.name_ x.value_) v.list by unfold chI; rw [if_neg (fun q => k1 q.1), if_neg (fun q => k2 q.1), if_pos ⟨by omega, v4⟩]]
    simp (disch := first | omega | assumption | (intros; simp only [dl3]; try omega)) only [vb0, ne_eq, aZ, vb8, eH, aC, vb1, bx, cJ, cW]
    refine fL (X := Nat) (fun _ => .ptr 1 0) (fun _ => .ptr 0 0) (fun j => .i .i64 (j : Nat)) (fun j σ => j <= v.list.length /\ σ.h.get 0 = some (.cells (ak v).cells 35 false) /\ σ.h.get 1 = some (.cells (am x).cells 50 false) /\ (v.list.take j).all (fun e => !mtB e x.name_ x.value_) = true) (fun j => v.list.length - j) ?_ 0 _ ⟨Nat.zero_le _, (ae _ _ (by decide)).trans (ah _ _ _), ah _ _ _, rfl⟩
    rintro R j σ ⟨hj, hg, hx, ha⟩ hR
    by_cases hj' : j < v.list.length
    ·have e := fun (d : Nat) (σ : AS) (K : AV -> AS -> Prop) => e80 (nm := x.name_) (s := x.value_) (ol _ (aS hj')) (d := d) (σ := σ) (K := K)
     cases hs : mtB (v.list.getD j default) x.name_ x.value_
     ·rw [hs] at e
      simp (disch := first | omega | assumption | (intros; simp only [dl3]; try omega)) only [vb0, ne_eq, aZ, vb8, eH, aC, vb1, bx, hg, hx, cJ, cW, e]
      exact hR (j + 1) _ ⟨by omega, hg, hx, aR (d := default) ha hj' (by rw [hs]; rfl)⟩ (by omega)
     ·rw [hs] at e
      rw [jA (q := fun e => mtB e x.name_ x.value_) (d := default) ha hj' hs]
      simp (disch := first | omega | assumption | (intros; simp only [dl3]; try omega)) only [vb0, ne_eq, aZ, vb8, eH, aC, vb1, bx, hg, hx, cJ, cW, e]
    ·rw [ik (cF ha (by omega))]
     simp (disch := first | omega | assumption | (intros; simp only [dl3]; try omega)) only [vb0, ne_eq, aZ, vb8, eH, aC, vb1, bx, hg, cJ, cW]
  ·rw [show chI v x = -1 by unfold chI; rw [if_neg (fun q => k1 q.1), if_neg (fun q => v4 q.2.1), if_neg (fun q => v4 q.2)]]
   simp (disch := first | omega | assumption | (intros; simp only [dl3]; try omega)) only [vb0, ne_eq, aZ, vb8, eH, aC, vb1, bx, cJ, cW]
theorem e51 {v : Val} {x : XStep} (sm : smV v) (hk : x.kind_ = 1 ∨ x.kind_ = 2 ∨ x.kind_ = 3) {d : Nat} {σ : AS} {K : AV -> AS -> Prop} : oC T0 d 51 [ak v, am x] σ K = K (.i .i64 (chI v x)) σ := (c51 v x sm hk).eq d σ K
def br (v : Val) (x : XStep) : Option Val := if chI v x < 0 then none else some (if x.kind_ = 1 then (v.fields.getD (chI v x).toNat default).v else v.list.getD (chI v x).toNat default)
def dS : Val -> List XStep -> Option Val
 | v, [] => some v
 | v, x :: p => match br v x with
  | none => none
  | some w => dS w p
theorem dD (v : Val) : dS v [] = some v := by rw [dS]
theorem cj {v : Val} {x : XStep} {p : List XStep} (h : br v x = none) : dS v (x :: p) = none := by rw [dS, h]
theorem bJ {v w : Val} {x : XStep} {p : List XStep} (h : br v x = some w) : dS v (x :: p) = dS w p := by rw [dS, h]
theorem gy {v : Val} {x : XStep} (h : 0 <= chI v x) : (x.kind_ = 1 -> chI v x < (v.fields.length : Nat)) /\ (x.kind_ ≠ 1 -> chI v x < (v.list.length : Nat)) := by
 unfold chI at h |-
 split
 ·rename_i k; exact ⟨fun _ => (qP _ _).2, fun q => absurd k.1 q⟩
 ·split
  ·rename_i k; exact ⟨fun q => by omega, fun _ => k.2.2⟩
  ·split
   ·rename_i k; exact ⟨fun q => by omega, fun _ => (qP _ _).2⟩
   ·rename_i k1 k2 k3; rw [if_neg k1, if_neg k2, if_neg k3] at h; omega
theorem gG {v w : Val} {x : XStep} (sm : smV v) (h : br v x = some w) : smV w := by
 obtain ⟨-, ls, ll, lf, ol, of_⟩ := bU sm
 unfold br at h
 split at h
 ·cases h
 ·rename_i h0
  have hb := gy (v := v) (x := x) (by omega)
  injection h with h; subst h
  split
  ·rename_i k; have := hb.1 k; exact (fO (of_ _ (aS (by omega)))).2
  ·rename_i k; have := hb.2 k; exact ol _ (aS (by omega))
theorem yX : ∀ {p : List XStep} {v w : Val}, smV v -> dS v p = some w -> smV w
 | [], v, w, sm, h => by rw [dD] at h; injection h with h; rw [<- h]; exact sm
 | x :: p, v, w, sm, h => by
  cases hs : br v x with
  | none => rw [cj hs] at h; cases h
  | some u => rw [bJ hs] at h; exact yX (gG sm hs) h
def qV (v : Val) (p : List XStep) : AV := gtR (if dw p = true then dS v p else none)
theorem AG {p : List XStep} {j : Nat} (h : j < p.length) : p.drop j = p.getD j default :: p.drop (j + 1) := by
 rw [List.drop_eq_getElem_cons h, List.getD_eq_getElem?_getD, List.getElem?_eq_getElem h]; rfl
theorem c23 (v : Val) (p : List XStep) (sm : smV v) (hp : p.length <= 140737488351232) (ox : ∀ x ∈ p, bz x) : R T0 23 [ak v, .lst (p.map am)] (qV v p) := by
 refine r23 _ _ (by rw [ax]; rfl) (by rw [ax]; rfl) ?_
 unfold w23
 dsimp only [av]
 have b1 : ((Tr.nil.put 0 (some (.cells (ak v).cells 35 false))).put 1 (some (.cells [.i .i64 0, .i .i64 0, .s [], .nilz true, .nilz true] 35 false)) : Tr AB).get 1 = some (.cells [.i .i64 0, .i .i64 0, .s [], .nilz true, .nilz true] 35 false) := ah _ _ _
 by_cases hb : dw p = true
 ·rw [show qV v p = gtR (dS v p) by unfold qV; rw [if_pos hb]]
  simp (disch := first | omega | assumption | (intros; simp only [dl3]; try omega)) only [vb0, ne_eq, aZ, vb8, hJ, vb7, bx, sK, qR, iY, e13 hp ox, hb]
  refine ij (X := Nat × Val) (fun _ => .ptr 1 0) (fun _ => .ptr 0 0) (fun _ => .lst (p.map am)) (fun _ => .i .i64 (p.length : Nat)) (fun x => .i .i64 (x.1 : Nat))
   (fun x σ => x.1 <= p.length /\ smV x.2 /\ 2 <= σ.n /\ σ.h.get 0 = some (.cells (ak x.2).cells 35 false) /\ σ.h.get 1 = some (.cells [.i .i64 0, .i .i64 0, .s [], .nilz true, .nilz true] 35 false) /\ dS v p = dS x.2 (p.drop x.1)) (fun x => p.length - x.1) ?_ (0, v) _
   ⟨Nat.zero_le _, sm, Nat.le_refl _, (ae _ _ (by decide)).trans (ah _ _ _), b1, rfl⟩
  clear b1
  rintro R ⟨j, w⟩ σ ⟨hj, sw, hn, g0, b1, hv⟩ hR
  dsimp only at hj sw g0 hv hR |-
  simp only [cm]
  refine aV (fun h => ?_) (fun h => ?_)
  ·have hj' : j < p.length := by omega
   have hst : bt (p.getD j default) = true := (jx hb).2 _ (aS hj')
   rw [AG hj'] at hv
   have i0 : ((σ.h.put σ.n (some (.cells (am x0).cells 50 false))).put σ.n (some (.cells (am (p.getD j default)).cells 50 false))).get 0 = some (.cells (ak w).cells 35 false) := by rw [ae _ _ (by omega), ae _ _ (by omega)]; exact g0
   have i1 : ((σ.h.put σ.n (some (.cells (am x0).cells 50 false))).put σ.n (some (.cells (am (p.getD j default)).cells 50 false))).get 1 = some (.cells [.i .i64 0, .i .i64 0, .s [], .nilz true, .nilz true] 35 false) := by rw [ae _ _ (by omega), ae _ _ (by omega)]; exact b1
   obtain ⟨x, hx⟩ : ∃ x, p.getD j default = x := ⟨_, rfl⟩
   rw [hx] at hv i0 i1 hst
   have hbx := gy (v := w) (x := x)
   by_cases hc : chI w x < 0
   ·have hs : br w x = none := if_pos hc
    rw [cj hs] at hv
    rw [hv]
    simp (disch := first | omega | assumption | (intros; simp only [dl3]; try omega)) only [vb0, ne_eq, aZ, vb8, hJ, vb1, bx, iY, xB, st50n, hx, i0, e49 sw, cJ, cW, jh, jI rfl i1, ofz, ozz, gtR]
   ·by_cases k1 : x.kind_ = 1
    ·have hi := (hbx (by omega)).1 k1
     have hs : br w x = some ((w.fields.getD (chI w x).toNat default).v) := by unfold br; rw [if_neg hc, if_pos k1]
     rw [bJ hs] at hv
     have c1 : 1 <= (ay (w.fields.getD (chI w x).toNat default)).cells.length := by rw [bq]; decide
     simp (disch := first | omega | assumption | (intros; simp only [dl3]; try omega)) only [vb0, ne_eq, aZ, vb8, hJ, vb1, bx, iY, xB, st50n, hx, i0, e49 sw, cJ, cW, dM (by rw [bo]) i0]
     refine hR (j + 1, (w.fields.getD (chI w x).toNat default).v) ⟨_, _⟩ ?_ (by dsimp only; omega)
     refine ⟨by dsimp only; omega, gG sw hs, by dsimp only; omega, ah _ _ _, ?_, hv⟩
     dsimp only; rw [ae _ _ (by decide)]; exact i1
    ·have hi := (hbx (by omega)).2 k1
     have hs : br w x = some ((w.list.getD (chI w x).toNat default)) := by unfold br; rw [if_neg hc, if_neg k1]
     rw [bJ hs] at hv
     have c1 : 1 <= (ay (w.fields.getD (chI w x).toNat default)).cells.length := by rw [bq]; decide
     simp (disch := first | omega | assumption | (intros; simp only [dl3]; try omega)) only [vb0, ne_eq, aZ, vb8, hJ, vb1, bx, iY, xB, st50n, hx, i0, e49 sw, cJ, cW, dM (by rw [bo]) i0]
     refine hR (j + 1, w.list.getD (chI w x).toNat default) ⟨_, _⟩ ?_ (by dsimp only; omega)
     refine ⟨by dsimp only; omega, gG sw hs, by dsimp only; omega, ah _ _ _, ?_, hv⟩
     dsimp only; rw [ae _ _ (by decide)]; exact i1
  ·have ej : p.drop j = [] := List.drop_of_length_le (by omega)
   rw [ej, dD] at hv
   rw [hv]
   simp (disch := first | omega | assumption | (intros; simp only [dl3]; try omega)) only [vb0, ne_eq, aZ, vb8, hJ, vb1, bx, iY, dk g0 (Nat.zero_le _), g0, e50 sw, dM rfl b1, ozvb, gtR]
 ·rw [show qV v p = gtR none by unfold qV; rw [if_neg hb]]
  simp (disch := first | omega | assumption | (intros; simp only [dl3]; try omega)) only [vb0, ne_eq, aZ, vb8, hJ, vb7, bx, sK, qR, iY, e13 hp ox, Bool.not_eq_true _ |>.mp hb, jh, jI rfl b1, ofz, ozz, gtR]
theorem e23 {v : Val} {p : List XStep} (sm : smV v) (hp : p.length <= 140737488351232) (ox : ∀ x ∈ p, bz x) {d : Nat} {σ : AS} {K : AV -> AS -> Prop} : oC T0 d 23 [ak v, .lst (p.map am)] σ K = K (qV v p) σ := (c23 v p sm hp ox).eq d σ K
section
variable {T : Tab} {α : Type} {enc : α -> AV} {t e z by_ : Nat} {h : Tr AB} {l : List α} {id i : Nat}
theorem dl13 (E : El T enc t e z by_) (hi : i < l.length) : ∃ a, aL T h t (.sl id 0 l.length none) (some (.i .i64 (i : Nat))) (some (.i .i64 ((i + 1 : Nat) : Int))) (some (.i .i64 (l.length : Nat))) = some a := by
 have b1 : bnd l.length (some (.i .i64 (l.length : Nat))) = some l.length := by
  simp only [bnd]; rw [if_pos ⟨by omega, by omega⟩]; simp
 have b2 : bnd l.length (some (.i .i64 ((i + 1 : Nat) : Int))) = some (i + 1) := by
  simp only [bnd]; rw [if_pos ⟨by omega, by omega⟩]; simp
 have b3 : eU (i + 1) 0 (some (.i .i64 (i : Nat))) = some i := by
  simp only [eU, bnd]; rw [if_pos ⟨by omega, by omega⟩]; simp
 have b : bK l.length none (some (.i .i64 (i : Nat))) (some (.i .i64 ((i + 1 : Nat) : Int))) (some (.i .i64 (l.length : Nat))) = some (i, i + 1, some l.length) := by
  simp only [bK, Option.getD_none, b1, b2, b3]
 refine ⟨.sl id (if l.length = i then 0 else 0 + i * (z + 1)) (i + 1 - i) (some (l.length - i)), iv ?_⟩
 unfold cX
 simp only [E.ty, E.sz, b]
theorem dl22 (E : El T enc t e z by_) (hi : i <= l.length) : aL T h t (.sl id 0 l.length none) none (some (.i .i64 (i : Nat))) none = some (.sl id 0 i none) := by
 have b1 : eU l.length l.length (some (.i .i64 (i : Nat))) = some i := by
  simp only [eU, bnd]; rw [if_pos ⟨by omega, by omega⟩]; simp
 have b2 : eU i 0 none = some 0 := rfl
 have b : bK l.length none none (some (.i .i64 (i : Nat))) none = some (0, i, none) := by
  simp only [bK, Option.getD_none, b1, b2]
 refine iv ?_
 unfold cX
 simp only [E.ty, E.sz, b]
theorem dl25 (E : El T enc t e z by_) (hi : i < l.length) : aL T h t (.sl id 0 l.length none) (some (.i .i64 ((i + 1 : Nat) : Int))) none none = some (if i + 1 < l.length then .sl id ((i + 1) * (z + 1)) (l.length - (i + 1)) none else .lst []) := by
 have b1 : eU l.length l.length none = some l.length := rfl
 have b2 : eU l.length 0 (some (.i .i64 ((i + 1 : Nat) : Int))) = some (i + 1) := by
  simp only [eU, bnd]; rw [if_pos ⟨by omega, by omega⟩]; simp
 have b : bK l.length none (some (.i .i64 ((i + 1 : Nat) : Int))) none none = some (i + 1, l.length, none) := by
  simp only [bK, Option.getD_none, b1, b2]
 refine iv ?_
 unfold cX
 simp only [E.ty, E.sz, b]
 by_cases hn : i + 1 < l.length
 ·rw [if_pos hn, Nat.ble_eq_true_of_le (show i + 1 + 1 <= l.length from hn)]
  simp only [Nat.zero_add]
 ·rw [if_neg hn]
  have : Nat.ble (i + 1 + 1) l.length = false := by
   cases q : Nat.ble (i + 1 + 1) l.length
   ·rfl
   ·have := Nat.le_of_ble_eq_true q; omega
  rw [this]
theorem setN_pre : ∀ (c b : List AV), c.length <= b.length -> bL b 0 c = some (c ++ b.drop c.length) := by
 intro c b hl
 have e : b = b.take c.length ++ b.drop c.length := (List.take_append_drop _ _).symm
 have h1 := cf (b.take c.length) c (by rw [List.length_take]; omega)
 have h2 := iI (b.take c.length) (b.drop c.length) c c 0 h1
 rwa [<- e] at h2
theorem md (a c b : List AV) (hl : c.length <= b.length) : bL (a ++ b) a.length c = some (a ++ (c ++ b.drop c.length)) := by
 have := qr a b c 0
 rw [Nat.add_zero] at this
 rw [this, setN_pre c b hl]; rfl
theorem Aa (E : El T enc t e z by_) (l : List α) : aO (aw enc l) = true := by
 induction l with
 | nil => rfl
 | cons x l ih => simp only [aw, kM, E.leaf, ih, Bool.and_self]
theorem dlapp (E : El T enc t e z by_) {n : Nat} (hg : h.get id = some (.cells (aw enc l) e true)) (hi : i < l.length) (hs : cq l.length by_ = true) :
  ∃ h' C, aG T ⟨h, n⟩ t t (.sl id 0 i none) (if i + 1 < l.length then .sl id ((i + 1) * (z + 1)) (l.length - (i + 1)) none else .lst []) = some (.sl id 0 (l.length - 1) none, ⟨h', n⟩) /\ h'.get id = some (.cells (aw enc (l.eraseIdx i) ++ C) e true) /\ C.length = z + 1 /\ ∀ j, j ≠ id -> h'.get j = h.get j := by
 obtain ⟨zv, hzv⟩ := Option.isSome_iff_exists.1 E.zr
 have el : l.eraseIdx i = l.take i ++ l.drop (i + 1) := List.eraseIdx_eq_take_drop_succ l i
 have sp : aw enc l = aw enc (l.take i) ++ aw enc (l.drop i) := by rw [<- cP, List.take_append_drop]
 have l1 : (aw enc (l.take i)).length = i * (z + 1) := by rw [bS E, List.length_take]; congr 1; omega
 have l2 : (aw enc (l.drop i)).length = (l.length - i) * (z + 1) := by rw [bS E, List.length_drop]
 by_cases hn : i + 1 < l.length
 ·rw [if_pos hn]
  obtain ⟨k, hk⟩ : ∃ k, l.length - (i + 1) = k + 1 := ⟨l.length - (i + 1) - 1, by omega⟩
  have l3 : (aw enc (l.drop (i + 1))).length = (k + 1) * (z + 1) := by rw [bS E, List.length_drop, hk]
  have hd : (aw enc l).drop ((i + 1) * (z + 1)) = aw enc (l.drop (i + 1)) := by
   have : aw enc l = aw enc (l.take (i + 1)) ++ aw enc (l.drop (i + 1)) := by rw [<- cP, List.take_append_drop]
   rw [this]
   exact List.drop_left' (by rw [bS E, List.length_take]; congr 1; omega)
  have tk := ei (aw enc (l.drop (i + 1)))
  rw [l3] at tk
  have nr : bM h (z + 1) (k + 1) (.sl id ((i + 1) * (z + 1)) (k + 1) none) = some (aw enc (l.drop (i + 1))) := by
   unfold bM bg
   simp only [hg, hd]; exact tk
  have st : bL (aw enc l) (i * (z + 1)) (aw enc (l.drop (i + 1))) = some (aw enc (l.take i) ++ (aw enc (l.drop (i + 1)) ++ (aw enc (l.drop i)).drop ((k + 1) * (z + 1)))) := by
   rw [sp, <- l1, <- l3]
   exact md _ _ _ (by rw [l3, l2]; exact Nat.mul_le_mul_right _ (by omega))
  have b1 : Nat.beq e e = true := Nat.beq_refl e
  have b2 : Nat.beq (i * (z + 1)) (aw enc l).length = false := by
   cases q : Nat.beq (i * (z + 1)) (aw enc l).length
   ·rfl
   ·have := Nat.eq_of_beq_eq_true q
    rw [bS E] at this
    have q2 := Nat.mul_lt_mul_of_pos_right hi (Nat.succ_pos z)
    rw [show i * z.succ = i * (z + 1) from rfl, show l.length * z.succ = l.length * (z + 1) from rfl, this] at q2
    exact absurd q2 (Nat.lt_irrefl _)
  have e1 : i + (k + 1) = l.length - 1 := by omega
  have hs' : cq (i + (k + 1)) by_ = true := by
   unfold cq at hs |-
   simp only [Bool.and_eq_true] at hs |-
   obtain ⟨⟨a, b⟩, c⟩ := hs
   have a := Nat.le_of_ble_eq_true a
   have c := Nat.le_of_ble_eq_true c
   have := Nat.mul_le_mul_right by_ (show i + (k + 1) <= l.length by omega)
   exact ⟨⟨Nat.ble_eq_true_of_le (by omega), b⟩, Nat.ble_eq_true_of_le (by omega)⟩
  refine ⟨h.put id (some (.cells (aw enc (l.take i) ++ (aw enc (l.drop (i + 1)) ++ (aw enc (l.drop i)).drop ((k + 1) * (z + 1)))) e true)), (aw enc (l.drop i)).drop ((k + 1) * (z + 1)), ?_, ?_, ?_, fun j hj => ae _ _ hj⟩
  ·rw [hk]
   unfold aG
   rw [e1] at hs'
   simp only [E.ty, E.sz, E.bytes, hzv, iW, nr, hg, Aa E, hs', b1, b2, st, e1]
  ·rw [ah, el, cP, List.append_assoc]
  ·rw [List.length_drop, l2, <- Nat.sub_mul, show l.length - i - (k + 1) = 1 by omega, Nat.one_mul]
 ·rw [if_neg hn]
  refine ⟨h, aw enc (l.drop i), ?_, ?_, by rw [l2, show l.length - i = 1 by omega, Nat.one_mul], fun j hj => rfl⟩
  ·unfold aG
   have nr : bM h (z + 1) 0 (.lst []) = some [] := by unfold bM bg; simp [aM, cO]
   simp only [E.ty, E.sz, E.bytes, hzv, iW, List.length_nil, nr]
   rw [show i = l.length - 1 by omega]
  ·rw [hg, el, show l.drop (i + 1) = [] from List.drop_of_length_le (by omega), List.append_nil, <- sp]
theorem dl31 (E : El T enc t e z by_) {cs : List AV} {n : Nat} (hg : h.get id = some (.cells cs e true)) (hl : cs.length = (n + 1) * (z + 1)) : aL T h t (.sl id 0 n none) (some (.i .i64 (n : Nat))) (some (.i .i64 ((n + 1 : Nat) : Int))) none = some (.sl id (n * (z + 1)) 1 none) := by
 have b1 : eU n n (some (.i .i64 ((n + 1 : Nat) : Int))) = none := by
  simp only [eU, bnd]; rw [if_neg (by omega)]
 have e1 : cX T t (.sl id 0 n none) (some (.i .i64 (n : Nat))) (some (.i .i64 ((n + 1 : Nat) : Int))) none = none := by
  unfold cX
  simp only [E.ty, E.sz, bK, Option.getD_none, b1]
 have b2 : Nat.beq e e = true := Nat.beq_refl e
 unfold aL
 rw [e1]
 unfold mS
 simp only [E.ty, hg, E.sz, b2, Int.toNat_natCast]
 rw [if_pos ⟨by omega, by omega, by omega⟩, show n + 1 - n = 1 by omega]
end
theorem pP {T : Tab} {t e z by_ : Nat} {ag : Bool} {es : List AV} (E : RowT T t e z by_ ag) (h1 : RowE z ag es) {h : Tr AB} {id : Nat} {cap : Option Nat} {g : Bool} {C : List AV} (hg : h.get id = some (.cells (aM es ++ C) e g)) : fz T h 3 (.sl id 0 es.length cap) = some (.lst es) := by
 obtain ⟨d, hd, ha⟩ : ∃ d, T.ty e = some d /\ eJ d = ag := by
  have := E.ag
  cases hq : T.ty e with
  | none => rw [hq] at this; cases this
  | some d => rw [hq] at this; exact ⟨d, rfl, by simpa using this⟩
 unfold fz
 have hr := kb (aM es) C
 rw [h1.len] at hr
 simp only [AV.idfree, hg, E.sz, hd, List.drop_zero, hr, db _ _ h1.free, h1.nrm, ha, h1.ch, Option.map_some]
theorem zr_52 : ∃ zv : AV, T0.zr 52 = some zv /\ zv.cells = [.s [], .i .i64 0, .i .i64 0, .s [], .nilz true, .nilz true] := ⟨_, (by kernel_rfl : T0.zr 52 = some (.agg [.s [], .i .i64 0, .i .i64 0, .s [], .nilz true, .nilz true])), rfl⟩
theorem c81 {h : Tr AB} {n id i : Nat} {l : List Fld} (hg : h.get id = some (.cells (aw ay l) 52 true)) (hi : i < l.length) (hl : l.length <= 1000000) :
  ∃ h' C, Runs T0 81 [.sl id 0 l.length none, .i .i64 (i : Nat), .i .i64 ((i + 1 : Nat) : Int)] ⟨h, n⟩ (.sl id 0 (l.length - 1) none) ⟨h', n⟩ /\ h'.get id = some (.cells (aw ay (l.eraseIdx i) ++ C) 52 true) /\ ∀ j, j ≠ id -> h'.get j = h.get j := by
 obtain ⟨a, ha⟩ := dl13 (h := h) (id := id) elF hi
 obtain ⟨h1, C, g1, g2, g3, g4⟩ := dlapp (n := n) elF hg hi (gH (by decide) hl)
 have le : (l.eraseIdx i).length = l.length - 1 := by rw [List.length_eraseIdx]; simp [hi]
 have g5 : (aw ay (l.eraseIdx i) ++ C).length = (l.length - 1 + 1) * (5 + 1) := by rw [List.length_append, bS elF, le, g3, Nat.add_mul, Nat.one_mul]
 have q31 := dl31 (n := l.length - 1) elF g2 g5
 rw [show l.length - 1 + 1 = l.length by omega] at q31
 obtain ⟨zv, z1, z2⟩ := zr_52
 have q0 : eA T0 ⟨h1, n⟩ 33 (.sl id ((l.length - 1) * (5 + 1)) 1 none) = some (.tup [], ⟨h1.put id (some (.cells (aw ay (l.eraseIdx i) ++ zv.cells) 52 true)), n⟩) := by
  have st : bL (aw ay (l.eraseIdx i) ++ C) ((l.length - 1) * (5 + 1)) (dm zv.cells 1) = some (aw ay (l.eraseIdx i) ++ zv.cells) := by
   have r1 : dm zv.cells 1 = zv.cells := by rw [z2]; rfl
   have r2 : zv.cells.length = 5 + 1 := by rw [z2]; rfl
   rw [r1, <- le, <- bS elF, md _ _ _ (by omega), List.drop_of_length_le (by omega), List.append_nil]
  have lf : aO (dm zv.cells 1) = true := by rw [z2]; rfl
  unfold eA
  simp only [elF.ty, z1, g2, lf, st]
 refine ⟨_, zv.cells, r81 _ _ _ ?_, ah _ _ _, fun j hj => (ae _ _ hj).trans (g4 j hj)⟩
 unfold w81
 dsimp only [av]
 have d1 : decide (((i : Nat) : Int) = ((i + 1 : Nat) : Int)) = false := decide_eq_false (by omega)
 rw [gu elF.ty, aa, ha, aa, bZ, aa, d1, aA, aa, dl22 elF (by omega), aa, dl25 elF hi, aa, g1, aP, gu elF.ty, aa, q31, aa, q0, aP]
 exact ⟨rfl, rfl⟩
theorem zr_35 : ∃ zv : AV, T0.zr 35 = some zv /\ zv.cells = [.i .i64 0, .i .i64 0, .s [], .nilz true, .nilz true] := ⟨_, (by kernel_rfl : T0.zr 35 = some (.agg [.i .i64 0, .i .i64 0, .s [], .nilz true, .nilz true])), rfl⟩
theorem c82 {h : Tr AB} {n id i : Nat} {l : List Val} (hg : h.get id = some (.cells (aw ak l) 35 true)) (hi : i < l.length) (hl : l.length <= 1000000) :
  ∃ h' C, Runs T0 82 [.sl id 0 l.length none, .i .i64 (i : Nat), .i .i64 ((i + 1 : Nat) : Int)] ⟨h, n⟩ (.sl id 0 (l.length - 1) none) ⟨h', n⟩ /\ h'.get id = some (.cells (aw ak (l.eraseIdx i) ++ C) 35 true) /\ ∀ j, j ≠ id -> h'.get j = h.get j := by
 obtain ⟨a, ha⟩ := dl13 (h := h) (id := id) elV hi
 obtain ⟨h1, C, g1, g2, g3, g4⟩ := dlapp (n := n) elV hg hi (gH (by decide) hl)
 have le : (l.eraseIdx i).length = l.length - 1 := by rw [List.length_eraseIdx]; simp [hi]
 have g5 : (aw ak (l.eraseIdx i) ++ C).length = (l.length - 1 + 1) * (4 + 1) := by rw [List.length_append, bS elV, le, g3, Nat.add_mul, Nat.one_mul]
 have q31 := dl31 (n := l.length - 1) elV g2 g5
 rw [show l.length - 1 + 1 = l.length by omega] at q31
 obtain ⟨zv, z1, z2⟩ := zr_35
 have q0 : eA T0 ⟨h1, n⟩ 32 (.sl id ((l.length - 1) * (4 + 1)) 1 none) = some (.tup [], ⟨h1.put id (some (.cells (aw ak (l.eraseIdx i) ++ zv.cells) 35 true)), n⟩) := by
  have st : bL (aw ak (l.eraseIdx i) ++ C) ((l.length - 1) * (4 + 1)) (dm zv.cells 1) = some (aw ak (l.eraseIdx i) ++ zv.cells) := by
   have r1 : dm zv.cells 1 = zv.cells := by rw [z2]; rfl
   have r2 : zv.cells.length = 4 + 1 := by rw [z2]; rfl
   rw [r1, <- le, <- bS elV, md _ _ _ (by omega), List.drop_of_length_le (by omega), List.append_nil]
  have lf : aO (dm zv.cells 1) = true := by rw [z2]; rfl
  unfold eA
  simp only [elV.ty, z1, g2, lf, st]
 refine ⟨_, zv.cells, r82 _ _ _ ?_, ah _ _ _, fun j hj => (ae _ _ hj).trans (g4 j hj)⟩
 unfold w82
 dsimp only [av]
 have d1 : decide (((i : Nat) : Int) = ((i + 1 : Nat) : Int)) = false := decide_eq_false (by omega)
 rw [gu elV.ty, aa, ha, aa, bZ, aa, d1, aA, aa, dl22 elV (by omega), aa, dl25 elV hi, aa, g1, aP, gu elV.ty, aa, q31, aa, q0, aP]
 exact ⟨rfl, rfl⟩
def Val.withL (v : Val) (l : List Val) : Val := .mk v.kind v.n v.s l v.fields
def Val.withF (v : Val) (f : List Fld) : Val := .mk v.kind v.n v.s v.list f
def rmV : Val -> List XStep -> Val
 | v, [] => v
 | v, [x] => if x.kind_ = 1 then v.withF (v.fields.eraseIdx (chI v x).toNat) else v.withL (v.list.eraseIdx (chI v x).toNat)
 | v, x :: y :: p => if x.kind_ = 1 then v.withF (v.fields.set (chI v x).toNat (.mk (v.fields.getD (chI v x).toNat default).name (rmV (v.fields.getD (chI v x).toNat default).v (y :: p))))
  else v.withL (v.list.set (chI v x).toNat (rmV (v.list.getD (chI v x).toNat default) (y :: p)))
theorem jv (v : Val) (x : XStep) : rmV v [x] = if x.kind_ = 1 then v.withF (v.fields.eraseIdx (chI v x).toNat) else v.withL (v.list.eraseIdx (chI v x).toNat) := by rw [rmV]
theorem gK (v : Val) (x y : XStep) (p : List XStep) : rmV v (x :: y :: p) = if x.kind_ = 1 then v.withF (v.fields.set (chI v x).toNat (.mk (v.fields.getD (chI v x).toNat default).name (rmV (v.fields.getD (chI v x).toNat default).v (y :: p))))
  else v.withL (v.list.set (chI v x).toNat (rmV (v.list.getD (chI v x).toNat default) (y :: p))) := by rw [rmV]
theorem ki {α : Type} [Inhabited α] {enc : α -> AV} {z : Nat} (hE : ∀ x, (enc x).cells.length = z + 1) {l : List α} {i k : Nat} {c : List AV} {y : α} (hi : i < l.length) (hs : bL (enc (l.getD i default)).cells k c = some (enc y).cells) :
  bL (aw enc l) (i * (z + 1) + k) c = some (aw enc (l.set i y)) := by
 have e1 : (aw enc (l.take i)).length = i * (z + 1) := by rw [dW hE, List.length_take]; congr 1; omega
 have e2 : l = l.take i ++ (l.getD i default :: l.drop (i + 1)) := by rw [<- dc hi, List.take_append_drop]
 have e3 : l.set i y = l.take i ++ (y :: l.drop (i + 1)) := by rw [List.set_eq_take_append_cons_drop, if_pos hi]
 conv => lhs; rw [e2]
 rw [e3, cP, cP, <- e1, qr, aw, aw, iI _ _ _ _ _ hs, Option.map_some]
theorem jd {h : Tr AB} {v : Val} {A B : AV} {l : List Val} {f : List Fld} (hA : fz T0 h 3 A = some (.lst (l.map ak))) (hB : fz T0 h 3 B = some (.lst (f.map ay))) : fz T0 h 4 (.agg (aK v A B)) = some (ak (.mk v.kind v.n v.s l f)) := by
 rw [fz_agg 2]
 have m : di (fz T0 h 3) (aK v A B) = some (ak (.mk v.kind v.n v.s l f)).cells := by
  rw [ir]
  exact bj (dn 2 rfl) (bj (dn 2 rfl) (bj (dn 2 rfl) (bj hA (bj hB rfl))))
 rw [m, ax]; rfl
theorem slS1 {p : List XStep} {h : Tr AB} (hn : 1 <= p.length) : aL T0 h 22 (.lst (p.map am)) (some (.i .i64 1)) none none = some (.lst ((p.drop 1).map am)) := slS_suf (n := 1) (k := .i64) hn
theorem qS {x : XStep} {p : List XStep} : ai T0 22 (.lst ((x :: p).map am)) (.i .i64 0) = some (.iptr (am x).cells) := by
 have := vE (enc := am) (l := x :: p) (k := .i64) (n := 0) (by decide) (by rw [List.length_cons]; omega) (fun _ => rfl)
 exact this
theorem gS {α : Type} {enc : α -> AV} (l : List α) (j : Nat) : dJ enc enc l j = aw enc l := by unfold dJ; rw [<- cP, List.take_append_drop]
theorem fv {α : Type} {l : List α} {id : Nat} (h : 0 < l.length) : bC l id = .sl id 0 l.length none := by
 cases l with
 | nil => cases h
 | cons a l => rfl
theorem cx {v : Val} {x : XStep} {p : List XStep} (h : (dS v (x :: p)).isSome = true) : 0 <= chI v x /\ ∃ w, br v x = some w /\ (dS w p).isSome = true /\ (x.kind_ = 1 -> w = (v.fields.getD (chI v x).toNat default).v /\ (chI v x).toNat < v.fields.length) /\ (x.kind_ ≠ 1 -> w = v.list.getD (chI v x).toNat default /\ (chI v x).toNat < v.list.length) := by
 cases hs : br v x with
 | none => rw [cj hs] at h; cases h
 | some w =>
  rw [bJ hs] at h
  unfold br at hs
  split at hs
  ·cases hs
  ·rename_i h0
   have hb := gy (v := v) (x := x) (by omega)
   injection hs with hs
   refine ⟨by omega, w, rfl, h, fun k => ?_, fun k => ?_⟩
   ·rw [if_pos k] at hs; have := hb.1 k; exact ⟨hs.symm, by omega⟩
   ·rw [if_neg k] at hs; have := hb.2 k; exact ⟨hs.symm, by omega⟩
theorem vb6 : type_of% (And.intro @aa (And.intro @aH (And.intro @bI (And.intro @dK (And.intro @cd (And.intro @Nat.zero_add (And.intro @bZ (And.intro @aC (And.intro @cL (And.intro @cJ (And.intro @cW (And.intro @qS (And.intro @oX (And.intro @cG (And.intro @fS (And.intro @cC (And.intro @aD @aA))))))))))))))))) := And.intro @aa (And.intro @aH (And.intro @bI (And.intro @dK (And.intro @cd (And.intro @Nat.zero_add (And.intro @bZ (And.intro @aC (And.intro @cL (And.intro @cJ (And.intro @cW (And.intro @qS (And.intro @oX (And.intro @cG (And.intro @fS (And.intro @cC (And.intro @aD @aA))))))))))))))))
theorem c52 (k : Nat) : ∀ (p : List XStep) (v : Val), p.length <= k -> smV v -> p ≠ [] -> (dS v p).isSome = true -> k <= 100000 -> R T0 52 [ak v, .lst (p.map am)] (ak (rmV v p)) := by
 induction k with
 | zero => intro p v h _ hne; exact absurd (List.eq_nil_of_length_eq_zero (by omega)) hne
 | succ k ih =>
  intro p v hpl sm hne hg hk
  obtain ⟨x, p, rfl⟩ : ∃ x q, p = x :: q := by
   cases p with
   | nil => exact absurd rfl hne
   | cons x q => exact ⟨x, q, rfl⟩
  obtain ⟨-, ls, ll, lf, ol, of_⟩ := bU sm
  obtain ⟨hc0, w, hsw, hgw, hw1, hw2⟩ := cx hg
  obtain ⟨i, hi⟩ : ∃ i : Nat, chI v x = (i : Nat) := ⟨(chI v x).toNat, by omega⟩
  rw [hi] at hc0
  rw [hi, Int.toNat_natCast] at hw1 hw2
  have swm := gG sm hsw
  refine r52 _ _ (by rw [ax]; rfl) (by rw [ax]; rfl) ?_
  unfold w52
  dsimp only [av]
  have e49' := fun (d : Nat) (σ : AS) (K : AV -> AS -> Prop) => e49 (x := x) sm (d := d) (σ := σ) (K := K)
  rw [hi] at e49'
  have h0 : ((Tr.nil.put 0 (some (.cells (ak v).cells 35 false))).put 1 (some (.cells [.i .i64 0, .i .i64 0, .s [], .nilz true, .nilz true] 35 false)) : Tr AB).get 0 = some (.cells (aK v (.lst (v.list.map ak)) (.lst (v.fields.map ay))) 35 false) := by
   rw [ae _ _ (by decide), ah, ir]
  have h1 : ((Tr.nil.put 0 (some (.cells (ak v).cells 35 false))).put 1 (some (.cells [.i .i64 0, .i .i64 0, .s [], .nilz true, .nilz true] 35 false)) : Tr AB).get 1 = some (.cells [.i .i64 0, .i .i64 0, .s [], .nilz true, .nilz true] 35 false) := ah _ _ _
  rw [bu, bu]
  dsimp only
  simp only [Nat.zero_add, Nat.reduceAdd, cG]
  generalize ((Tr.nil.put 0 (some (.cells (ak v).cells 35 false))).put 1 (some (.cells [.i .i64 0, .i .i64 0, .s [], .nilz true, .nilz true] 35 false)) : Tr AB) = h at h0 h1 |-
  have q1 : ac T0 h 35 (.ptr 0 0) = some (ak v) := by rw [l5 h0, ax]; rfl
  have q2 : ac T0 h 50 (.iptr (am x).cells) = some (am x) := by rw [fS, dz]
  rw [q1, aa, qS, aa, q2, aa, e49', aa, l3 h0, aa, a77 (by omega), aa, ny rfl, l4 h0, aa, kv rfl, a78 (by omega), aa, kv rfl]
  have h2 : ((h.put 2 (ju ak 35 v.list)).put 3 (ju ay 52 v.fields)).get 0 = some (.cells (aK v (.lst (v.list.map ak)) (.lst (v.fields.map ay))) 35 false) := by
   rw [ae _ _ (by decide), ae _ _ (by decide)]; exact h0
  rw [t3 h2 fR ca, bI, eN rfl rfl, aa, kv rfl, t4 (ah _ _ _) fR ca, bI, eN rfl rfl, eD]
  have b0 : ((((h.put 2 (ju ak 35 v.list)).put 3 (ju ay 52 v.fields)).put 0 (some (.cells (aK v (bC v.list 2) (.lst (v.fields.map ay))) 35 false))).put 0 (some (.cells (aK v (bC v.list 2) (bC v.fields 3)) 35 false))).get 0 = some (.cells (aK v (bC v.list 2) (bC v.fields 3)) 35 false) := ah _ _ _
  have b1 : ((((h.put 2 (ju ak 35 v.list)).put 3 (ju ay 52 v.fields)).put 0 (some (.cells (aK v (bC v.list 2) (.lst (v.fields.map ay))) 35 false))).put 0 (some (.cells (aK v (bC v.list 2) (bC v.fields 3)) 35 false))).get 1 = some (.cells [.i .i64 0, .i .i64 0, .s [], .nilz true, .nilz true] 35 false) := by
   rw [ae _ _ (by decide), ae _ _ (by decide), ae _ _ (by decide), ae _ _ (by decide)]; exact h1
  have hr : RowAt ak ak 35 ((((h.put 2 (ju ak 35 v.list)).put 3 (ju ay 52 v.fields)).put 0 (some (.cells (aK v (bC v.list 2) (.lst (v.fields.map ay))) 35 false))).put 0 (some (.cells (aK v (bC v.list 2) (bC v.fields 3)) 35 false))) v.list 2 0 :=
   RowAt.new (by rw [ae _ _ (by decide), ae _ _ (by decide), ae _ _ (by decide), ah])
  have hf : RowAt ay ay 52 ((((h.put 2 (ju ak 35 v.list)).put 3 (ju ay 52 v.fields)).put 0 (some (.cells (aK v (bC v.list 2) (.lst (v.fields.map ay))) 35 false))).put 0 (some (.cells (aK v (bC v.list 2) (bC v.fields 3)) 35 false))) v.fields 3 0 :=
   RowAt.new (by rw [ae _ _ (by decide), ae _ _ (by decide), ah])
  generalize ((((h.put 2 (ju ak 35 v.list)).put 3 (ju ay 52 v.fields)).put 0 (some (.cells (aK v (bC v.list 2) (.lst (v.fields.map ay))) 35 false))).put 0 (some (.cells (aK v (bC v.list 2) (bC v.fields 3)) 35 false))) = H at b0 b1 hr hf
  clear h2 h0 h1 q1 q2
  have zr : ∀ l : List Val, dJ ak ak l 0 = aw ak l := fun l => rfl
  have zf : ∀ l : List Fld, dJ ay ay l 0 = aw ay l := fun l => rfl
  have fin : ∀ (H' : Tr AB) (A B : AV) (l : List Val) (f : List Fld) (n : Nat), H'.get 0 = some (.cells (aK v A B) 35 false) -> H'.get 1 = some (.cells [.i .i64 0, .i .i64 0, .s [], .nilz true, .nilz true] 35 false) -> A.leaf = true -> B.leaf = true ->
    (∀ g : AB, fz T0 (H'.put 1 (some g)) 3 A = some (.lst (l.map ak))) -> (∀ g : AB, fz T0 (H'.put 1 (some g)) 3 B = some (.lst (f.map ay))) ->
    (oV 78 (ac T0 H' 35 (.ptr 0 0)) fun t78 => oH (az T0 H' 35 (.ptr 1 0) t78) ⟨H', n⟩ fun sx6 => oV 4 (ac T0 sx6.h 35 (.ptr 1 0)) fun t4x2 => oZ T0 sx6 t4x2 (fun r2 => r2 = ak (.mk v.kind v.n v.s l f))) := by
   intro H' A B l f n g0 g1 lA lB fA fB
   rw [l5 g0, aa, oz rfl g1 lA lB, aH, l5 (ah _ _ _), aa]
   exact ⟨4, _, jd (fA _) (fB _), rfl⟩
  have e1 : ((i : Nat) : Int) + 1 = ((i + 1 : Nat) : Int) := by omega
  have fo : ∀ H' : Tr AB, H'.get 2 = H.get 2 -> fz T0 H' 3 (bC v.list 2) = some (.lst (v.list.map ak)) := fun H' hq =>
   RowAt.fz elV bo elV.free elV.nrm (j := v.list.length) (fun hne => by rw [hq, hr hne, zr, mt (Nat.le_refl _)]) (Nat.le_refl _)
  have go : ∀ H' : Tr AB, H'.get 3 = H.get 3 -> fz T0 H' 3 (bC v.fields 3) = some (.lst (v.fields.map ay)) := fun H' hq =>
   RowAt.fz elF bq elF.free elF.nrm (j := v.fields.length) (fun hne => by rw [hq, hf hne, zf, mt (Nat.le_refl _)]) (Nat.le_refl _)
  cases p with
  | nil =>
   rw [jv, hi, Int.toNat_natCast]
   by_cases k1 : x.kind_ = 1
   ·obtain ⟨rfl, hil⟩ := hw1 k1
    rw [if_pos k1]
    have hpos : 0 < v.fields.length := by omega
    have hne : v.fields ≠ [] := fun q => by rw [q] at hpos; cases hpos
    have hg3 := hf hne
    rw [zf] at hg3
    obtain ⟨H2, C, r81, g1, g2⟩ := c81 (n := 4) hg3 hil (by omega)
    rw [<- fv (id := 3) hpos] at r81
    have le : (v.fields.eraseIdx i).length = v.fields.length - 1 := by rw [List.length_eraseIdx]; simp [hil]
    have b2 := (g2 0 (by decide)).trans b0
    have b3 := (g2 1 (by decide)).trans b1
    simp (disch := first | omega | assumption | (intros; simp only [dl2]; try omega)) only [vb6, aP, List.length_cons, List.length_nil, mJ, mK, pf, lx, be, bY, fG, e1, l3 b0, l4 b0, r81.eq, s4 b2 (show (AV.sl 3 0 (v.fields.length - 1) none).cells = [AV.sl 3 0 (v.fields.length - 1) none] from rfl) rfl]
    refine fin _ _ _ v.list (v.fields.eraseIdx i) _ (ah _ _ _) ((ae _ _ (by decide)).trans b3) ca rfl (fun g => ?_) (fun g => ?_)
    ·exact fo _ (by rw [ae _ _ (by decide), ae _ _ (by decide)]; exact g2 2 (by decide))
    ·have := pP (cap := none) (g := true) (C := C) elF.rowT (RowE.mapE elF (v.fields.eraseIdx i)) (h := ((H2.put 0 (some (.cells (aK v (bC v.list 2) (.sl 3 0 (v.fields.length - 1) none)) 35 false))).put 1 (some g))) (id := 3) (by rw [ae _ _ (by decide), ae _ _ (by decide), g1, cg])
     rw [List.length_map, le] at this; exact this
   ·obtain ⟨rfl, hil⟩ := hw2 k1
    rw [if_neg k1]
    have hpos : 0 < v.list.length := by omega
    have hne : v.list ≠ [] := fun q => by rw [q] at hpos; cases hpos
    have hg3 := hr hne
    rw [zr] at hg3
    obtain ⟨H2, C, r81, g1, g2⟩ := c82 (n := 4) hg3 hil (by omega)
    rw [<- fv (id := 2) hpos] at r81
    have le : (v.list.eraseIdx i).length = v.list.length - 1 := by rw [List.length_eraseIdx]; simp [hil]
    have b2 := (g2 0 (by decide)).trans b0
    have b3 := (g2 1 (by decide)).trans b1
    simp (disch := first | omega | assumption | (intros; simp only [dl2]; try omega)) only [vb6, aP, List.length_cons, List.length_nil, mJ, mK, pf, lx, be, bY, fG, e1, l3 b0, l4 b0, r81.eq, s3 b2 (show (AV.sl 2 0 (v.list.length - 1) none).cells = [AV.sl 2 0 (v.list.length - 1) none] from rfl) rfl]
    refine fin _ _ _ (v.list.eraseIdx i) v.fields _ (ah _ _ _) ((ae _ _ (by decide)).trans b3) rfl ca (fun g => ?_) (fun g => ?_)
    ·have := pP (cap := none) (g := true) (C := C) elV.rowT (RowE.mapE elV (v.list.eraseIdx i)) (h := ((H2.put 0 (some (.cells (aK v (.sl 2 0 (v.list.length - 1) none) (bC v.fields 3)) 35 false))).put 1 (some g))) (id := 2) (by rw [ae _ _ (by decide), ae _ _ (by decide), g1, cg])
     rw [List.length_map, le] at this; exact this
    ·exact go _ (by rw [ae _ _ (by decide), ae _ _ (by decide)]; exact g2 3 (by decide))
  | cons y p =>
   rw [gK, hi, Int.toNat_natCast]
   by_cases k1 : x.kind_ = 1
   ·obtain ⟨rfl, hil⟩ := hw1 k1
    rw [if_pos k1]
    have hpos : 0 < v.fields.length := by omega
    have hne : v.fields ≠ [] := fun q => by rw [q] at hpos; cases hpos
    have hg3 := hf hne
    rw [zf] at hg3
    have er := fun (d : Nat) (σ : AS) (K : AV -> AS -> Prop) => (ih (y :: p) (v.fields.getD i default).v (by rw [List.length_cons] at hpl; omega) swm (by simp) hgw (by omega)).eq d σ K
    have ld : ac T0 H 35 (.ptr 3 (i * (5 + 1) + 1)) = some (ak (v.fields.getD i default).v) := by
     have hm := hf hne
     rw [zf] at hm
     have hd : (aw ay v.fields).drop (i * (5 + 1)) = (ay (v.fields.getD i default)).cells ++ aw ay (v.fields.drop (i + 1)) := by
      have := mu (enc := ay) (encD := ay) bq hil
      rwa [gS] at this
     rw [dk hm (by rw [bS elF]; omega), <- List.drop_drop, hd, bh]
     show aJ T0 35 ((ak (v.fields.getD i default).v).cells ++ _) = _
     rw [ax, lM]; rfl
    have sn : bL (aw ay v.fields) (i * (5 + 1) + 1) (ak (rmV (v.fields.getD i default).v (y :: p))).cells = some (aw ay (v.fields.set i (Fld.mk (v.fields.getD i default).name (rmV (v.fields.getD i default).v (y :: p))))) := by
     refine ki bq hil ?_
     rw [bh, bh]
     show bL (AV.s _ :: _) 1 _ = _
     have : ∀ (x : AV) (a b : List AV), bL (x :: a) 1 b = (bL a 0 b).map (x :: ·) := fun x a b => by cases b <;> rfl
     rw [this, cf _ _ (by rw [bo, bo])]; rfl
    have sA : ba T0 H 35 (.ptr 3 (i * (5 + 1) + 1)) (ak (rmV (v.fields.getD i default).v (y :: p))) = some (3, .cells (aw ay (v.fields.set i (Fld.mk (v.fields.getD i default).name (rmV (v.fields.getD i default).v (y :: p))))) 52 true) := fu ic hg3 (bo _) (fX _) sn
    simp (disch := first | omega | assumption | (intros; simp only [dl2]; try omega)) only [vb6, aP, List.length_cons, List.length_nil, mJ, mK, pf, lx, be, bY, fG, e1, l3 b0, l4 b0, fw elF.ty elF.sz hil, ld, slS1, List.drop_one, List.tail_cons, er, sA]
    rw [eN rfl rfl, eD]
    have rv : bC v.fields 3 = bC (v.fields.set i (Fld.mk (v.fields.getD i default).name (rmV (v.fields.getD i default).v (y :: p)))) 3 := by rw [fv hpos, fv (by rw [List.length_set]; exact hpos), List.length_set]
    refine fin _ _ _ v.list (v.fields.set i (Fld.mk (v.fields.getD i default).name (rmV (v.fields.getD i default).v (y :: p)))) _ ((ae _ _ (by decide)).trans b0) ((ae _ _ (by decide)).trans b1) ca ca (fun g => ?_) (fun g => ?_)
    ·exact fo _ (by rw [ae _ _ (by decide), ae _ _ (by decide)])
    ·rw [rv]
     exact RowAt.fz elF bq elF.free elF.nrm (j := (v.fields.set i (Fld.mk (v.fields.getD i default).name (rmV (v.fields.getD i default).v (y :: p)))).length) (fun _ => by rw [ae _ _ (by decide), ah, mt (Nat.le_refl _)]) (Nat.le_refl _)
   ·obtain ⟨rfl, hil⟩ := hw2 k1
    rw [if_neg k1]
    have hpos : 0 < v.list.length := by omega
    have hne : v.list ≠ [] := fun q => by rw [q] at hpos; cases hpos
    have hg3 := hr hne
    rw [zr] at hg3
    have er := fun (d : Nat) (σ : AS) (K : AV -> AS -> Prop) => (ih (y :: p) (v.list.getD i default) (by rw [List.length_cons] at hpl; omega) swm (by simp) hgw (by omega)).eq d σ K
    have ld : ac T0 H 35 (.ptr 2 (i * (4 + 1))) = some (ak (v.list.getD i default)) := by
     have := RowAt.load elV bo (j := i) (h := H) (l := v.list) (id := 2) (encD := ak) (fun hne => by rw [hr hne, zr, gS]) hil
     exact this
    have sn : bL (aw ak v.list) (i * (4 + 1)) (ak (rmV (v.list.getD i default) (y :: p))).cells = some (aw ak (v.list.set i (rmV (v.list.getD i default) (y :: p)))) :=
     ki (k := 0) bo hil (cf _ _ (by rw [bo, bo]))
    have sA : ba T0 H 35 (.ptr 2 (i * (4 + 1))) (ak (rmV (v.list.getD i default) (y :: p))) = some (2, .cells (aw ak (v.list.set i (rmV (v.list.getD i default) (y :: p)))) 35 true) := fu ic hg3 (bo _) (fX _) sn
    simp (disch := first | omega | assumption | (intros; simp only [dl2]; try omega)) only [vb6, aP, List.length_cons, List.length_nil, mJ, mK, pf, lx, be, bY, fG, e1, l3 b0, l4 b0, fw elV.ty elV.sz hil, ld, slS1, List.drop_one, List.tail_cons, er, sA]
    rw [eN rfl rfl, eD]
    have rv : bC v.list 2 = bC (v.list.set i (rmV (v.list.getD i default) (y :: p))) 2 := by rw [fv hpos, fv (by rw [List.length_set]; exact hpos), List.length_set]
    refine fin _ _ _ (v.list.set i (rmV (v.list.getD i default) (y :: p))) v.fields _ ((ae _ _ (by decide)).trans b0) ((ae _ _ (by decide)).trans b1) ca ca (fun g => ?_) (fun g => ?_)
    ·rw [rv]
     exact RowAt.fz elV bo elV.free elV.nrm (j := (v.list.set i (rmV (v.list.getD i default) (y :: p))).length) (fun _ => by rw [ae _ _ (by decide), ah, mt (Nat.le_refl _)]) (Nat.le_refl _)
    ·exact go _ (by rw [ae _ _ (by decide), ae _ _ (by decide)])
theorem e52 {p : List XStep} {v : Val} (hp : p.length <= 100000) (sm : smV v) (hne : p ≠ []) (hg : (dS v p).isSome = true) {d : Nat} {σ : AS} {K : AV -> AS -> Prop} : oC T0 d 52 [ak v, .lst (p.map am)] σ K = K (ak (rmV v p)) σ := (c52 p.length p v (Nat.le_refl _) sm hne hg hp).eq d σ K
theorem slF_pre {p : List Fld} {h : Tr AB} {n : Nat} (hn : n <= p.length) : aL T0 h 33 (.lst (p.map ay)) none (some (.i .i64 (n : Nat))) none = some (.lst ((p.take n).map ay)) := iv (sl_pre elF.ty uB bq hn)
theorem xR {p : List Fld} {h : Tr AB} {n : Nat} (hn : n <= p.length) : aL T0 h 33 (.lst (p.map ay)) (some (.i .i64 (n : Nat))) none none = some (.lst ((p.drop n).map ay)) := iv (wN elF.ty uB bq hn)
theorem slV_pre {p : List Val} {h : Tr AB} {n : Nat} (hn : n <= p.length) : aL T0 h 32 (.lst (p.map ak)) none (some (.i .i64 (n : Nat))) none = some (.lst ((p.take n).map ak)) := iv (sl_pre elV.ty ic bo hn)
theorem xQ {p : List Val} {h : Tr AB} {n : Nat} (hn : n <= p.length) : aL T0 h 32 (.lst (p.map ak)) (some (.i .i64 (n : Nat))) none none = some (.lst ((p.drop n).map ak)) := iv (wN elV.ty ic bo hn)
theorem ice33_0 : eE T0 33 0 [] = some (.nilz false) := by kernel_rfl
theorem ice32_0 : eE T0 32 0 [] = some (.nilz false) := by kernel_rfl
theorem yw (v : Val) : eE T0 32 1 [(0, ak v)] = some (.lst [ak v]) := by rw [ax]; kernel_rfl
theorem pL (f : Fld) : eE T0 33 1 [(0, ay f)] = some (.lst [ay f]) := by rw [bh, ax]; kernel_rfl
theorem bld52 (nm : List UInt8) (v : Val) : bF T0 52 [(0, .s nm), (1, ak v)] = some (ay (.mk nm v)) := by
 rw [show ay (.mk nm v) = .agg (.s nm :: (ak v).cells) from bh _, ax]; kernel_rfl
theorem appF {h : Tr AB} {n : Nat} {x : AV} {l l' : List Fld} (o : OwnW 52 2 h n (l.map ay) x) (hm : 2 <= n) (hl : l.length + l'.length <= 1000000) :
  ∃ x' σ', aG T0 ⟨h, n⟩ 33 33 x (.lst (l'.map ay)) = some (x', σ') /\ OwnW 52 2 σ'.h σ'.n ((l ++ l').map ay) x' /\ n <= σ'.n /\ ∀ j, j < 2 -> σ'.h.get j = h.get j := by
 have := appW (h := h) elF.rowT o hm (RowE.mapE elF l) (RowE.mapE elF l') (gH (by decide) (by rw [List.length_map, List.length_map]; exact hl))
 rwa [<- List.map_append] at this
theorem zP {h : Tr AB} {n : Nat} {x : AV} {l l' : List Val} (o : OwnW 35 2 h n (l.map ak) x) (hm : 2 <= n) (hl : l.length + l'.length <= 1000000) :
  ∃ x' σ', aG T0 ⟨h, n⟩ 32 32 x (.lst (l'.map ak)) = some (x', σ') /\ OwnW 35 2 σ'.h σ'.n ((l ++ l').map ak) x' /\ n <= σ'.n /\ ∀ j, j < 2 -> σ'.h.get j = h.get j := by
 have := appW (h := h) elV.rowT o hm (RowE.mapE elV l) (RowE.mapE elV l') (gH (by decide) (by rw [List.length_map, List.length_map]; exact hl))
 rwa [<- List.map_append] at this
theorem ua {h : Tr AB} (es : List AV) : fz T0 h 3 (.lst es) = some (.lst es) := dn (T := T0) (h := h) 2 (a := .lst es) rfl
theorem slS1c {x : XStep} {p : List XStep} {h : Tr AB} : aL T0 h 22 (.lst ((x :: p).map am)) (some (.i .i64 1)) none none = some (.lst (p.map am)) := slS1 (p := x :: p) (by rw [List.length_cons]; omega)
theorem kR {α : Type} {l : List α} {i : Nat} {y : α} (hi : i < l.length) : l.set i y = l.take i ++ (y :: l.drop (i + 1)) := by rw [List.set_eq_take_append_cons_drop, if_pos hi]
theorem c53 (k : Nat) : ∀ (p : List XStep) (v : Val), p.length <= k -> smV v -> p ≠ [] -> (dS v p).isSome = true -> (∀ x ∈ p, x.kind_ = 1 ∨ x.kind_ = 2 ∨ x.kind_ = 3) -> k <= 100000 -> R T0 53 [ak v, .lst (p.map am)] (ak (rmV v p)) := by
 induction k with
 | zero => intro p v h _ hne; exact absurd (List.eq_nil_of_length_eq_zero (by omega)) hne
 | succ k ih =>
  intro p v hpl sm hne hg hkk hk
  obtain ⟨x, p, rfl⟩ : ∃ x q, p = x :: q := by
   cases p with
   | nil => exact absurd rfl hne
   | cons x q => exact ⟨x, q, rfl⟩
  obtain ⟨-, ls, ll, lf, ol, of_⟩ := bU sm
  obtain ⟨hc0, w, hsw, hgw, hw1, hw2⟩ := cx hg
  obtain ⟨i, hi⟩ : ∃ i : Nat, chI v x = (i : Nat) := ⟨(chI v x).toNat, by omega⟩
  rw [hi] at hc0
  rw [hi, Int.toNat_natCast] at hw1 hw2
  have swm := gG sm hsw
  refine r53 _ _ (by rw [ax]; rfl) (by rw [ax]; rfl) ?_
  unfold w53
  dsimp only [av]
  have e51' := fun (d : Nat) (σ : AS) (K : AV -> AS -> Prop) => e51 (x := x) sm (hkk x (List.mem_cons_self ..)) (d := d) (σ := σ) (K := K)
  rw [hi] at e51'
  have b0 : ((Tr.nil.put 0 (some (.cells (ak v).cells 35 false))).put (0 + 1) (some (.cells [.i .i64 0, .i .i64 0, .s [], .nilz true, .nilz true] 35 false)) : Tr AB).get 0 = some (.cells (aK v (.lst (v.list.map ak)) (.lst (v.fields.map ay))) 35 false) := by
   rw [ae _ _ (by decide), ah, ir]
  have b1 : ((Tr.nil.put 0 (some (.cells (ak v).cells 35 false))).put (0 + 1) (some (.cells [.i .i64 0, .i .i64 0, .s [], .nilz true, .nilz true] 35 false)) : Tr AB).get 1 = some (.cells [.i .i64 0, .i .i64 0, .s [], .nilz true, .nilz true] 35 false) := ah _ _ _
  rw [bu, bu]
  dsimp only
  simp only [Nat.zero_add, Nat.reduceAdd, cG]
  generalize ((Tr.nil.put 0 (some (.cells (ak v).cells 35 false))).put (0 + 1) (some (.cells [.i .i64 0, .i .i64 0, .s [], .nilz true, .nilz true] 35 false)) : Tr AB) = h at b0 b1 |-
  have q1 : ac T0 h 35 (.ptr 0 0) = some (ak v) := by rw [l5 b0, ax]; rfl
  have q2 : ac T0 h 50 (.iptr (am x).cells) = some (am x) := by rw [fS, dz]
  have e1 : ((i : Nat) : Int) + 1 = ((i + 1 : Nat) : Int) := by omega
  rw [q1, aa, qS, aa, q2, aa, e51']
  by_cases k1 : x.kind_ = 1
  ·obtain ⟨rfl, hil⟩ := hw1 k1
   obtain ⟨x2, σ1, a1, w1, n1, m1⟩ := appF (h := h) (n := 2) (x := .nilz false) (l := []) (l' := v.fields.take i) OwnW.none (by decide) (by rw [List.length_take]; simp only [List.length_nil]; omega)
   rw [List.nil_append] at w1
   have c0 := (m1 0 (by decide)).trans b0
   have c1 := (m1 1 (by decide)).trans b1
   have b2' := c0
   simp (disch := first | omega | assumption | (intros; simp only [dl2]; try omega)) only [vb6, List.length_cons, List.length_nil, cy, dj, e1, ice33_0, l4 b0, slF_pre, a1, aP]
   cases p with
   | nil =>
    rw [jv, hi, Int.toNat_natCast, if_pos k1]
    simp (disch := first | omega | assumption | (intros; simp only [dl2]; try omega)) only [vb6, List.length_cons, List.length_nil, cy, dj, e1]
    have : True := trivial
    ·have σ2 : AS := σ1
     clear σ2
     obtain ⟨σ2, hσ⟩ : ∃ s, s = σ1 := ⟨_, rfl⟩
     rw [<- hσ] at w1 n1 m1 c0 c1 b2' |-
     have w2 := w1
     have n2 := n1
     obtain ⟨x3, σ3, a3, w3, n3, k3⟩ := appF (h := σ2.h) (n := σ2.n) w2 (by omega) (l' := v.fields.drop (i + 1)) (by rw [List.length_drop]; first | (rw [List.length_take]; omega) | (rw [List.length_append, List.length_take]; simp only [List.length_cons, List.length_nil]; omega))
     have c0 := (k3 0 (by decide)).trans c0
     have c1 := (k3 1 (by decide)).trans c1
     rw [show (⟨σ2.h, σ2.n⟩ : AS) = σ2 from rfl] at a3
     simp (disch := first | omega | assumption | (intros; simp only [dl2]; try omega)) only [vb6, List.length_cons, List.length_nil, cy, dj, e1, l4 b2', xR, a3, aP, s4 c0 w3.cells w3.leaf]
     rw [l5 (ah _ _ _), aa, oz rfl ((ae _ _ (by decide)).trans c1) rfl w3.leaf, aH, l5 (ah _ _ _), aa]
     have f1 := fzW (h := ((σ3.h.put 0 (some (.cells (aK v (.lst (v.list.map ak)) x3) 35 false))).put 1 (some (.cells (aK v (.lst (v.list.map ak)) x3) 35 false)))) elF.rowT (RowE.mapE elF _) (w3.same (n' := σ3.n) (fun j h1 h2 => by rw [ae _ _ (by omega), ae _ _ (by omega)]) (Nat.le_refl _))
     rw [<- List.eraseIdx_eq_take_drop_succ] at f1
     exact ⟨4, _, jd (ua _) f1, rfl⟩
   | cons y p =>
    rw [gK, hi, Int.toNat_natCast, if_pos k1]
    have er := fun (d : Nat) (σ : AS) (K : AV -> AS -> Prop) => (ih (y :: p) (v.fields.getD i default).v (by rw [List.length_cons] at hpl; omega) swm (by simp) hgw (fun q hq => hkk q (List.mem_cons_of_mem _ hq)) (by omega)).eq d σ K
    have ia := qR (enc := ay) (l := v.fields) (k := .i64) (n := (i : Nat)) (by omega) (by omega) bq
    rw [Int.toNat_natCast] at ia
    obtain ⟨x4, σ2, a2, w2, n2, m2⟩ := appF (h := σ1.h) (n := σ1.n) w1 n1 (l' := [(Fld.mk (v.fields.getD i default).name (rmV (v.fields.getD i default).v (y :: p)))]) (by rw [List.length_take]; simp only [List.length_cons, List.length_nil]; omega)
    rw [show (⟨σ1.h, σ1.n⟩ : AS) = σ1 from rfl, List.map_cons, List.map_nil] at a2
    have d1 : 1 <= (ay (v.fields.getD i default)).cells.length := by rw [bq]; decide
    simp (disch := first | omega | assumption | (intros; simp only [dl2]; try omega)) only [vb6, List.length_cons, List.length_nil, cy, dj, e1, l4 c0, ia, slS1c, er, pL, a2, aP, jD, mO, mm, bld52]
    have c0 := (m2 0 (by decide)).trans c0
    have c1 := (m2 1 (by decide)).trans c1
    have b2' := c0
    ·have n2 : 2 <= σ2.n := by omega
     obtain ⟨x3, σ3, a3, w3, n3, k3⟩ := appF (h := σ2.h) (n := σ2.n) w2 (by omega) (l' := v.fields.drop (i + 1)) (by rw [List.length_drop]; first | (rw [List.length_take]; omega) | (rw [List.length_append, List.length_take]; simp only [List.length_cons, List.length_nil]; omega))
     have c0 := (k3 0 (by decide)).trans c0
     have c1 := (k3 1 (by decide)).trans c1
     rw [show (⟨σ2.h, σ2.n⟩ : AS) = σ2 from rfl] at a3
     simp (disch := first | omega | assumption | (intros; simp only [dl2]; try omega)) only [vb6, List.length_cons, List.length_nil, cy, dj, e1, l4 b2', xR, a3, aP, s4 c0 w3.cells w3.leaf]
     rw [l5 (ah _ _ _), aa, oz rfl ((ae _ _ (by decide)).trans c1) rfl w3.leaf, aH, l5 (ah _ _ _), aa]
     have f1 := fzW (h := ((σ3.h.put 0 (some (.cells (aK v (.lst (v.list.map ak)) x3) 35 false))).put 1 (some (.cells (aK v (.lst (v.list.map ak)) x3) 35 false)))) elF.rowT (RowE.mapE elF _) (w3.same (n' := σ3.n) (fun j h1 h2 => by rw [ae _ _ (by omega), ae _ _ (by omega)]) (Nat.le_refl _))
     rw [List.append_assoc, List.singleton_append, <- kR hil] at f1
     exact ⟨4, _, jd (ua _) f1, rfl⟩
  ·obtain ⟨rfl, hil⟩ := hw2 k1
   obtain ⟨x2, σ1, a1, w1, n1, m1⟩ := zP (h := h) (n := 2) (x := .nilz false) (l := []) (l' := v.list.take i) OwnW.none (by decide) (by rw [List.length_take]; simp only [List.length_nil]; omega)
   rw [List.nil_append] at w1
   have c0 := (m1 0 (by decide)).trans b0
   have c1 := (m1 1 (by decide)).trans b1
   have b2' := c0
   simp (disch := first | omega | assumption | (intros; simp only [dl2]; try omega)) only [vb6, List.length_cons, List.length_nil, cy, dj, e1, ice32_0, l3 b0, slV_pre, a1, aP]
   cases p with
   | nil =>
    rw [jv, hi, Int.toNat_natCast, if_neg k1]
    simp (disch := first | omega | assumption | (intros; simp only [dl2]; try omega)) only [vb6, List.length_cons, List.length_nil, cy, dj, e1]
    have : True := trivial
    ·have σ2 : AS := σ1
     clear σ2
     obtain ⟨σ2, hσ⟩ : ∃ s, s = σ1 := ⟨_, rfl⟩
     rw [<- hσ] at w1 n1 m1 c0 c1 b2' |-
     have w2 := w1
     have n2 := n1
     obtain ⟨x3, σ3, a3, w3, n3, k3⟩ := zP (h := σ2.h) (n := σ2.n) w2 (by omega) (l' := v.list.drop (i + 1)) (by rw [List.length_drop]; first | (rw [List.length_take]; omega) | (rw [List.length_append, List.length_take]; simp only [List.length_cons, List.length_nil]; omega))
     have c0 := (k3 0 (by decide)).trans c0
     have c1 := (k3 1 (by decide)).trans c1
     rw [show (⟨σ2.h, σ2.n⟩ : AS) = σ2 from rfl] at a3
     simp (disch := first | omega | assumption | (intros; simp only [dl2]; try omega)) only [vb6, List.length_cons, List.length_nil, cy, dj, e1, l3 b2', xQ, a3, aP, s3 c0 w3.cells w3.leaf]
     rw [l5 (ah _ _ _), aa, oz rfl ((ae _ _ (by decide)).trans c1) w3.leaf rfl, aH, l5 (ah _ _ _), aa]
     have f1 := fzW (h := ((σ3.h.put 0 (some (.cells (aK v x3 (.lst (v.fields.map ay))) 35 false))).put 1 (some (.cells (aK v x3 (.lst (v.fields.map ay))) 35 false)))) elV.rowT (RowE.mapE elV _) (w3.same (n' := σ3.n) (fun j h1 h2 => by rw [ae _ _ (by omega), ae _ _ (by omega)]) (Nat.le_refl _))
     rw [<- List.eraseIdx_eq_take_drop_succ] at f1
     exact ⟨4, _, jd f1 (ua _), rfl⟩
   | cons y p =>
    rw [gK, hi, Int.toNat_natCast, if_neg k1]
    have er := fun (d : Nat) (σ : AS) (K : AV -> AS -> Prop) => (ih (y :: p) (v.list.getD i default) (by rw [List.length_cons] at hpl; omega) swm (by simp) hgw (fun q hq => hkk q (List.mem_cons_of_mem _ hq)) (by omega)).eq d σ K
    have ia := sK (enc := ak) (l := v.list) (k := .i64) (n := (i : Nat)) (by omega) (by omega) bo
    rw [Int.toNat_natCast] at ia
    obtain ⟨x4, σ2, a2, w2, n2, m2⟩ := zP (h := σ1.h) (n := σ1.n) w1 n1 (l' := [(rmV (v.list.getD i default) (y :: p))]) (by rw [List.length_take]; simp only [List.length_cons, List.length_nil]; omega)
    rw [show (⟨σ1.h, σ1.n⟩ : AS) = σ1 from rfl, List.map_cons, List.map_nil] at a2
    have d1 : 1 <= (ay (v.fields.getD i default)).cells.length := by rw [bq]; decide
    simp (disch := first | omega | assumption | (intros; simp only [dl2]; try omega)) only [vb6, List.length_cons, List.length_nil, cy, dj, e1, l3 c0, ia, slS1c, er, yw, a2, aP, iU]
    have c0 := (m2 0 (by decide)).trans c0
    have c1 := (m2 1 (by decide)).trans c1
    have b2' := c0
    ·have n2 : 2 <= σ2.n := by omega
     obtain ⟨x3, σ3, a3, w3, n3, k3⟩ := zP (h := σ2.h) (n := σ2.n) w2 (by omega) (l' := v.list.drop (i + 1)) (by rw [List.length_drop]; first | (rw [List.length_take]; omega) | (rw [List.length_append, List.length_take]; simp only [List.length_cons, List.length_nil]; omega))
     have c0 := (k3 0 (by decide)).trans c0
     have c1 := (k3 1 (by decide)).trans c1
     rw [show (⟨σ2.h, σ2.n⟩ : AS) = σ2 from rfl] at a3
     simp (disch := first | omega | assumption | (intros; simp only [dl2]; try omega)) only [vb6, List.length_cons, List.length_nil, cy, dj, e1, l3 b2', xQ, a3, aP, s3 c0 w3.cells w3.leaf]
     rw [l5 (ah _ _ _), aa, oz rfl ((ae _ _ (by decide)).trans c1) w3.leaf rfl, aH, l5 (ah _ _ _), aa]
     have f1 := fzW (h := ((σ3.h.put 0 (some (.cells (aK v x3 (.lst (v.fields.map ay))) 35 false))).put 1 (some (.cells (aK v x3 (.lst (v.fields.map ay))) 35 false)))) elV.rowT (RowE.mapE elV _) (w3.same (n' := σ3.n) (fun j h1 h2 => by rw [ae _ _ (by omega), ae _ _ (by omega)]) (Nat.le_refl _))
     rw [List.append_assoc, List.singleton_append, <- kR hil] at f1
     exact ⟨4, _, jd f1 (ua _), rfl⟩
theorem wL : smV default := .mk (okI (by decide) (by decide)) (okI (by decide) (by decide)) (by decide) (by decide) (by decide) (fun x h => by cases h) (fun x h => by cases h)
theorem gt {α : Type} {l : List α} {i : Nat} {x : α} (h : x ∈ l.eraseIdx i) : x ∈ l := List.mem_of_mem_eraseIdx h
theorem rmV_sm : ∀ (k : Nat) (p : List XStep) (v : Val), p.length <= k -> smV v -> (dS v p).isSome = true -> smV (rmV v p) := by
 intro k
 induction k with
 | zero =>
  intro p v hp sm _
  obtain rfl : p = [] := List.eq_nil_of_length_eq_zero (by omega)
  rw [rmV]; exact sm
 | succ k ih =>
  intro p v hp sm hg
  obtain ⟨hw, h1, h2, h3, h4, h5⟩ := bU sm
  cases p with
  | nil => rw [rmV]; exact sm
  | cons x p =>
   obtain ⟨hc0, w, hsw, hgw, hw1, hw2⟩ := cx hg
   have swm := gG sm hsw
   cases p with
   | nil =>
    rw [jv]
    split
    ·exact .of hw h1 h2 (Nat.le_trans (List.length_eraseIdx_le ..) h3) h4 (fun f hf => h5 f (gt hf))
    ·exact .of hw h1 (Nat.le_trans (List.length_eraseIdx_le ..) h2) h3 (fun f hf => h4 f (gt hf)) h5
   | cons y p =>
    have := ih (y :: p) w (by rw [List.length_cons] at hp; omega) swm hgw
    rw [gK]
    split
    ·rename_i k1
     obtain ⟨e, hl⟩ := hw1 k1
     rw [<- e]
     refine .of hw h1 h2 (by show (v.fields.set _ _).length <= _; rw [List.length_set]; exact h3) h4 (fun f hf => ?_)
     rcases List.mem_or_eq_of_mem_set hf with hf | rfl
     ·exact h5 f hf
     ·exact .of (fO (h5 _ (aS hl))).1 this
    ·rename_i k1
     obtain ⟨e, hl⟩ := hw2 k1
     rw [<- e]
     refine .of hw h1 (by show (v.list.set _ _).length <= _; rw [List.length_set]; exact h2) h3 (fun f hf => ?_) h5
     rcases List.mem_or_eq_of_mem_set hf with hf | rfl
     ·exact h4 f hf
     ·exact this
def rmO (v : Val) (p : List XStep) : Option Val := if dw p = true /\ (dS v p).isSome = true /\ p ≠ [] then some (rmV v p) else none
theorem qU (v : Val) (p : List XStep) : (∃ w, qV v p = .tup [ak w, .b true] /\ dw p = true /\ dS v p = some w) ∨ (qV v p = .tup [ak default, .b false] /\ ¬ (dw p = true /\ (dS v p).isSome = true)) := by
 unfold qV
 by_cases hb : dw p = true
 ·rw [if_pos hb]
  cases hg : dS v p with
  | none => exact .inr ⟨rfl, fun q => by cases q.2⟩
  | some w => exact .inl ⟨w, rfl, hb, rfl⟩
 ·rw [if_neg hb]; exact .inr ⟨rfl, fun q => hb q.1⟩
theorem st1v {t : Tr AB} {A B : Option AB} (w : Val) : az T0 (((t.put 1 (some (.cells [.i .i64 0, .i .i64 0, .s [], .nilz true, .nilz true] 35 false))).put 2 A).put 2 B) 35 (.ptr 1 0) (ak w) = some ((((t.put 1 (some (.cells [.i .i64 0, .i .i64 0, .s [], .nilz true, .nilz true] 35 false))).put 2 A).put 2 B).put 1 (some (.cells (ak w).cells 35 false))) :=
 dM rfl (by rw [ae _ _ (by decide), ae _ _ (by decide), ah]) w
theorem st1z {t : Tr AB} {A B : Option AB} : az T0 (((t.put 1 (some (.cells [.i .i64 0, .i .i64 0, .s [], .nilz true, .nilz true] 35 false))).put 2 A).put 2 B) 35 (.ptr 1 0) (.agg [.i .i64 0, .i .i64 0, .s [], .nilz true, .nilz true]) = some ((((t.put 1 (some (.cells [.i .i64 0, .i .i64 0, .s [], .nilz true, .nilz true] 35 false))).put 2 A).put 2 B).put 1 (some (.cells [.i .i64 0, .i .i64 0, .s [], .nilz true, .nilz true] 35 false))) :=
 jI rfl (by rw [ae _ _ (by decide), ae _ _ (by decide), ah])
theorem c25 (v : Val) (p : List XStep) (sm : smV v) (hp : p.length <= 100000) (ox : ∀ x ∈ p, bz x) : R T0 25 [ak v, .lst (p.map am)] (gtR (rmO v p)) := by
 refine r25 _ _ (by rw [ax]; rfl) (by rw [ax]; rfl) ?_
 unfold w25
 dsimp only [av]
 have e := fun (d : Nat) (σ : AS) (K : AV -> AS -> Prop) => e23 sm (show p.length <= 140737488351232 by omega) ox (d := d) (σ := σ) (K := K)
 rcases qU v p with ⟨w, hr, hb, hg⟩ | ⟨hr, hn⟩
 ·rw [hr] at e
  by_cases hne : p = []
  ·rw [show rmO v p = none by unfold rmO; rw [if_neg (fun q => q.2.2 hne)]]
   subst hne
   rw [List.map_nil] at e
   simp (disch := first | omega | assumption | (intros; simp only [dl3]; try omega)) only [vb0, ne_eq, vb8, vb1, jU, List.getElem?_cons_zero, List.getElem?_cons_succ, dK, vb5, Nat.reduceAdd, e, ex0, ex1, cJ, cW, jh, st1z, ofz, ozz, gtR, List.map_nil, List.length_nil]
  ·have hpos : 0 < p.length := by cases p with | nil => exact absurd rfl hne | cons a l => rw [List.length_cons]; omega
   rw [show rmO v p = some (rmV v p) by unfold rmO; rw [if_pos ⟨hb, by rw [hg]; rfl, hne⟩]]
   have e52' := fun (d : Nat) (σ : AS) (K : AV -> AS -> Prop) => e52 hp sm hne (by rw [hg]; rfl) (d := d) (σ := σ) (K := K)
   simp (disch := first | omega | assumption | (intros; simp only [dl3]; try omega)) only [vb0, ne_eq, vb8, vb1, jU, List.getElem?_cons_zero, List.getElem?_cons_succ, dK, vb5, Nat.reduceAdd, e, ex0, ex1, cJ, cW, e50 sm, e52', st1v, ozvb, gtR]
 ·rw [hr] at e
  rw [show rmO v p = none by unfold rmO; rw [if_neg (fun q => hn ⟨q.1, q.2.1⟩)]]
  simp (disch := first | omega | assumption | (intros; simp only [dl3]; try omega)) only [vb0, ne_eq, vb8, vb1, jU, List.getElem?_cons_zero, List.getElem?_cons_succ, dK, vb5, Nat.reduceAdd, e, ex0, ex1, cJ, cW, jh, st1z, ofz, ozz, gtR]
theorem e25 {v : Val} {p : List XStep} (sm : smV v) (hp : p.length <= 100000) (ox : ∀ x ∈ p, bz x) {d : Nat} {σ : AS} {K : AV -> AS -> Prop} : oC T0 d 25 [ak v, .lst (p.map am)] σ K = K (gtR (rmO v p)) σ := (c25 v p sm hp ox).eq d σ K
theorem c27 (k : Nat) : ∀ v : Val, SizeOf.sizeOf v <= k -> okV v -> R T0 27 [ak v, ak v] (.b true) := by
 induction k with
 | zero => intro v h; obtain ⟨_, _, _, _, _⟩ := v; simp only [Val.mk.sizeOf_spec] at h; omega
 | succ k ih =>
  intro v hsz ov
  obtain ⟨ls, ll, lf, ol, of_⟩ := dA ov
  refine r27 _ _ (by rw [ax]; rfl) (by rw [ax]; rfl) ?_
  unfold w27
  dsimp only [av]
  have nf : ∀ a : Int, decide (a ≠ a) = false := fun a => decide_eq_false (fun h => h rfl)
  have sf : ∀ (a : List UInt8) (c : Bool), af T0 .neq 9 c (.s a) (.s a) = some (.b false) := fun a c => by rw [uj]; simp
  simp (disch := first | omega | assumption | (intros; simp only [dl3]; try omega)) only [vb0, ne_eq, aZ, eH, aC, vb1, bx, jZ, vN, vU, vP, vT, vF, vR, vS, lG, Nat.reduceAdd, nf, sf, cW, cJ]
  refine fL (X := Nat) (fun _ => .ptr 1 0) (fun _ => .ptr 0 0) (fun j => .i .i64 (j : Nat)) (fun j σ => j <= v.list.length /\ σ.h.get 0 = some (.cells (ak v).cells 35 false) /\ σ.h.get 1 = some (.cells (ak v).cells 35 false)) (fun j => v.list.length - j) ?_ 0 _ ⟨Nat.zero_le _, (ae _ _ (by decide)).trans (ah _ _ _), ah _ _ _⟩
  rintro R j σ ⟨hj, g0, g1⟩ hR
  by_cases hj' : j < v.list.length
  ·have hm := aS hj'
   have er := fun (d : Nat) (σ : AS) (K : AV -> AS -> Prop) => (ih _ (by have := dp v hm; omega) (ol _ hm)).eq d σ K
   simp (disch := first | omega | assumption | (intros; simp only [dl3]; try omega)) only [vb0, ne_eq, aZ, eH, aC, vb1, bx, jZ, vN, vU, vP, vT, vF, vR, vS, lG, g0, g1, er, cJ]
   exact hR (j + 1) _ ⟨by omega, g0, g1⟩ (by omega)
  ·simp (disch := first | omega | assumption | (intros; simp only [dl3]; try omega)) only [vb0, ne_eq, aZ, eH, aC, vb1, bx, jZ, vN, vU, vP, vT, vF, vR, vS, lG, g0, g1, cW]
   clear hR
   refine fL (X := Nat) (fun _ => .ptr 1 0) (fun _ => .ptr 0 0) (fun j => .i .i64 (j : Nat)) (fun j σ => j <= v.fields.length /\ σ.h.get 0 = some (.cells (ak v).cells 35 false) /\ σ.h.get 1 = some (.cells (ak v).cells 35 false)) (fun j => v.fields.length - j) ?_ 0 _ ⟨Nat.zero_le _, g0, g1⟩
   clear g0 g1
   rintro R j σ ⟨hj, g0, g1⟩ hR
   by_cases hj' : j < v.fields.length
   ·have hm := aS hj'
    have er := fun (d : Nat) (σ : AS) (K : AV -> AS -> Prop) => (ih _ (by have := cr v hm; omega) (ml (of_ _ hm)).2).eq d σ K
    simp (disch := first | omega | assumption | (intros; simp only [dl3]; try omega)) only [vb0, ne_eq, aZ, eH, aC, vb1, bx, jZ, vN, vU, vP, vT, vF, vR, vS, lG, g0, g1, er, sf, cJ]
    exact hR (j + 1) _ ⟨by omega, g0, g1⟩ (by omega)
   ·simp (disch := first | omega | assumption | (intros; simp only [dl3]; try omega)) only [vb0, ne_eq, aZ, eH, aC, vb1, bx, jZ, vN, vU, vP, vT, vF, vR, vS, lG, g0, g1, cW]
theorem e27 {v : Val} (ov : okV v) {d : Nat} {σ : AS} {K : AV -> AS -> Prop} : oC T0 d 27 [ak v, ak v] σ K = K (.b true) σ := (c27 _ v (Nat.le_refl _) ov).eq d σ K
theorem fewB_len {p : List XStep} (h : ub p = true) : p.length <= 20 := by
 unfold ub at h; simp only [Bool.and_eq_true, decide_eq_true_eq] at h; exact h.1
theorem V_aggV {φ : Nat -> Nat × Nat} {A S : Nat -> Prop} {w : World} {x : Val} {u : Value} (h : VR φ A S w (.agg (ak x).cells) u) : VR φ A S w (ak x) u := by
 have e : ak x = .agg (ak x).cells := by rw [ax]; rfl
 rw [e]; exact h
end Go.Proofs.YtmfhmlhaofpeiaaGreatDoor.Ev
