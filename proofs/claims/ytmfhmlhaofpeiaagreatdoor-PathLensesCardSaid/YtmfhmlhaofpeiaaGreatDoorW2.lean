/- Texts of this session's, one behind the other. -/
import Derived.Test.YtmfhmlhaofpeiaaGreatDoorEvLg
import Derived.Test.YtmfhmlhaofpeiaaGreatDoorEvFd
import Derived.Test.YtmfhmlhaofpeiaaGreatDoorEvLh
import Derived.Test.YtmfhmlhaofpeiaaGreatDoorEvFe
import Derived.Test.YtmfhmlhaofpeiaaGreatDoorEvFf
import Derived.Test.YtmfhmlhaofpeiaaGreatDoorEv1
import Derived.Test.YtmfhmlhaofpeiaaGreatDoorEv2
import Derived.Test.YtmfhmlhaofpeiaaGreatDoorEv3
import Derived.Test.YtmfhmlhaofpeiaaGreatDoorEv4
import Derived.Test.YtmfhmlhaofpeiaaGreatDoorSh
import Derived.Test.YtmfhmlhaofpeiaaGreatDoorEvX
import Derived.Test.YtmfhmlhaofpeiaaGreatDoorEvT
import Derived.Test.YtmfhmlhaofpeiaaGreatDoorEvTy
import Derived.Test.YtmfhmlhaofpeiaaGreatDoorEvF
import Derived.Test.YtmfhmlhaofpeiaaGreatDoorV0
import Derived.Test.YtmfhmlhaofpeiaaGreatDoorOp
import Derived.Test.YtmfhmlhaofpeiaaGreatDoorV6
import Derived.Test.YtmfhmlhaofpeiaaGreatDoorEvG
import Derived.Test.YtmfhmlhaofpeiaaGreatDoorEvLi
import Derived.Test.YtmfhmlhaofpeiaaGreatDoorEvFb
import Derived.Test.YtmfhmlhaofpeiaaGreatDoorEvFc
import Derived.Test.YtmfhmlhaofpeiaaGreatDoorW1
namespace Go.Proofs.YtmfhmlhaofpeiaaGreatDoor.Ev
open Go Go.RowKit
set_option linter.unusedSimpArgs false
set_option linter.unusedVariables false
set_option maxRecDepth 100000
def quL : List UInt8 -> UQ
 | [] => .bad
 | c :: r => if c.toNat = 34 then unqL [] r else .bad
theorem quL_c (c : UInt8) (r : List UInt8) : quL (c :: r) = if c.toNat = 34 then unqL [] r else .bad := rfl
def brL (t : List UInt8) : Option (XStep × List UInt8) :=
 if nmL t = 0 then none else
 match t.drop (nmL t) with
 | [] => none
 | d :: r => if d.toNat = 93 then (if canB (t.take (nmL t)) = true then some (⟨2, [], (min (fC 0 (t.take (nmL t))) 65 : Nat), []⟩, r) else none)
  else if d.toNat = 61 then
   match quL r with
   | .ok acc r' => match r' with
    | [] => none
    | c :: r'' => if c.toNat = 93 then some (⟨3, t.take (nmL t), 0, acc⟩, r'') else none
   | _ => none
  else none
theorem unq_len (n : Nat) : ∀ (acc t a r : List UInt8), t.length <= n -> unqL acc t = .ok a r -> r.length < t.length /\ a.length + r.length <= acc.length + t.length := by
 induction n with
 | zero =>
  intro acc t a r ht h
  obtain rfl : t = [] := List.eq_nil_of_length_eq_zero (by omega)
  rw [unqL] at h; cases h
 | succ n ih =>
  intro acc t a r ht h
  cases t with
  | nil => rw [unqL] at h; cases h
  | cons c t =>
   rw [List.length_cons] at ht
   rw [unqL.eq_def] at h
   simp only [] at h
   split at h
   ·injection h with h1 h2; subst h1; subst h2; rw [List.length_cons]; omega
   ·split at h
    ·cases h
    ·split at h
     ·have := ih _ t a r (by omega) h
      rw [List.length_append] at this
      simp only [List.length_cons, List.length_nil] at this |-
      omega
     ·cases t with
      | nil => simp only [] at h; cases h
      | cons d t =>
       rw [List.length_cons] at ht
       simp only [] at h
       split at h
       ·have := ih _ t a r (by omega) h
        rw [List.length_append] at this
        simp only [List.length_cons, List.length_nil] at this |-
        omega
       ·split at h
        ·have := ih _ t a r (by omega) h
         rw [List.length_append] at this
         simp only [List.length_cons, List.length_nil] at this |-
         omega
        ·cases h
theorem qu_len {t a r : List UInt8} (h : quL t = .ok a r) : r.length + 1 < t.length /\ a.length + r.length < t.length := by
 cases t with
 | nil => unfold quL at h; cases h
 | cons c t =>
  rw [quL_c] at h
  split at h
  ·have := unq_len t.length [] t a r (Nat.le_refl _) h
   simp only [List.length_cons, List.length_nil] at this |-; omega
  ·cases h
theorem nm_drop {t r : List UInt8} {d : UInt8} (h : t.drop (nmL t) = d :: r) : nmL t + r.length + 1 = t.length := by
 have h1 := congrArg List.length h
 rw [List.length_drop, List.length_cons] at h1
 have := nmL_le t
 omega
theorem okI {n : Int} (h1 : -1000 <= n) (h2 : n <= 1000) : (Lit.int .i64 n).wf = true := by
 show (decide ((-9223372036854775808 : Int) <= n) && decide (n <= 9223372036854775807)) = true
 rw [decide_eq_true (by omega), decide_eq_true (by omega)]; rfl
theorem brL_ok {t r : List UInt8} {x : XStep} (hl : t.length <= 140737488351232) (h : brL t = some (x, r)) : r.length < t.length /\ bx x := by
 unfold brL at h
 split at h
 ·cases h
 ·split at h
  ·cases h
  ·rename_i d r' hd
   have hn := nm_drop hd
   have ht : (t.take (nmL t)).length <= 140737488351232 := by rw [List.length_take]; omega
   split at h
   ·split at h
    ·injection h with h; injection h with h1 h2; subst h1; subst h2
     exact ⟨by omega, okI (by show (-1000 : Int) <= 2; omega) (by show (2 : Int) <= 1000; omega), Nat.zero_le _, okI (by show (-1000 : Int) <= (min (fC 0 (t.take (nmL t))) 65 : Nat); omega) (by show ((min (fC 0 (t.take (nmL t))) 65 : Nat) : Int) <= 1000; omega), Nat.zero_le _⟩
    ·cases h
   ·split at h
    ·split at h
     ·rename_i acc r2 hq
      have hq' := qu_len hq
      split at h
      ·cases h
      ·split at h
       ·injection h with h; injection h with h1 h2; subst h1; subst h2
        simp only [List.length_cons] at hq'
        exact ⟨by omega, okI (by show (-1000 : Int) <= 3; omega) (by show (3 : Int) <= 1000; omega), ht, okI (by show (-1000 : Int) <= 0; omega) (by show (0 : Int) <= 1000; omega), by show acc.length <= _; omega⟩
       ·cases h
     ·cases h
    ·cases h
def x0 : XStep := ⟨0, [], 0, []⟩
theorem wY : (AB.cells [.i .i64 0, .s [], .i .i64 0, .s []] 50 false) = .cells (aj x0).cells 50 false := rfl
theorem brL_0 {t : List UInt8} (h0 : nmL t = 0) : brL t = none := by unfold brL; rw [if_pos h0]
theorem brL_b {t : List UInt8} (h0 : ¬ nmL t = 0) (hd : t.drop (nmL t) = []) : brL t = none := by unfold brL; rw [if_neg h0, hd]
theorem brL_i {t r : List UInt8} {d : UInt8} (h0 : ¬ nmL t = 0) (hd : t.drop (nmL t) = d :: r) (h1 : d.toNat = 93) : brL t = if canB (t.take (nmL t)) = true then some (⟨2, [], (min (fC 0 (t.take (nmL t))) 65 : Nat), []⟩, r) else none := by
 unfold brL; rw [if_neg h0, hd]; simp only []; rw [if_pos h1]
theorem brL_e {t r : List UInt8} {d : UInt8} (h0 : ¬ nmL t = 0) (hd : t.drop (nmL t) = d :: r) (h1 : ¬ d.toNat = 93) (h2 : ¬ d.toNat = 61) : brL t = none := by
 unfold brL; rw [if_neg h0, hd]; simp only []; rw [if_neg h1, if_neg h2]
theorem brL_q {t r : List UInt8} {d : UInt8} (h0 : ¬ nmL t = 0) (hd : t.drop (nmL t) = d :: r) (h1 : ¬ d.toNat = 93) (h2 : d.toNat = 61) : brL t = (match quL r with | .ok acc r' => (match r' with | [] => none | c :: r'' => if c.toNat = 93 then some (⟨3, t.take (nmL t), 0, acc⟩, r'') else none) | _ => none) := by
 conv => lhs; unfold brL
 rw [if_neg h0, hd]; simp only []; rw [if_neg h1, if_pos h2]
def fdL (u : List UInt8) : Option (XStep × List UInt8) := if nmL u = 0 then none else some (⟨1, u.take (nmL u), 0, []⟩, u.drop (nmL u))
def stL (first : Bool) : List UInt8 -> Option (XStep × List UInt8)
 | [] => none
 | c :: r => if c.toNat = 91 then brL r else if first = true then fdL (c :: r) else if c.toNat = 46 then fdL r else none
def rg : Nat -> List XStep -> List UInt8 -> Option (List XStep)
 | _, acc, [] => some acc
 | 0, _, _ :: _ => none
 | n + 1, acc, c :: r => match stL acc.isEmpty (c :: r) with
  | none => none
  | some p => rg n (acc ++ [p.1]) p.2
theorem rp (b : Bool) (c : UInt8) (r : List UInt8) : stL b (c :: r) = if c.toNat = 91 then brL r else if b = true then fdL (c :: r) else if c.toNat = 46 then fdL r else none := rfl
theorem wD (n : Nat) (acc : List XStep) (c : UInt8) (r : List UInt8) : rg (n + 1) acc (c :: r) = match stL acc.isEmpty (c :: r) with
  | none => none
  | some p => rg n (acc ++ [p.1]) p.2 := rfl
theorem fdL_ok {u r : List UInt8} {x : XStep} (hl : u.length <= 140737488351232) (h : fdL u = some (x, r)) : r.length < u.length /\ bx x := by
 unfold fdL at h
 split at h
 ·cases h
 ·rename_i h0
  have := nmL_le u
  injection h with h; injection h with h1 h2; subst h1; subst h2
  refine ⟨by rw [List.length_drop]; omega, okI (by show (-1000 : Int) <= 1; omega) (by show (1 : Int) <= 1000; omega), ?_, okI (by show (-1000 : Int) <= 0; omega) (by show (0 : Int) <= 1000; omega), Nat.zero_le _⟩
  show (u.take (nmL u)).length <= _
  rw [List.length_take]; omega
theorem wk {t r : List UInt8} {b : Bool} {x : XStep} (hl : t.length <= 140737488351232) (h : stL b t = some (x, r)) : r.length < t.length /\ bx x := by
 cases t with
 | nil => cases h
 | cons c t =>
  rw [List.length_cons] at hl
  rw [rp] at h
  split at h
  ·have := brL_ok (by omega) h; exact ⟨by rw [List.length_cons]; omega, this.2⟩
  ·split at h
   ·exact fdL_ok (by rw [List.length_cons]; omega) h
   ·split at h
    ·have := fdL_ok (by omega) h; exact ⟨by rw [List.length_cons]; omega, this.2⟩
    ·cases h
theorem zL (n : Nat) : ∀ (m : Nat) (acc : List XStep) (t : List UInt8), t.length <= 140737488351232 -> t.length <= n -> t.length <= m -> rg n acc t = rg m acc t := by
 induction n with
 | zero =>
  intro m acc t hl hn hm
  obtain rfl : t = [] := List.eq_nil_of_length_eq_zero (by omega)
  cases m <;> rfl
 | succ n ih =>
  intro m acc t hl hn hm
  cases t with
  | nil => cases m <;> rfl
  | cons c r =>
   cases m with
   | zero => rw [List.length_cons] at hm; omega
   | succ m =>
    rw [wD, wD]
    cases h : stL acc.isEmpty (c :: r) with
    | none => rfl
    | some p =>
     have h1 := (wk (x := p.1) (r := p.2) hl h).1
     simp only [List.length_cons] at h1 hn hm hl
     exact ih m _ _ (by omega) (by omega) (by omega)
theorem par_some {acc : List XStep} {t r : List UInt8} {x : XStep} (hl : t.length <= 140737488351232) (h : stL acc.isEmpty t = some (x, r)) : rg t.length acc t = rg r.length (acc ++ [x]) r := by
 cases t with
 | nil => cases h
 | cons c t =>
  have h1 := (wk hl h).1
  rw [List.length_cons] at h1 |-
  rw [wD, h]
  rw [List.length_cons] at hl
  exact zL t.length r.length (acc ++ [x]) r (by omega) (by omega) (Nat.le_refl _)
def paL (s : List UInt8) : Option (List XStep) := rg s.length [] s
theorem agg_of {T : Tab} {t : Nat} (h : (T.ty t).map eu = some true) : ∃ d, T.ty t = some d /\ eu d = true := by
 cases hq : T.ty t with
 | none => rw [hq] at h; cases h
 | some d => rw [hq] at h; exact ⟨d, rfl, by simpa using h⟩
theorem st50n {h : Tr AB} {id : Nat} {y : XStep} (x : XStep) : aA T0 (h.put id (some (.cells (aj y).cells 50 false))) 50 (.ptr id 0) (aj x) = some ((h.put id (some (.cells (aj y).cells 50 false))).put id (some (.cells (aj x).cells 50 false))) := kq xr rfl rfl rfl
theorem par_next {s : List UInt8} {acc : List XStep} {x : XStep} {t r : List UInt8} (hl : t.length <= 140737488351232) (hs : stL acc.isEmpty t = some (x, r)) (hp : rg t.length acc t = paL s) (hok : ∀ y ∈ acc, bx y) (hb : acc.length + t.length <= s.length) :
  r.length < t.length /\ (∀ y ∈ acc ++ [x], bx y) /\ rg r.length (acc ++ [x]) r = paL s /\ (acc ++ [x]).length + r.length <= s.length := by
 have h1 := wk hl hs
 refine ⟨h1.1, fun y hy => ?_, by rw [<- par_some hl hs]; exact hp, by rw [List.length_append]; simp only [List.length_cons, List.length_nil]; omega⟩
 rcases List.mem_append.1 hy with hy | hy
 ·exact hok y hy
 ·rw [List.mem_singleton.1 hy]; exact h1.2
def txL : Nat -> List XStep -> List UInt8
 | _, [] => []
 | i, x :: l => stP i x ++ txL (i + 1) l
def stops (r : List UInt8) : Prop := ∀ c l, r = c :: l -> nmC c = false
theorem tg {nm r : List UInt8} (h : nm.all nmC = true) (hr : stops r) : nmL (nm ++ r) = nm.length := by
 unfold nmL
 induction nm with
 | nil =>
  cases r with
  | nil => rfl
  | cons c l => rw [List.nil_append, List.takeWhile_cons_of_neg (by rw [hr c l rfl]; exact Bool.false_ne_true)]
 | cons c nm ih =>
  simp only [List.all_cons, Bool.and_eq_true] at h
  rw [List.cons_append, List.takeWhile_cons_of_pos h.1, List.length_cons, ih h.2, List.length_cons]
theorem wH {s : List UInt8} (h : nmB s = true) : s.all nmC = true /\ 0 < s.length := by
 unfold nmB at h
 simp only [Bool.and_eq_true, decide_eq_true_eq] at h
 exact ⟨h.1.1, h.1.2⟩
theorem take_left {a b : List UInt8} : (a ++ b).take a.length = a := List.take_left' rfl
theorem drop_left' {a b : List UInt8} : (a ++ b).drop a.length = b := List.drop_left' rfl
theorem wI {c : UInt8} (h : c.toNat = 91 ∨ c.toNat = 46 ∨ c.toNat = 61 ∨ c.toNat = 93) : nmC c = false := decide_eq_false (by omega)
theorem Ak : ∀ n, n <= 64 -> (dec n).all nmC = true /\ canB (dec n) = true /\ fC 0 (dec n) = n /\ 0 < (dec n).length := by decide
theorem unq_app (v : List UInt8) : ∀ (acc r : List UInt8), (∀ c ∈ v, c.toNat = 10 ∨ (32 <= c.toNat /\ c.toNat <= 126)) -> unqL acc (v.flatMap quC ++ 34 :: r) = .ok (acc ++ v) r := by
 induction v with
 | nil =>
  intro acc r _
  rw [List.flatMap_nil, List.nil_append, List.append_nil, unqL.eq_def]
  simp only []; rw [if_pos (by decide)]
 | cons c v ih =>
  intro acc r hv
  have hc := hv c (List.mem_cons_self ..)
  have ih' := ih (acc ++ [c]) r (fun d hd => hv d (List.mem_cons_of_mem _ hd))
  rw [List.append_assoc, List.singleton_append] at ih'
  rw [List.flatMap_cons]
  by_cases h1 : c.toNat = 10
  ·rw [show quC c = [92, 110] from if_pos h1]
   have e : c = 10 := UInt8.toNat_inj.1 h1
   subst e
   rw [show ([92, 110] : List UInt8) ++ v.flatMap quC ++ 34 :: r = 92 :: 110 :: (v.flatMap quC ++ 34 :: r) from rfl, unqL.eq_def]
   simp only []
   rw [if_neg (by decide), if_neg (by decide), if_neg (by decide)]
   rw [if_neg (by decide), if_pos (by decide)]
   exact ih'
  ·by_cases h2 : c.toNat = 34 ∨ c.toNat = 92
   ·rw [show quC c = [92, c] by unfold quC; rw [if_neg h1, if_pos h2], show [92, c] ++ v.flatMap quC ++ 34 :: r = 92 :: c :: (v.flatMap quC ++ 34 :: r) from rfl, unqL.eq_def]
    simp only []
    rw [if_neg (by decide), if_neg (by decide), if_neg (by decide), if_pos h2]
    exact ih'
   ·rw [show quC c = [c] by unfold quC; rw [if_neg h1, if_neg h2], show [c] ++ v.flatMap quC ++ 34 :: r = c :: (v.flatMap quC ++ 34 :: r) from rfl, unqL.eq_def]
    simp only []
    rw [if_neg (by omega), if_neg (by omega), if_pos (by omega)]
    exact ih'
theorem unq_inv (n : Nat) : ∀ (acc t a r : List UInt8), t.length <= n -> unqL acc t = .ok a r -> ∃ v, a = acc ++ v /\ t = v.flatMap quC ++ 34 :: r := by
 induction n with
 | zero =>
  intro acc t a r ht h
  obtain rfl : t = [] := List.eq_nil_of_length_eq_zero (by omega)
  rw [unqL] at h; cases h
 | succ n ih =>
  intro acc t a r ht h
  cases t with
  | nil => rw [unqL] at h; cases h
  | cons c t =>
   rw [List.length_cons] at ht
   rw [unqL.eq_def] at h
   simp only [] at h
   split at h
   ·rename_i hc
    have e : c = 34 := UInt8.toNat_inj.1 hc
    injection h with h1 h2; subst h1; subst h2
    exact ⟨[], (List.append_nil _).symm, by rw [e]; rfl⟩
   ·rename_i h34
    split at h
    ·cases h
    ·rename_i hrng
     split at h
     ·rename_i h92
      obtain ⟨v, h1, h2⟩ := ih _ t a r (by omega) h
      refine ⟨c :: v, by rw [h1, List.append_assoc]; rfl, ?_⟩
      rw [List.flatMap_cons, show quC c = [c] by unfold quC; rw [if_neg (by omega), if_neg (by omega)]]
      rw [h2]; rfl
     ·rename_i h92
      have e92 : c = 92 := UInt8.toNat_inj.1 (by show c.toNat = 92; omega)
      cases t with
      | nil => simp only [] at h; cases h
      | cons d t =>
       rw [List.length_cons] at ht
       simp only [] at h
       split at h
       ·rename_i hd
        obtain ⟨v, h1, h2⟩ := ih _ t a r (by omega) h
        refine ⟨d :: v, by rw [h1, List.append_assoc]; rfl, ?_⟩
        rw [List.flatMap_cons, show quC d = [92, d] by unfold quC; rw [if_neg (by omega), if_pos hd]]
        rw [h2, e92]; rfl
       ·split at h
        ·rename_i hd
         have e110 : d = 110 := UInt8.toNat_inj.1 hd
         obtain ⟨v, h1, h2⟩ := ih _ t a r (by omega) h
         refine ⟨10 :: v, by rw [h1, List.append_assoc]; rfl, ?_⟩
         rw [List.flatMap_cons, show quC 10 = [92, 110] from rfl]
         rw [h2, e92, e110]; rfl
        ·cases h
theorem zD {x : XStep} (h : bq x = true) : (x.kind_ = 1 -> nmB x.name_ = true /\ x.index_ = 0 /\ x.value_ = []) /\ (x.kind_ = 2 -> x.name_ = [] /\ x.value_ = []) /\ (x.kind_ = 3 -> nmB x.name_ = true /\ x.index_ = 0 /\ txB x.value_ = true) := by
 unfold bq at h
 split at h
 ·rename_i k
  simp only [Bool.and_eq_true, decide_eq_true_eq] at h
  exact ⟨fun _ => ⟨h.1.1, h.1.2, List.length_eq_zero_iff.mp h.2⟩, fun q => by omega, fun q => by omega⟩
 ·split at h
  ·simp only [Bool.and_eq_true, decide_eq_true_eq] at h
   exact ⟨fun q => by omega, fun _ => ⟨List.length_eq_zero_iff.mp h.1.2, List.length_eq_zero_iff.mp h.2⟩, fun q => by omega⟩
  ·split at h
   ·simp only [Bool.and_eq_true, decide_eq_true_eq] at h
    exact ⟨fun q => by omega, fun q => by omega, fun _ => ⟨h.1.1, h.1.2, h.2⟩⟩
   ·cases h
theorem tx_chars {s : List UInt8} (h : txB s = true) : ∀ c ∈ s, c.toNat = 10 ∨ (32 <= c.toNat /\ c.toNat <= 126) := by
 intro c hc
 unfold txB at h
 simp only [Bool.and_eq_true, List.all_eq_true] at h
 have := h.1 c hc
 unfold fD at this
 have := of_decide_eq_true this
 omega
theorem yY {nm r : List UInt8} (h : nmB nm = true) (hr : stops r) : fdL (nm ++ r) = some (⟨1, nm, 0, []⟩, r) := by
 obtain ⟨h1, h2⟩ := wH h
 unfold fdL
 rw [tg h1 hr, if_neg (by omega), take_left, drop_left']
theorem st_app {x : XStep} {i : Nat} {r : List UInt8} (h : bq x = true) (hr : stops r) : stL (decide (i = 0)) (stP i x ++ r) = some (x, r) := by
 obtain ⟨hk, -, -, -, hi⟩ := dI h
 obtain ⟨m1, m2, m3⟩ := zD h
 obtain ⟨k, nm, ix, v⟩ := x
 dsimp only at hk hi m1 m2 m3
 rcases hk with rfl | rfl | rfl
 ·obtain ⟨g1, rfl, rfl⟩ := m1 rfl
  obtain ⟨q1, q2⟩ := wH g1
  unfold stP
  dsimp only
  rw [if_neg (by decide), if_neg (by decide)]
  by_cases h0 : i = 0
  ·rw [if_pos h0]
   cases nm with
   | nil => cases q2
   | cons c nm =>
    have hc : c.toNat ≠ 91 := fun e => by
     simp only [List.all_cons, Bool.and_eq_true] at q1
     rw [wI (.inl e)] at q1; cases q1.1
    rw [List.cons_append, rp, if_neg hc, if_pos (decide_eq_true h0)]
    exact yY g1 hr
  ·rw [if_neg h0, List.append_assoc, List.singleton_append, rp, if_neg (by decide), if_neg (by rw [decide_eq_false h0]; exact Bool.false_ne_true), if_pos (by rfl)]
   exact yY g1 hr
 ·obtain ⟨rfl, rfl⟩ := m2 rfl
  have hi' := hi rfl
  obtain ⟨d1, d2, d3, d4⟩ := Ak ix.toNat (by omega)
  unfold stP
  dsimp only
  rw [if_pos rfl, List.append_assoc, List.append_assoc, List.singleton_append, List.singleton_append, rp, if_pos (by rfl)]
  have hn : nmL (dec ix.toNat ++ 93 :: r) = (dec ix.toNat).length := tg d1 (fun c l e => by injection e with e1 e2; exact wI (.inr (.inr (.inr (by rw [<- e1]; rfl)))))
  rw [brL_i (d := 93) (r := r) (by rw [hn]; omega) (by rw [hn]; exact drop_left') rfl, hn, take_left, if_pos d2, d3]
  congr 3
  omega
 ·obtain ⟨g1, rfl, g3⟩ := m3 rfl
  obtain ⟨q1, q2⟩ := wH g1
  unfold stP
  dsimp only
  rw [if_neg (by decide), if_pos rfl]
  rw [show [91] ++ nm ++ [61] ++ quS v ++ [93] ++ r = 91 :: (nm ++ 61 :: (quS v ++ 93 :: r)) by simp only [List.append_assoc, List.singleton_append, List.cons_append, List.nil_append]]
  rw [rp, if_pos (by rfl)]
  have hn : nmL (nm ++ 61 :: (quS v ++ 93 :: r)) = nm.length := tg q1 (fun c l e => by injection e with e1 e2; exact wI (.inr (.inr (.inl (by rw [<- e1]; rfl)))))
  have hq : quL (quS v ++ 93 :: r) = .ok v (93 :: r) := by
   unfold quS
   rw [List.append_assoc, List.append_assoc, List.singleton_append, List.singleton_append, quL_c, if_pos (by rfl), unq_app v [] _ (tx_chars g3), List.nil_append]
  rw [brL_q (d := 61) (r := quS v ++ 93 :: r) (by rw [hn]; omega) (by rw [hn]; exact drop_left') (by decide) rfl, hq, hn, take_left]
  simp only []
  rw [if_pos (by rfl)]
theorem Al {w : List UInt8} (h : canB w = true) (hv : fC 0 w <= 64) : dec (fC 0 w) = w := by
 unfold canB at h
 simp only [Bool.and_eq_true, Bool.or_eq_true, decide_eq_true_eq, Bool.not_eq_true', decide_eq_false_iff_not] at h
 obtain ⟨hd, hc⟩ := h
 have dg : ∀ c ∈ w, 48 <= c.toNat /\ c.toNat <= 57 := fun c hc' => of_decide_eq_true (List.all_eq_true.1 hd c hc')
 have u8 : ∀ (c : UInt8) (n : Nat), c.toNat = n -> UInt8.ofNat n = c := fun c n e => by subst e; exact UInt8.ofNat_toNat
 match w, hc, dg, hv with
 | [], hc, _, _ => simp at hc
 | [a], _, dg, _ =>
  have ha := dg a (List.mem_cons_self ..)
  show dec (0 * 10 + (a.toNat - 48)) = [a]
  unfold dec
  rw [if_pos (by omega), u8 a _ (by omega)]
 | [a, b], hc, dg, _ =>
  have ha := dg a (List.mem_cons_self ..)
  have hb := dg b (List.mem_cons_of_mem _ (List.mem_cons_self ..))
  have h0 : ¬ a.toNat = 48 := by
   rcases hc with hc | hc
   ·simp at hc
   ·exact hc.2
  show dec ((0 * 10 + (a.toNat - 48)) * 10 + (b.toNat - 48)) = [a, b]
  unfold dec
  rw [if_neg (by omega), u8 a _ (by omega), u8 b _ (by omega)]
 | a :: b :: c :: r, hc, dg, hv =>
  have ha := dg a (List.mem_cons_self ..)
  have h0 : ¬ a.toNat = 48 := by
   rcases hc with hc | hc
   ·simp at hc
   ·exact hc.2
  have hge := xp r (kY (kY (kY 0 a) b) c)
  have e : fC 0 (a :: b :: c :: r) = fC (kY (kY (kY 0 a) b) c) r := rfl
  rw [e] at hv
  simp only [oo] at hge hv
  omega
theorem qZ {s r : List UInt8} {d : UInt8} {k : Nat} (h : s.drop k = d :: r) : s = s.take k ++ d :: r := by rw [<- h, List.take_append_drop]
theorem st_inv {t r : List UInt8} {i : Nat} {x : XStep} (h : stL (decide (i = 0)) t = some (x, r)) (hx : bq x = true) : t = stP i x ++ r := by
 have fd : ∀ {u r : List UInt8} {x : XStep}, fdL u = some (x, r) -> u = x.name_ ++ r /\ x.kind_ = 1 := fun {u r x} h => by
  unfold fdL at h
  split at h
  ·cases h
  ·injection h with h; injection h with h1 h2; subst h1; subst h2
   exact ⟨(List.take_append_drop _ _).symm, rfl⟩
 cases t with
 | nil => cases h
 | cons c t =>
  rw [rp] at h
  split at h
  ·rename_i h91
   have ec : c = 91 := UInt8.toNat_inj.1 h91
   by_cases h0 : nmL t = 0
   ·rw [brL_0 h0] at h; cases h
   ·cases hd : t.drop (nmL t) with
    | nil => rw [brL_b h0 hd] at h; cases h
    | cons d r1 =>
     have ht := qZ hd
     by_cases h1 : d.toNat = 93
     ·have ed : d = 93 := UInt8.toNat_inj.1 h1
      rw [brL_i h0 hd h1] at h
      split at h
      ·rename_i hc
       injection h with h; injection h with h2 h3; subst h2; subst h3
       have hi := (dI hx).2.2.2.2 rfl
       dsimp only at hi
       have hv : fC 0 (t.take (nmL t)) <= 64 := by omega
       unfold stP
       rw [if_pos rfl]
       show c :: t = [91] ++ dec ((min (fC 0 (t.take (nmL t))) 65 : Nat) : Int).toNat ++ [93] ++ r1
       rw [Int.toNat_natCast, Nat.min_eq_left (by omega), Al hc hv, ec]
       conv => lhs; rw [ht, ed]
       simp only [List.append_assoc, List.singleton_append, List.cons_append, List.nil_append]
      ·cases h
     ·by_cases h2 : d.toNat = 61
      ·have ed : d = 61 := UInt8.toNat_inj.1 h2
       rw [brL_q h0 hd h1 h2] at h
       cases hq : quL r1 with
       | bad => rw [hq] at h; cases h
       | op a => rw [hq] at h; cases h
       | ok a r' =>
        rw [hq] at h
        cases r' with
        | nil => cases h
        | cons c3 r2 =>
         simp only [] at h
         split at h
         ·rename_i h93
          have e93 : c3 = 93 := UInt8.toNat_inj.1 h93
          injection h with h; injection h with h3 h4; subst h3; subst h4
          have hr1 : r1 = quS a ++ 93 :: r2 := by
           cases r1 with
           | nil => unfold quL at hq; cases hq
           | cons q r1 =>
            rw [quL_c] at hq
            split at hq
            ·rename_i h34
             have e34 : q = 34 := UInt8.toNat_inj.1 h34
             obtain ⟨v, g1, g2⟩ := unq_inv r1.length [] r1 a _ (Nat.le_refl _) hq
             rw [List.nil_append] at g1; subst g1
             unfold quS
             rw [e34, g2, e93]
             simp only [List.append_assoc, List.singleton_append, List.cons_append, List.nil_append]
            ·cases hq
          unfold stP
          rw [if_neg (by show ¬ (3 : Int) = 2; decide), if_pos rfl]
          show c :: t = [91] ++ t.take (nmL t) ++ [61] ++ quS a ++ [93] ++ r2
          conv => lhs; rw [ht, ec, ed, hr1]
          simp only [List.append_assoc, List.singleton_append, List.cons_append, List.nil_append]
         ·cases h
      ·rw [brL_e h0 hd h1 h2] at h; cases h
  ·split at h
   ·rename_i h0
    obtain ⟨f1, f2⟩ := fd h
    unfold stP
    rw [if_neg (by omega), if_neg (by omega), if_pos (of_decide_eq_true h0)]; exact f1
   ·rename_i h0
    split at h
    ·rename_i h46
     have ec : c = 46 := UInt8.toNat_inj.1 h46
     obtain ⟨f1, f2⟩ := fd h
     unfold stP
     rw [if_neg (by omega), if_neg (by omega), if_neg (fun q => h0 (decide_eq_true q)), ec, f1]; rfl
    ·cases h
mutual
def lfV : Val -> Int -> Int
 | .mk _ _ s l fs, m => cZ fs (cV l (m - 1 - (s.length : Nat)))
def lfF : Fld -> Int -> Int
 | .mk nm v, m => lfV v (m - (nm.length : Nat))
def cV : List Val -> Int -> Int
 | [], m => m
 | v :: vs, m => cV vs (if 0 <= m then lfV v m else m)
def cZ : List Fld -> Int -> Int
 | [], m => m
 | f :: fs, m => cZ fs (if 0 <= m then lfF f m else m)
end
theorem tq (v : Val) (m : Int) : lfV v m = cZ v.fields (cV v.list (m - 1 - (v.s.length : Nat))) := by cases v; rw [lfV]; rfl
theorem mL (f : Fld) (m : Int) : lfF f m = lfV f.v (m - (f.name.length : Nat)) := by cases f; rw [lfF]; rfl
theorem uP (a b : List Val) : ∀ m, cV (a ++ b) m = cV b (cV a m) := by
 induction a with
 | nil => intro m; rw [List.nil_append, cV]
 | cons x a ih => intro m; rw [List.cons_append, cV, cV, ih]
theorem uS (a b : List Fld) : ∀ m, cZ (a ++ b) m = cZ b (cZ a m) := by
 induction a with
 | nil => intro m; rw [List.nil_append, cZ]
 | cons x a ih => intro m; rw [List.cons_append, cZ, cZ, ih]
theorem uO (l : List Val) : ∀ m, m < 0 -> cV l m = m := by
 induction l with
 | nil => intro m _; rw [cV]
 | cons x a ih => intro m h; rw [cV, if_neg (by omega), ih m h]
theorem uR (l : List Fld) : ∀ m, m < 0 -> cZ l m = m := by
 induction l with
 | nil => intro m _; rw [cZ]
 | cons x a ih => intro m h; rw [cZ, if_neg (by omega), ih m h]
theorem zR {l : List Val} {j : Nat} {m : Int} (hj : j < l.length) (h : 0 <= cV (l.take j) m) : cV (l.take (j + 1)) m = lfV (l.getD j default) (cV (l.take j) m) := by
 rw [dp hj, uP, cV, cV, if_pos h]
theorem zT {l : List Fld} {j : Nat} {m : Int} (hj : j < l.length) (h : 0 <= cZ (l.take j) m) : cZ (l.take (j + 1)) m = lfV (l.getD j default).v (cZ (l.take j) m - ((l.getD j default).name.length : Nat)) := by
 rw [dp hj, uS, cZ, cZ, if_pos h, mL]
theorem zS {l : List Val} {j : Nat} {m : Int} (h : cV (l.take j) m < 0) : cV l m = cV (l.take j) m := by
 conv => lhs; rw [<- List.take_append_drop j l, uP, uO _ _ h]
theorem zU {l : List Fld} {j : Nat} {m : Int} (h : cZ (l.take j) m < 0) : cZ l m = cZ (l.take j) m := by
 conv => lhs; rw [<- List.take_append_drop j l, uS, uR _ _ h]
theorem lf_bnd (k : Nat) : ∀ (v : Val) (m : Int), SizeOf.sizeOf v <= k -> okV v -> (-140737488360000 : Int) <= m -> m <= 1000000 -> (-300000000000000 : Int) <= lfV v m /\ lfV v m <= 1000000 := by
 induction k with
 | zero => intro v m h; obtain ⟨_, _, _, _, _⟩ := v; simp only [Val.mk.sizeOf_spec] at h; omega
 | succ k ih =>
  intro v m hsz ov h1 h2
  obtain ⟨ls, ll, lf, ol, of_⟩ := dl ov
  rw [tq]
  have A : ∀ (l : List Val) (m : Int), (∀ x ∈ l, SizeOf.sizeOf x <= k /\ okV x) -> (-300000000000000 : Int) <= m -> m <= 1000000 -> (-300000000000000 : Int) <= cV l m /\ cV l m <= 1000000 := by
   intro l
   induction l with
   | nil => intro m _ a b; rw [cV]; exact ⟨a, b⟩
   | cons x l il =>
    intro m hx a b
    rw [cV]
    by_cases h0 : 0 <= m
    ·rw [if_pos h0]
     have hx1 := hx x (List.mem_cons_self ..)
     have := ih x m hx1.1 hx1.2 (by omega) b
     exact il _ (fun y hy => hx y (List.mem_cons_of_mem _ hy)) this.1 this.2
    ·rw [if_neg h0]; exact il _ (fun y hy => hx y (List.mem_cons_of_mem _ hy)) a b
  have B : ∀ (l : List Fld) (m : Int), (∀ x ∈ l, SizeOf.sizeOf x.v <= k /\ okF x) -> (-300000000000000 : Int) <= m -> m <= 1000000 -> (-300000000000000 : Int) <= cZ l m /\ cZ l m <= 1000000 := by
   intro l
   induction l with
   | nil => intro m _ a b; rw [cZ]; exact ⟨a, b⟩
   | cons x l il =>
    intro m hx a b
    rw [cZ]
    by_cases h0 : 0 <= m
    ·rw [if_pos h0, mL]
     have hx1 := hx x (List.mem_cons_self ..)
     have hx2 := lE hx1.2
     have := ih x.v (m - (x.name.length : Nat)) hx1.1 hx2.2 (by omega) (by omega)
     exact il _ (fun y hy => hx y (List.mem_cons_of_mem _ hy)) this.1 this.2
    ·rw [if_neg h0]; exact il _ (fun y hy => hx y (List.mem_cons_of_mem _ hy)) a b
  have a := A v.list (m - 1 - (v.s.length : Nat)) (fun x hx => ⟨by have := dq v hx; omega, ol x hx⟩) (by omega) (by omega)
  exact B v.fields _ (fun x hx => ⟨by have := cv v hx; omega, of_ x hx⟩) a.1 a.2
theorem lfVs_bnd {v : Val} {m : Int} (ov : okV v) (h1 : (-140737488360000 : Int) <= m) (h2 : m <= 1000000) (j : Nat) : (-300000000000000 : Int) <= cV (v.list.take j) (m - 1 - (v.s.length : Nat)) /\ cV (v.list.take j) (m - 1 - (v.s.length : Nat)) <= 1000000 := by
 obtain ⟨ls, ll, lf, ol, of_⟩ := dl ov
 have A : ∀ (l : List Val) (m : Int), (∀ x ∈ l, okV x) -> (-300000000000000 : Int) <= m -> m <= 1000000 -> (-300000000000000 : Int) <= cV l m /\ cV l m <= 1000000 := by
  intro l
  induction l with
  | nil => intro m _ a b; rw [cV]; exact ⟨a, b⟩
  | cons x l il =>
   intro m hx a b
   rw [cV]
   by_cases h0 : 0 <= m
   ·rw [if_pos h0]
    have := lf_bnd _ x m (Nat.le_refl _) (hx x (List.mem_cons_self ..)) (by omega) b
    exact il _ (fun y hy => hx y (List.mem_cons_of_mem _ hy)) this.1 this.2
   ·rw [if_neg h0]; exact il _ (fun y hy => hx y (List.mem_cons_of_mem _ hy)) a b
 exact A _ _ (fun x hx => ol x (List.mem_of_mem_take hx)) (by omega) (by omega)
theorem lfFs_bnd {v : Val} {m : Int} (ov : okV v) (h1 : (-300000000000000 : Int) <= m) (h2 : m <= 1000000) (j : Nat) : (-300000000000000 : Int) <= cZ (v.fields.take j) m /\ cZ (v.fields.take j) m <= 1000000 := by
 obtain ⟨ls, ll, lf, ol, of_⟩ := dl ov
 have A : ∀ (l : List Fld) (m : Int), (∀ x ∈ l, okF x) -> (-300000000000000 : Int) <= m -> m <= 1000000 -> (-300000000000000 : Int) <= cZ l m /\ cZ l m <= 1000000 := by
  intro l
  induction l with
  | nil => intro m _ a b; rw [cZ]; exact ⟨a, b⟩
  | cons x l il =>
   intro m hx a b
   rw [cZ]
   by_cases h0 : 0 <= m
   ·rw [if_pos h0, mL]
    have hx2 := lE (hx x (List.mem_cons_self ..))
    have := lf_bnd _ x.v (m - (x.name.length : Nat)) (Nat.le_refl _) hx2.2 (by omega) (by omega)
    exact il _ (fun y hy => hx y (List.mem_cons_of_mem _ hy)) this.1 this.2
   ·rw [if_neg h0]; exact il _ (fun y hy => hx y (List.mem_cons_of_mem _ hy)) a b
 exact A _ _ (fun x hx => of_ x (List.mem_of_mem_take hx)) h1 h2
theorem c48 (k : Nat) : ∀ (v : Val) (m : Int), SizeOf.sizeOf v <= k -> okV v -> (-140737488360000 : Int) <= m -> m <= 1000000 -> R T0 48 [ar v, .i .i64 m] (.i .i64 (lfV v m)) := by
 induction k with
 | zero => intro v m h; obtain ⟨_, _, _, _, _⟩ := v; simp only [Val.mk.sizeOf_spec] at h; omega
 | succ k ih =>
  intro v m hsz ov h1 h2
  obtain ⟨ls, ll, lf, ol, of_⟩ := dl ov
  have bv := lfVs_bnd ov h1 h2
  refine r48 _ _ (mT v m) (mC v m) ?_
  unfold w48
  dsimp only [av]
  simp (disch := first | omega | assumption | (intros; simp only [dl3]; try omega)) only [vb0, ne_eq, aX, kW, aC, bz, vb1, br, dm]
  refine fj (X := Nat) (fun j => .i .i64 (cV (v.list.take j) (m - 1 - (v.s.length : Nat)))) (fun _ => .ptr 0 0) (fun j => .i .i64 (j : Nat))
   (fun j σ => j <= v.list.length /\ σ.h.get 0 = some (.cells (ar v).cells 35 false)) (fun j => v.list.length - j) ?_ 0 _ ⟨Nat.zero_le _, ah _ _ _⟩
  rintro R j σ ⟨hj, hg⟩ hR
  have hb := bv j
  by_cases hc : j < v.list.length /\ 0 <= cV (v.list.take j) (m - 1 - (v.s.length : Nat))
  ·obtain ⟨hj', h0⟩ := hc
   have hm := aY hj'
   have ht := zR hj' h0
   have hR' := hR (j + 1)
   rw [ht] at hR'
   generalize cV (v.list.take j) (m - 1 - (v.s.length : Nat)) = x at h0 hb hR' |-
   have er : ∀ (d : Nat) (σ : AS) (K : AV -> AS -> Prop), oC T0 d 48 [ar (v.list.getD j default), .i .i64 x] σ K = K (.i .i64 (lfV (v.list.getD j default) x)) σ := fun d σ K => (ih _ x (by have := dq v hm; omega) (ol _ hm) (by omega) hb.2).eq d σ K
   simp (disch := first | omega | assumption | (intros; simp only [dl3]; try omega)) only [vb0, ne_eq, aX, kW, aC, bz, vb1, br, dm, hg, er, cL]
   exact hR' _ ⟨by omega, hg⟩ (by omega)
  ·have hall : cV v.list (m - 1 - (v.s.length : Nat)) = cV (v.list.take j) (m - 1 - (v.s.length : Nat)) := by
    by_cases hj' : j < v.list.length
    ·exact zS (by omega)
    ·rw [List.take_of_length_le (by omega)]
   rw [tq, hall]
   generalize cV (v.list.take j) (m - 1 - (v.s.length : Nat)) = x at hc hb |-
   clear hR
   have hcF : (decide (((j : Nat) : Int) < (v.list.length : Nat)) && decide (0 <= x)) = false := by
    rw [Bool.and_eq_false_iff, decide_eq_false_iff_not, decide_eq_false_iff_not]; omega
   simp (disch := first | omega | assumption | (intros; simp only [dl3]; try omega)) only [vb0, ne_eq, aX, kW, aC, bz, vb1, br, dm, vb2, Bool.true_and, hg, hcF]
   have bf := lfFs_bnd ov hb.1 hb.2
   refine fj (X := Nat) (fun j => .i .i64 (cZ (v.fields.take j) x)) (fun _ => .ptr 0 0) (fun j => .i .i64 (j : Nat))
    (fun j σ => j <= v.fields.length /\ σ.h.get 0 = some (.cells (ar v).cells 35 false)) (fun j => v.fields.length - j) ?_ 0 _ ⟨Nat.zero_le _, hg⟩
   clear hg hcF hb hc
   rintro R j σ ⟨hj, hg⟩ hR
   have hb := bf j
   by_cases hc : j < v.fields.length /\ 0 <= cZ (v.fields.take j) x
   ·obtain ⟨hj', h0⟩ := hc
    have hm := aY hj'
    have hR' := hR (j + 1)
    rw [zT hj' h0] at hR'
    generalize cZ (v.fields.take j) x = y at h0 hb hR' |-
    have hF := lE (of_ _ hm)
    have er : ∀ (d : Nat) (σ : AS) (K : AV -> AS -> Prop), oC T0 d 48 [ar (v.fields.getD j default).v, .i .i64 (y - ((v.fields.getD j default).name.length : Nat))] σ K = K (.i .i64 (lfV (v.fields.getD j default).v (y - ((v.fields.getD j default).name.length : Nat)))) σ := fun d σ K => (ih _ _ (by have := cv v hm; omega) hF.2 (by omega) (by omega)).eq d σ K
    have hl := hF.1
    simp (disch := first | omega | assumption | (intros; simp only [dl3]; try omega)) only [vb0, ne_eq, aX, kW, aC, bz, vb1, br, dm, hg, er, cL]
    exact hR' _ ⟨by omega, hg⟩ (by omega)
   ·have hall : cZ v.fields x = cZ (v.fields.take j) x := by
     by_cases hj' : j < v.fields.length
     ·exact zU (by omega)
     ·rw [List.take_of_length_le (by omega)]
    rw [hall]
    generalize cZ (v.fields.take j) x = y at hc hb |-
    have hcF : (decide (((j : Nat) : Int) < (v.fields.length : Nat)) && decide (0 <= y)) = false := by
     rw [Bool.and_eq_false_iff, decide_eq_false_iff_not, decide_eq_false_iff_not]; omega
    simp (disch := first | omega | assumption | (intros; simp only [dl3]; try omega)) only [vb0, ne_eq, aX, kW, aC, bz, vb1, br, dm, vb2, Bool.true_and, hg, hcF]
theorem e48 {v : Val} {m : Int} (ov : okV v) (h1 : (-140737488360000 : Int) <= m) (h2 : m <= 1000000) {d : Nat} {σ : AS} {K : AV -> AS -> Prop} : oC T0 d 48 [ar v, .i .i64 m] σ K = K (.i .i64 (lfV v m)) σ := (c48 _ v m (Nat.le_refl _) ov h1 h2).eq d σ K
def Ac (v : Val) : Bool := decide (0 <= lfV v 2000)
theorem c22 (v : Val) (ov : okV v) : R T0 22 [ar v, .i .i64 2000] (.b (Ac v)) := by
 refine r22 _ _ (mT v 2000) (mC v 2000) ?_
 unfold w22
 dsimp only [av]
 simp (disch := first | omega | assumption | (intros; simp only [dl3]; try omega)) only [vb0, ne_eq, eV, vb1, e48 ov (show (-140737488360000 : Int) <= 2000 by decide) (show (2000 : Int) <= 1000000 by decide)]
 rfl
theorem e22 {v : Val} (ov : okV v) {d : Nat} {σ : AS} {K : AV -> AS -> Prop} : oC T0 d 22 [ar v, .i .i64 2000] σ K = K (.b (Ac v)) σ := (c22 v ov).eq d σ K
mutual
inductive smV : Val -> Prop where
 | mk {k n : Int} {s : List UInt8} {l : List Val} {fs : List Fld} : (Lit.int .i64 k).wf = true -> (Lit.int .i64 n).wf = true -> s.length <= 100000 -> l.length <= 100000 -> fs.length <= 100000 -> (∀ x ∈ l, smV x) -> (∀ f ∈ fs, smF f) -> smV (.mk k n s l fs)
inductive smF : Fld -> Prop where
 | mk {nm : List UInt8} {v : Val} : nm.length <= 100000 -> smV v -> smF (.mk nm v)
end
theorem bY {v : Val} (h : smV v) : ((Lit.int .i64 v.kind).wf = true /\ (Lit.int .i64 v.n).wf = true) /\ v.s.length <= 100000 /\ v.list.length <= 100000 /\ v.fields.length <= 100000 /\ (∀ x ∈ v.list, smV x) /\ (∀ f ∈ v.fields, smF f) := by
 cases h with
 | mk h1 h2 h3 h4 h5 h6 h7 => exact ⟨⟨h1, h2⟩, h3, h4, h5, h6, h7⟩
theorem fZ {f : Fld} (h : smF f) : f.name.length <= 100000 /\ smV f.v := by
 cases h with
 | mk h1 h2 => exact ⟨h1, h2⟩
theorem smV.of {v : Val} (h1 : (Lit.int .i64 v.kind).wf = true /\ (Lit.int .i64 v.n).wf = true) (h2 : v.s.length <= 100000) (h3 : v.list.length <= 100000) (h4 : v.fields.length <= 100000) (h5 : ∀ x ∈ v.list, smV x) (h6 : ∀ f ∈ v.fields, smF f) : smV v := by
 obtain ⟨k, n, s, l, fs⟩ := v
 exact .mk h1.1 h1.2 h2 h3 h4 h5 h6
theorem smF.of {f : Fld} (h1 : f.name.length <= 100000) (h2 : smV f.v) : smF f := by
 obtain ⟨nm, v⟩ := f
 exact .mk h1 h2
theorem okV_of (k : Nat) : ∀ v : Val, SizeOf.sizeOf v <= k -> smV v -> okV v := by
 induction k with
 | zero => intro v h; obtain ⟨_, _, _, _, _⟩ := v; simp only [Val.mk.sizeOf_spec] at h; omega
 | succ k ih =>
  intro v hsz h
  obtain ⟨h1, h2, h3, h4, h5, h6⟩ := bY h
  have a : ∀ x ∈ v.list, okV x := fun x hx => ih x (by have := dq v hx; omega) (h5 x hx)
  have b : ∀ f ∈ v.fields, okF f := fun f hf => by
   have g := fZ (h6 f hf)
   have q := ih f.v (by have := cv v hf; omega) g.2
   obtain ⟨nm, w⟩ := f
   exact .mk (by have := g.1; simp only [Fld.name] at this; omega) q
  obtain ⟨k, n, s, l, fs⟩ := v
  exact .mk h1.1 h1.2 (by simp only [Val.s] at h2; omega) (by simp only [Val.list] at h3; omega) (by simp only [Val.fields] at h4; omega) a b
theorem smV.ok {v : Val} (h : smV v) : okV v := okV_of _ v (Nat.le_refl _) h
theorem wf_okV {v : Val} (h : okV v) : (Lit.int .i64 v.kind).wf = true /\ (Lit.int .i64 v.n).wf = true := by
 cases h with
 | mk h1 h2 => exact ⟨h1, h2⟩
theorem lf_le (k : Nat) : ∀ (v : Val) (m : Int), SizeOf.sizeOf v <= k -> lfV v m <= m - 1 := by
 induction k with
 | zero => intro v m h; obtain ⟨_, _, _, _, _⟩ := v; simp only [Val.mk.sizeOf_spec] at h; omega
 | succ k ih =>
  intro v m hsz
  rw [tq]
  have A : ∀ (l : List Val) (m : Int), (∀ x ∈ l, SizeOf.sizeOf x <= k) -> cV l m <= m := by
   intro l
   induction l with
   | nil => intro m _; rw [cV]; exact Int.le_refl _
   | cons x l il =>
    intro m hx
    rw [cV]
    have h1 := il (if 0 <= m then lfV x m else m) (fun y hy => hx y (List.mem_cons_of_mem _ hy))
    have := ih x m (hx x (List.mem_cons_self ..))
    by_cases h0 : 0 <= m
    ·rw [if_pos h0] at h1 |-; omega
    ·rw [if_neg h0] at h1 |-; exact h1
  have B : ∀ (l : List Fld) (m : Int), (∀ x ∈ l, SizeOf.sizeOf x.v <= k) -> cZ l m <= m := by
   intro l
   induction l with
   | nil => intro m _; rw [cZ]; exact Int.le_refl _
   | cons x l il =>
    intro m hx
    rw [cZ]
    have h1 := il (if 0 <= m then lfF x m else m) (fun y hy => hx y (List.mem_cons_of_mem _ hy))
    have := ih x.v (m - (x.name.length : Nat)) (hx x (List.mem_cons_self ..))
    by_cases h0 : 0 <= m
    ·rw [if_pos h0, mL] at h1 |-; omega
    ·rw [if_neg h0] at h1 |-; exact h1
  have a := A v.list (m - 1 - (v.s.length : Nat)) (fun x hx => by have := dq v hx; omega)
  have b := B v.fields (cV v.list (m - 1 - (v.s.length : Nat))) (fun x hx => by have := cv v hx; omega)
  omega
theorem uN : ∀ (l : List Val) (m : Int), 0 <= cV l m -> 0 <= m /\ cV l m + (l.length : Nat) <= m /\ ∀ x ∈ l, ∃ m', m' <= m /\ 0 <= lfV x m'
 | [], m, h => by rw [cV] at h |-; exact ⟨h, by simp, fun x hx => by cases hx⟩
 | x :: l, m, h => by
  rw [cV] at h |-
  by_cases h0 : 0 <= m
  ·rw [if_pos h0] at h |-
   have ih := uN l _ h
   have hx := lf_le _ x m (Nat.le_refl _)
   refine ⟨h0, by rw [List.length_cons]; omega, fun y hy => ?_⟩
   rcases List.mem_cons.1 hy with rfl | hy
   ·exact ⟨m, Int.le_refl _, ih.1⟩
   ·obtain ⟨m', g1, g2⟩ := ih.2.2 y hy; exact ⟨m', by omega, g2⟩
  ·rw [if_neg h0, uO _ _ (by omega)] at h; omega
theorem uQ : ∀ (l : List Fld) (m : Int), 0 <= cZ l m -> 0 <= m /\ cZ l m + (l.length : Nat) <= m /\ ∀ x ∈ l, ∃ m', m' <= m /\ 0 <= lfF x m'
 | [], m, h => by rw [cZ] at h |-; exact ⟨h, by simp, fun x hx => by cases hx⟩
 | x :: l, m, h => by
  rw [cZ] at h |-
  by_cases h0 : 0 <= m
  ·rw [if_pos h0] at h |-
   have ih := uQ l _ h
   have hx := lf_le _ x.v (m - (x.name.length : Nat)) (Nat.le_refl _)
   rw [<- mL] at hx
   refine ⟨h0, by rw [List.length_cons]; omega, fun y hy => ?_⟩
   rcases List.mem_cons.1 hy with rfl | hy
   ·exact ⟨m, Int.le_refl _, ih.1⟩
   ·obtain ⟨m', g1, g2⟩ := ih.2.2 y hy; exact ⟨m', by omega, g2⟩
  ·rw [if_neg h0, uR _ _ (by omega)] at h; omega
theorem few_sm (k : Nat) : ∀ (v : Val) (m : Int), SizeOf.sizeOf v <= k -> okV v -> 0 <= lfV v m -> m <= 100000 -> smV v := by
 induction k with
 | zero => intro v m h; obtain ⟨_, _, _, _, _⟩ := v; simp only [Val.mk.sizeOf_spec] at h; omega
 | succ k ih =>
  intro v m hsz ov h hm
  obtain ⟨ls, ll, lf, ol, of_⟩ := dl ov
  rw [tq] at h
  obtain ⟨b1, b2, b3⟩ := uQ _ _ h
  obtain ⟨a1, a2, a3⟩ := uN _ _ b1
  refine .of (wf_okV ov) (by omega) (by omega) (by omega) (fun x hx => ?_) (fun f hf => ?_)
  ·obtain ⟨m', g1, g2⟩ := a3 x hx
   exact ih x m' (by have := dq v hx; omega) (ol x hx) g2 (by omega)
  ·obtain ⟨m', g1, g2⟩ := b3 f hf
   rw [mL] at g2
   have hle := lf_le _ f.v (m' - (f.name.length : Nat)) (Nat.le_refl _)
   exact .of (by omega) (ih f.v _ (by have := cv v hf; omega) (lE (of_ f hf)).2 g2 (by omega))
theorem tB {v : Val} (ov : okV v) (h : Ac v = true) : smV v := few_sm _ v 2000 (Nat.le_refl _) ov (of_decide_eq_true h) (by decide)
theorem elV : El T0 ar 32 35 4 80 where
 ty := by kernel_rfl
 sz := by kernel_rfl
 bytes := by kernel_rfl
 zr := by kernel_rfl
 de := agg_of (by kernel_rfl)
 len := bM
 leaf := gK
 free := frees_V
 nrm := norms_V
 agg := fun v => by rw [aw]; rfl
theorem elF : El T0 az 33 52 5 96 where
 ty := by kernel_rfl
 sz := by kernel_rfl
 bytes := by kernel_rfl
 zr := by kernel_rfl
 de := agg_of (by kernel_rfl)
 len := bu
 leaf := lM
 free := fun f => by rw [bp, aw]; rfl
 nrm := fun f => by rw [bp, aw]; rfl
 agg := fun f => by rw [bp]; rfl
theorem iP {n b : Nat} (hb : b <= 1000) (h : n <= 1000000) : cd n b = true := by
 unfold cd
 have : n * b <= 1000000 * 1000 := Nat.mul_le_mul h hb
 rw [Nat.ble_eq_true_of_le (by omega), Nat.ble_eq_true_of_le (by omega), Nat.ble_eq_true_of_le (by omega)]; rfl
theorem a77 {l : List Val} (hl : l.length <= 1000000) {d n : Nat} {K : AV -> Option AB -> Prop} : oA T0 d 77 [.lst (l.map ar)] n K = K (cA l n) (wy ar 35 l) :=
 sC (fn := Tryz.f77) elV (iP (by decide) hl) (by kernel_rfl) (by kernel_rfl) (by kernel_rfl) (by kernel_rfl) (by kernel_rfl) (by kernel_rfl) (fun P a Q => by kernel_rfl) d n K
theorem a78 {l : List Fld} (hl : l.length <= 1000000) {d n : Nat} {K : AV -> Option AB -> Prop} : oA T0 d 78 [.lst (l.map az)] n K = K (cA l n) (wy az 52 l) :=
 sC (fn := Tryz.f78) elF (iP (by decide) hl) (by kernel_rfl) (by kernel_rfl) (by kernel_rfl) (by kernel_rfl) (by kernel_rfl) (by kernel_rfl) (fun P a Q => by kernel_rfl) d n K
theorem q77 {l : List Val} (hl : l.length <= 1000000) (σ : AS) : ∃ σ', (∀ d K, oC T0 d 77 [.lst (l.map ar)] σ K = K (cA l σ.n) σ') /\ (∀ j, j < σ.n -> σ'.h.get j = σ.h.get j) /\ σ.n <= σ'.n /\ (l ≠ [] -> σ.n < σ'.n) /\ (∀ encD : Val -> AV, RowAt ar encD 35 σ'.h l σ.n 0) :=
 vR (fn := Tryz.f77) elV (iP (by decide) hl) (by kernel_rfl) (by kernel_rfl) (by kernel_rfl) (by kernel_rfl) (by kernel_rfl) (by kernel_rfl) (fun P a Q => by kernel_rfl) σ
theorem q78 {l : List Fld} (hl : l.length <= 1000000) (σ : AS) : ∃ σ', (∀ d K, oC T0 d 78 [.lst (l.map az)] σ K = K (cA l σ.n) σ') /\ (∀ j, j < σ.n -> σ'.h.get j = σ.h.get j) /\ σ.n <= σ'.n /\ (l ≠ [] -> σ.n < σ'.n) /\ (∀ encD : Fld -> AV, RowAt az encD 52 σ'.h l σ.n 0) :=
 vR (fn := Tryz.f78) elF (iP (by decide) hl) (by kernel_rfl) (by kernel_rfl) (by kernel_rfl) (by kernel_rfl) (by kernel_rfl) (by kernel_rfl) (fun P a Q => by kernel_rfl) σ
def aL (v : Val) (A B : AV) : List AV := [.i .i64 v.kind, .i .i64 v.n, .s v.s, A, B]
theorem je (v : Val) : (ar v).cells = aL v (.lst (v.list.map ar)) (.lst (v.fields.map az)) := by rw [aw]; rfl
section
variable {h : Tr AB} {v : Val} {A B x : AV} {id e : Nat} {g : Bool}
theorem l3 (hg : h.get id = some (.cells (aL v A B) e g)) : ac T0 h 32 (.ptr id 3) = some A := by rw [cq hg (show 3 <= 5 by decide)]; exact ofc_32 _ _
theorem l4 (hg : h.get id = some (.cells (aL v A B) e g)) : ac T0 h 33 (.ptr id 4) = some B := by rw [cq hg (show 4 <= 5 by decide)]; exact ofc_33 _ _
theorem l5 (hg : h.get id = some (.cells (aL v A B) e g)) : ac T0 h 35 (.ptr id 0) = some (.agg (aL v A B)) := by rw [cq hg (Nat.zero_le _), List.drop_zero, iU]; rfl
theorem s3 (hg : h.get id = some (.cells (aL v A B) e g)) (hc : x.cells = [x]) (hl : x.leaf = true) : aA T0 h 32 (.ptr id 3) x = some (h.put id (some (.cells (aL v x B) e g))) :=
 dP sz_32 hg (by rw [hc]; rfl) (by rw [hc]; simp [aM, hl]) (by rw [hc]; rfl)
theorem s4 (hg : h.get id = some (.cells (aL v A B) e g)) (hc : x.cells = [x]) (hl : x.leaf = true) : aA T0 h 33 (.ptr id 4) x = some (h.put id (some (.cells (aL v A x) e g))) :=
 dP sz_33 hg (by rw [hc]; rfl) (by rw [hc]; simp [aM, hl]) (by rw [hc]; rfl)
theorem t3 (hg : h.get id = some (.cells (aL v A B) e g)) (hc : x.cells = [x]) (hl : x.leaf = true) : bo T0 h 32 (.ptr id 3) x = some (id, .cells (aL v x B) e g) :=
 ge sz_32 hg (by rw [hc]; rfl) (by rw [hc]; simp [aM, hl]) (by rw [hc]; rfl)
theorem t4 (hg : h.get id = some (.cells (aL v A B) e g)) (hc : x.cells = [x]) (hl : x.leaf = true) : bo T0 h 33 (.ptr id 4) x = some (id, .cells (aL v A x) e g) :=
 ge sz_33 hg (by rw [hc]; rfl) (by rw [hc]; simp [aM, hl]) (by rw [hc]; rfl)
end
theorem cy : ∀ (a b : List AV), a.length = b.length -> bQ a 0 b = some b := by
 intro a b
 induction b generalizing a with
 | nil => intro q; cases a with | nil => rfl | cons _ _ => simp at q
 | cons x b ih => intro q; cases a with | nil => simp at q | cons y a => simp [bQ, ih a (by simpa using q)]
theorem um {h : Tr AB} {l : List Val} {id j : Nat} (r : RowAt ar ar 35 h l id j) (hj : j < l.length) : bo T0 h 35 (.ptr id (j * (4 + 1))) (ar (l.getD j default)) = some (id, .cells (eo ar ar l (j + 1)) 35 true) :=
 r.store (k := 0) bM hj ji (bM _) (gK _) (cy _ _ rfl)
theorem un {h : Tr AB} {l : List Fld} {id j : Nat} (r : RowAt az az 52 h l id j) (hj : j < l.length) : bo T0 h 35 (.ptr id (j * (5 + 1) + 1)) (ar (l.getD j default).v) = some (id, .cells (eo az az l (j + 1)) 52 true) :=
 r.store (k := 1) bu hj ji (bM _) (gK _) (by
  rw [bp]
  show bQ (AV.s _ :: _) 1 _ = _
  have : ∀ (x : AV) (a b : List AV), bQ (x :: a) 1 b = (bQ a 0 b).map (x :: ·) := fun x a b => by cases b <;> rfl
  rw [this, cy _ _ rfl]; rfl)
theorem yU {h : Tr AB} {v : Val} {a b i j : Nat} (ra : RowAt ar ar 35 h v.list a i) (hi : v.list.length <= i) (rb : RowAt az az 52 h v.fields b j) (hj : v.fields.length <= j) : fz T0 h 4 (.agg (aL v (cA v.list a) (cA v.fields b))) = some (ar v) := by
 have g1 := RowAt.fz elV bM elV.free elV.nrm ra hi
 have g2 := RowAt.fz elF bu elF.free elF.nrm rb hj
 rw [fz_agg 2]
 have m : cU (fz T0 h 3) (aL v (cA v.list a) (cA v.fields b)) = some (ar v).cells := by
  rw [je]
  exact be (db 2 rfl) (be (db 2 rfl) (be (db 2 rfl) (be g1 (be g2 rfl))))
 rw [m, aw]; rfl
theorem py {h : Tr AB} {id e : Nat} {g : Bool} {A B : AV} {v : Val} {cs : List AV} (hc : cs.length = 5) (hg : h.get id = some (.cells cs e g)) (hA : A.leaf = true) (hB : B.leaf = true) : aA T0 h 35 (.ptr id 0) (.agg (aL v A B)) = some (h.put id (some (.cells (aL v A B) e g))) :=
 dP ji hg rfl (by show aM [.i .i64 v.kind, .i .i64 v.n, .s v.s, A, B] = true; rw [show aM [.i .i64 v.kind, .i .i64 v.n, .s v.s, A, B] = aM [A, B] from rfl]; simp only [aM, hA, hB]) (cy _ _ hc)
theorem frA {v : Val} : lX [ar v] = true := fO v
theorem r107 (a0 : AV) {r : AV} (hi : AV.idfree.idfrees [a0] = true) (hn : AV.norm.norms [a0] = [a0]) (h : w107 (av T0) a0 (fun r1 s1 => oZ T0 s1 r1 (fun r2 => r2 = r))) : R T0 107 [a0] r :=
 R.mkH (by kernel_rfl) (by kernel_rfl) (show T0.fn 107 = some Tryz.f107 by kernel_rfl) (by kernel_rfl) (by kernel_rfl) (by kernel_rfl) hi hn (by rw [w107_eq] at h; exact h)
theorem c107 (k : Nat) : ∀ v : Val, SizeOf.sizeOf v <= k -> smV v -> R T0 107 [ar v] (ar v) := by
 induction k with
 | zero => intro v h; obtain ⟨_, _, _, _, _⟩ := v; simp only [Val.mk.sizeOf_spec] at h; omega
 | succ k ih =>
  intro v hsz sm
  obtain ⟨-, ls, ll, lf, ol, of_⟩ := bY sm
  refine r107 _ (fO v) (gX v) ?_
  unfold w107
  dsimp only [av]
  simp (disch := first | omega | assumption | (intros; simp only [dl2]; try omega)) only [bt, cw, Nat.zero_add, aa]
  have h0 : ((Tr.nil.put 0 (some (.cells (ar v).cells 35 false))).put 1 (some (.cells [.i .i64 0, .i .i64 0, .s [], .nilz true, .nilz true] 35 false)) : Tr AB).get 0 = some (.cells (aL v (.lst (v.list.map ar)) (.lst (v.fields.map az))) 35 false) := by
   rw [ae _ _ (by decide), ah, je]
  rw [l3 h0, aa]
  obtain ⟨σ3, q1, q2, q3, q4, q5⟩ := q77 (l := v.list) (by omega) ⟨((Tr.nil.put 0 (some (.cells (ar v).cells 35 false))).put 1 (some (.cells [.i .i64 0, .i .i64 0, .s [], .nilz true, .nilz true] 35 false)) : Tr AB), 2⟩
  dsimp only at q1 q2 q3 q4 q5
  have g0 := (q2 0 (by decide)).trans h0
  have g1 := (q2 1 (by decide)).trans (ah _ _ _)
  have q5 := q5 ar
  rw [q1, s3 g0 iS eN, aG]
  simp (disch := first | omega | assumption | (intros; simp only [dl2]; try omega)) only [aa, l3 (ah _ _ _), ij elV.ty]
  refine gJ (X := Nat) (fun _ => .ptr 1 0) (fun _ => .ptr 0 0) (fun _ => cA v.list 2) (fun _ => .i .i64 (v.list.length : Nat)) (fun j => .i .i64 (j : Nat))
   (fun j σ => j <= v.list.length /\ 2 <= σ.n /\ (v.list ≠ [] -> 2 < σ.n) /\ σ.h.get 0 = some (.cells (aL v (cA v.list 2) (.lst (v.fields.map az))) 35 false) /\ σ.h.get 1 = some (.cells [.i .i64 0, .i .i64 0, .s [], .nilz true, .nilz true] 35 false) /\ RowAt ar ar 35 σ.h v.list 2 j) (fun j => v.list.length - j) ?_ 0 _
   ⟨Nat.zero_le _, q3, q4, ah _ _ _, (ae _ _ (by decide)).trans g1, q5.same (ae _ _ (by decide))⟩
  clear q1 q2 q3 q4 q5 g0 g1 h0
  rintro R j σ ⟨hj, hn, hn2, b0, b1, hr⟩ hR
  simp only [cc]
  refine aT (fun h => ?_) (fun h => ?_)
  ·have hj' : j < v.list.length := by omega
   have hne : v.list ≠ [] := fun q => by rw [q] at hj'; cases hj'
   have hn2 := hn2 hne
   have hm := aY hj'
   have er := fun (d : Nat) (σ : AS) (K : AV -> AS -> Prop) => (ih _ (by have := dq v hm; omega) (ol _ hm)).eq d σ K
   rw [fT elV.ty elV.sz hj', aa, hr.load elV bM hj', aa]
   have e1 : ((σ.h.put σ.n (some (.cells [.i .i64 0, .i .i64 0, .s [], .nilz true, .nilz true] 35 false))).put σ.n (some (.cells (ar (v.list.getD j default)).cells 35 false))).get 0 = some (.cells (aL v (cA v.list 2) (.lst (v.fields.map az))) 35 false) := by rw [ae _ _ (by omega), ae _ _ (by omega)]; exact b0
   have e2 : RowAt ar ar 35 ((σ.h.put σ.n (some (.cells [.i .i64 0, .i .i64 0, .s [], .nilz true, .nilz true] 35 false))).put σ.n (some (.cells (ar (v.list.getD j default)).cells 35 false))) v.list 2 j := hr.same (by rw [ae _ _ (by omega), ae _ _ (by omega)])
   simp (disch := first | omega | assumption | (intros; simp only [dl2]; try omega)) only [bt, st_V0, aG, cw, Nat.zero_add, aa, l3 e1, cE, ah, bH, iy, frA, fb, er, fT elV.ty elV.sz hj', um e2 hj', bK]
   rw [fG rfl rfl, fc]
   simp (disch := first | omega | assumption | (intros; simp only [dl2]; try omega)) only [aa, aC, cI]
   refine hR (j + 1) ⟨_, _⟩ ?_ (by omega)
   refine ⟨by omega, by dsimp only; omega, fun _ => by dsimp only; omega, ?_, ?_, fun _ => ah _ _ _⟩
   ·dsimp only; rw [ae _ _ (by decide)]; exact e1
   ·dsimp only; rw [ae _ _ (by decide), ae _ _ (by omega), ae _ _ (by omega)]; exact b1
  ·clear hR
   have hall : v.list.length <= j := by omega
   simp (disch := first | omega | assumption | (intros; simp only [dl2]; try omega)) only [cw, Nat.zero_add, aa, l4 b0]
   obtain ⟨σ3, q1, q2, q3, q4, q5⟩ := q78 (l := v.fields) (by omega) σ
   have q5 := q5 az
   obtain ⟨m, hm⟩ : ∃ m, m = σ.n := ⟨_, rfl⟩
   rw [<- hm] at q1 q2 q3 q4 q5 hn hn2
   have g0 := (q2 0 (by omega)).trans b0
   have g1 := (q2 1 (by omega)).trans b1
   have hr : RowAt ar ar 35 σ3.h v.list 2 j := fun hne => (q2 2 (hn2 hne)).trans (hr hne)
   rw [q1, s4 g0 iS eN, aG]
   simp (disch := first | omega | assumption | (intros; simp only [dl2]; try omega)) only [aa, l4 (ah _ _ _), ij elF.ty]
   refine gJ (X := Nat) (fun _ => .ptr 1 0) (fun _ => .ptr 0 0) (fun _ => cA v.fields m) (fun _ => .i .i64 (v.fields.length : Nat)) (fun j => .i .i64 (j : Nat))
    (fun i σ => i <= v.fields.length /\ m <= σ.n /\ (v.fields ≠ [] -> m < σ.n) /\ σ.h.get 0 = some (.cells (aL v (cA v.list 2) (cA v.fields m)) 35 false) /\ σ.h.get 1 = some (.cells [.i .i64 0, .i .i64 0, .s [], .nilz true, .nilz true] 35 false) /\ RowAt ar ar 35 σ.h v.list 2 j /\ RowAt az az 52 σ.h v.fields m i) (fun i => v.fields.length - i) ?_ 0 _
    ⟨Nat.zero_le _, q3, q4, ah _ _ _, (ae _ _ (by decide)).trans g1, hr.same (ae _ _ (by decide)), q5.same (ae _ _ (by omega))⟩
   clear q1 q2 q3 q4 q5 g0 g1 hr b0 b1 h
   rintro R i σ ⟨hi, hm3, hm4, b0, b1, hr, hf⟩ hR
   simp only [cc]
   refine aT (fun h => ?_) (fun h => ?_)
   ·have hi' : i < v.fields.length := by omega
    have hne : v.fields ≠ [] := fun q => by rw [q] at hi'; cases hi'
    have hm4 := hm4 hne
    have hmm := aY hi'
    have er := fun (d : Nat) (σ : AS) (K : AV -> AS -> Prop) => (ih _ (by have := cv v hmm; omega) (fZ (of_ _ hmm)).2).eq d σ K
    rw [fT elF.ty elF.sz hi', aa, hf.load elF bu hi', aa]
    have e1 : ((σ.h.put σ.n (some (.cells [.s [], .i .i64 0, .i .i64 0, .s [], .nilz true, .nilz true] 52 false))).put σ.n (some (.cells (az (v.fields.getD i default)).cells 52 false))).get 0 = some (.cells (aL v (cA v.list 2) (cA v.fields m)) 35 false) := by rw [ae _ _ (by omega), ae _ _ (by omega)]; exact b0
    have e2 : RowAt az az 52 ((σ.h.put σ.n (some (.cells [.s [], .i .i64 0, .i .i64 0, .s [], .nilz true, .nilz true] 52 false))).put σ.n (some (.cells (az (v.fields.getD i default)).cells 52 false))) v.fields m i := hf.same (by rw [ae _ _ (by omega), ae _ _ (by omega)])
    have c1 : 1 <= (az (v.fields.getD i default)).cells.length := by rw [bu]; decide
    simp (disch := first | omega | assumption | (intros; simp only [dl2]; try omega)) only [bt, uh, aG, cw, Nat.zero_add, aa, l4 e1, cE, ah, bH c1, lY, frA, fb, er, fT elF.ty elF.sz hi', un e2 hi', bK]
    rw [fG rfl rfl, fc]
    simp (disch := first | omega | assumption | (intros; simp only [dl2]; try omega)) only [aa, aC, cI]
    refine hR (i + 1) ⟨_, _⟩ ?_ (by omega)
    refine ⟨by omega, by dsimp only; omega, fun _ => by dsimp only; omega, ?_, ?_, ?_, fun _ => ah _ _ _⟩
    ·dsimp only; rw [ae _ _ (by omega)]; exact e1
    ·dsimp only; rw [ae _ _ (by omega), ae _ _ (by omega), ae _ _ (by omega)]; exact b1
    ·dsimp only
     intro hne
     have := hn2 hne
     rw [ae _ _ (by omega), ae _ _ (by omega), ae _ _ (by omega)]; exact hr hne
   ·clear hR
    simp (disch := first | omega | assumption | (intros; simp only [dl2]; try omega)) only [aa, l5 b0]
    rw [py rfl b1 eN eN, aG]
    rw [l5 (ah _ _ _), aa]
    exact ⟨4, _, yU (hr.same (ae _ _ (by decide))) hall (hf.same (ae _ _ (by omega))) (by omega), rfl⟩
theorem e107 {v : Val} (sm : smV v) {d : Nat} {σ : AS} {K : AV -> AS -> Prop} : oC T0 d 107 [ar v] σ K = K (ar v) σ := (c107 _ v (Nat.le_refl _) sm).eq d σ K
theorem c50 (k : Nat) : ∀ v : Val, SizeOf.sizeOf v <= k -> smV v -> R T0 50 [ar v] (ar v) := by
 induction k with
 | zero => intro v h; obtain ⟨_, _, _, _, _⟩ := v; simp only [Val.mk.sizeOf_spec] at h; omega
 | succ k ih =>
  intro v hsz sm
  obtain ⟨-, ls, ll, lf, ol, of_⟩ := bY sm
  refine r50 _ (fO v) (gX v) ?_
  unfold w50
  dsimp only [av]
  simp (disch := first | omega | assumption | (intros; simp only [dl2]; try omega)) only [bt, cw, Nat.zero_add, aa]
  have h0 : ((Tr.nil.put 0 (some (.cells (ar v).cells 35 false))).put 1 (some (.cells [.i .i64 0, .i .i64 0, .s [], .nilz true, .nilz true] 35 false)) : Tr AB).get 0 = some (.cells (aL v (.lst (v.list.map ar)) (.lst (v.fields.map az))) 35 false) := by
   rw [ae _ _ (by decide), ah, je]
  have h1 : ((Tr.nil.put 0 (some (.cells (ar v).cells 35 false))).put 1 (some (.cells [.i .i64 0, .i .i64 0, .s [], .nilz true, .nilz true] 35 false)) : Tr AB).get 1 = some (.cells [.i .i64 0, .i .i64 0, .s [], .nilz true, .nilz true] 35 false) := ah _ _ _
  generalize ((Tr.nil.put 0 (some (.cells (ar v).cells 35 false))).put 1 (some (.cells [.i .i64 0, .i .i64 0, .s [], .nilz true, .nilz true] 35 false)) : Tr AB) = h at h0 h1
  rw [l3 h0, aa, a77 (by omega), pZ rfl, l4 h0, aa, nL rfl, a78 (by omega), nL rfl]
  have h2 : ((h.put (1 + 1) (wy ar 35 v.list)).put (1 + 1 + 1) (wy az 52 v.fields)).get 0 = some (.cells (aL v (.lst (v.list.map ar)) (.lst (v.fields.map az))) 35 false) := by
   rw [ae _ _ (by decide), ae _ _ (by decide)]; exact h0
  rw [t3 h2 iS eN, bK, fG rfl rfl, nL rfl, t4 (ah _ _ _) iS eN, bK, fG rfl rfl, fc]
  rw [l3 (ah _ _ _), aa, ij elV.ty, aa]
  refine jR (X := Nat) (fun _ => .ptr 1 0) (fun _ => .ptr 0 0) (fun _ => .i .i64 (v.list.length : Nat)) (fun j => .i .i64 (j : Nat))
   (fun j σ => j <= v.list.length /\ σ.h.get 0 = some (.cells (aL v (cA v.list 2) (cA v.fields 3)) 35 false) /\ σ.h.get 1 = some (.cells [.i .i64 0, .i .i64 0, .s [], .nilz true, .nilz true] 35 false) /\ RowAt ar ar 35 σ.h v.list 2 j /\ RowAt az az 52 σ.h v.fields 3 0) (fun j => v.list.length - j) ?_ 0 _
   ⟨Nat.zero_le _, ah _ _ _, by dsimp only; rw [ae _ _ (by decide), ae _ _ (by decide), ae _ _ (by decide), ae _ _ (by decide)]; exact h1, RowAt.new (by dsimp only; rw [ae _ _ (by decide), ae _ _ (by decide), ae _ _ (by decide), ah]), RowAt.new (by dsimp only; rw [ae _ _ (by decide), ae _ _ (by decide), ah])⟩
  clear h0 h1 h2 h
  rintro R j σ ⟨hj, b0, b1, hr, hf⟩ hR
  simp only [cc]
  refine aT (fun h => ?_) (fun h => ?_)
  ·have hj' : j < v.list.length := by omega
   have hm := aY hj'
   have er := fun (d : Nat) (σ : AS) (K : AV -> AS -> Prop) => (ih _ (by have := dq v hm; omega) (ol _ hm)).eq d σ K
   simp (disch := first | omega | assumption | (intros; simp only [dl2]; try omega)) only [cw, Nat.zero_add, aa, l3 b0, fT elV.ty elV.sz hj', hr.load elV bM hj', er, um hr hj', bK]
   rw [fG rfl rfl, fc]
   simp (disch := first | omega | assumption | (intros; simp only [dl2]; try omega)) only [aa, aC, cI]
   refine hR (j + 1) ⟨_, _⟩ ?_ (by omega)
   refine ⟨by omega, ?_, ?_, fun _ => ah _ _ _, hf.same (ae _ _ (by decide))⟩
   ·dsimp only; rw [ae _ _ (by decide)]; exact b0
   ·dsimp only; rw [ae _ _ (by decide)]; exact b1
  ·clear hR
   have hall : v.list.length <= j := by omega
   simp (disch := first | omega | assumption | (intros; simp only [dl2]; try omega)) only [cw, Nat.zero_add, aa, l4 b0, ij elF.ty]
   refine jR (X := Nat) (fun _ => .ptr 1 0) (fun _ => .ptr 0 0) (fun _ => .i .i64 (v.fields.length : Nat)) (fun j => .i .i64 (j : Nat))
    (fun i σ => i <= v.fields.length /\ σ.h.get 0 = some (.cells (aL v (cA v.list 2) (cA v.fields 3)) 35 false) /\ σ.h.get 1 = some (.cells [.i .i64 0, .i .i64 0, .s [], .nilz true, .nilz true] 35 false) /\ RowAt ar ar 35 σ.h v.list 2 j /\ RowAt az az 52 σ.h v.fields 3 i) (fun i => v.fields.length - i) ?_ 0 _
    ⟨Nat.zero_le _, b0, b1, hr, hf⟩
   clear b0 b1 hr hf h
   rintro R i σ ⟨hi, b0, b1, hr, hf⟩ hR
   simp only [cc]
   refine aT (fun h => ?_) (fun h => ?_)
   ·have hi' : i < v.fields.length := by omega
    have hmm := aY hi'
    have er := fun (d : Nat) (σ : AS) (K : AV -> AS -> Prop) => (ih _ (by have := cv v hmm; omega) (fZ (of_ _ hmm)).2).eq d σ K
    have ld : ac T0 σ.h 35 (.ptr 3 (i * (5 + 1) + 1)) = some (ar (v.fields.getD i default).v) := by
     rw [cq (hf.get hi') (by rw [xO bu bu]; omega), <- List.drop_drop, qe bu hi']
     rw [bp]
     show aD T0 35 ((ar (v.fields.getD i default).v).cells ++ _) = _
     rw [aw, iU]; rfl
    simp (disch := first | omega | assumption | (intros; simp only [dl2]; try omega)) only [cw, Nat.zero_add, aa, l4 b0, fT elF.ty elF.sz hi', ld, er, un hf hi', bK]
    rw [fG rfl rfl, fc]
    simp (disch := first | omega | assumption | (intros; simp only [dl2]; try omega)) only [aa, aC, cI]
    refine hR (i + 1) ⟨_, _⟩ ?_ (by omega)
    refine ⟨by omega, ?_, ?_, hr.same (ae _ _ (by decide)), fun _ => ah _ _ _⟩
    ·dsimp only; rw [ae _ _ (by decide)]; exact b0
    ·dsimp only; rw [ae _ _ (by decide)]; exact b1
   ·clear hR
    simp (disch := first | omega | assumption | (intros; simp only [dl2]; try omega)) only [aa, l5 b0]
    rw [py rfl b1 eN eN, aG]
    rw [l5 (ah _ _ _), aa]
    exact ⟨4, _, yU (hr.same (ae _ _ (by decide))) hall (hf.same (ae _ _ (by decide))) (by omega), rfl⟩
theorem e50 {v : Val} (sm : smV v) {d : Nat} {σ : AS} {K : AV -> AS -> Prop} : oC T0 d 50 [ar v] σ K = K (ar v) σ := (c50 _ v (Nat.le_refl _) sm).eq d σ K
def fM (v : Val) (nm : List UInt8) : Int := if v.kind = 5 then cJ (fun f : Fld => f.name == nm) v.fields else -1
def oe (v : Val) (nm : List UInt8) : Option Val := if 0 <= fM v nm then some (v.fields.getD (fM v nm).toNat default).v else none
def mtB (v : Val) (nm s : List UInt8) : Bool := match oe v nm with
 | some w => decide (w.kind = 3) && (w.s == s)
 | none => false
def chI (v : Val) (x : XStep) : Int :=
 if x.kind_ = 1 /\ v.kind = 5 then cJ (fun f : Fld => f.name == x.name_) v.fields
 else if x.kind_ = 2 /\ v.kind = 4 /\ x.index_ < (v.list.length : Nat) then x.index_
 else if x.kind_ = 3 /\ v.kind = 4 then cJ (fun e : Val => mtB e x.name_ x.value_) v.list else -1
theorem qk {α : Type} (q : α -> Bool) (l : List α) : -1 <= cJ q l /\ cJ q l < (l.length : Nat) := by
 unfold cJ
 by_cases h : l.findIdx q < l.length
 ·rw [if_pos h]; omega
 ·rw [if_neg h]; omega
theorem fldI_bnd (v : Val) (nm : List UInt8) : -1 <= fM v nm /\ fM v nm < (v.fields.length : Nat) := by
 unfold fM
 by_cases h : v.kind = 5
 ·rw [if_pos h]; exact qk _ _
 ·rw [if_neg h]; omega
def gtR : Option Val -> AV
 | some w => .tup [ar w, .b true]
 | none => .tup [ar default, .b false]
theorem kg : bF T0 35 [] = some (.agg [.i .i64 0, .i .i64 0, .s [], .nilz true, .nilz true]) := by kernel_rfl
theorem ozz {σ : AS} {K : AV -> Prop} {b : Bool} : oZ T0 σ (.tup [.agg [.i .i64 0, .i .i64 0, .s [], .nilz true, .nilz true], .b b]) K = K (.tup [ar default, .b b]) := dC rfl
theorem ozvb {σ : AS} {K : AV -> Prop} {w : Val} {b : Bool} : oZ T0 σ (.tup [ar w, .b b]) K = K (.tup [ar w, .b b]) := by
 rw [dC (by show AV.idfree.idfrees [ar w, .b b] = true; rw [aw]; rfl)]
 rw [aw]; rfl
theorem dz {h : Tr AB} {id e : Nat} {g : Bool} {cs : List AV} (hc : cs.length = 5) (hg : h.get id = some (.cells cs e g)) (w : Val) : aA T0 h 35 (.ptr id 0) (ar w) = some (h.put id (some (.cells (ar w).cells e g))) :=
 dP ji hg (bM w) (gK w) (cy _ _ (by rw [hc, bM]))
theorem jG {h : Tr AB} {id e : Nat} {g : Bool} {cs : List AV} (hc : cs.length = 5) (hg : h.get id = some (.cells cs e g)) : aA T0 h 35 (.ptr id 0) (.agg [.i .i64 0, .i .i64 0, .s [], .nilz true, .nilz true]) = some (h.put id (some (.cells [.i .i64 0, .i .i64 0, .s [], .nilz true, .nilz true] e g))) :=
 dP ji hg rfl rfl (cy _ _ hc)
theorem tu {h : Tr AB} {id e : Nat} {g : Bool} : ac T0 (h.put id (some (.cells [.i .i64 0, .i .i64 0, .s [], .nilz true, .nilz true] e g))) 35 (.ptr id 0) = some (.agg [.i .i64 0, .i .i64 0, .s [], .nilz true, .nilz true]) := by
 rw [cE, ah, bH (Nat.zero_le _), List.drop_zero, iU]; rfl
theorem ofz : aD T0 35 (List.drop 0 [.i .i64 0, .i .i64 0, .s [], .nilz true, .nilz true]) = some (.agg [.i .i64 0, .i .i64 0, .s [], .nilz true, .nilz true]) := by rw [List.drop_zero, iU]; rfl
theorem uT {h : Tr AB} {id e : Nat} {g : Bool} {w : Val} : ac T0 (h.put id (some (.cells (ar w).cells e g))) 35 (.ptr id 0) = some (ar w) := by
 rw [cE, ah, bH (Nat.zero_le _)]; exact iy w
theorem Aa {v : Val} {nm : List UInt8} {j : Nat} (hk : v.kind = 5) (h : fM v nm = (j : Nat)) : oe v nm = some (v.fields.getD j default).v := by
 unfold oe; rw [h, if_pos (by omega)]; rfl
theorem rV {v : Val} {nm : List UInt8} (h : fM v nm = -1) : oe v nm = none := by
 unfold oe; rw [h, if_neg (by omega)]
theorem c101 (v : Val) (nm : List UInt8) (sm : smV v) : R T0 101 [ar v, .s nm] (gtR (oe v nm)) := by
 obtain ⟨-, ls, ll, lf, ol, of_⟩ := bY sm
 refine r101 _ _ (by rw [aw]; rfl) (by rw [aw]; rfl) ?_
 unfold w101
 dsimp only [av]
 by_cases hk : v.kind = 5
 ·simp (disch := first | omega | assumption | (intros; simp only [dl3]; try omega)) only [vb0, ne_eq, aX, vb8, aC, vb1, br, lO, cb, ofz, hk, cL]
  refine gJ (X := Nat) (fun _ => .ptr 1 0) (fun _ => .s nm) (fun _ => .lst (v.fields.map az)) (fun _ => .i .i64 (v.fields.length : Nat)) (fun j => .i .i64 (j : Nat))
   (fun j σ => j <= v.fields.length /\ 2 <= σ.n /\ σ.h.get 1 = some (.cells [.i .i64 0, .i .i64 0, .s [], .nilz true, .nilz true] 35 false) /\ (v.fields.take j).all (fun f => !(f.name == nm)) = true) (fun j => v.fields.length - j) ?_ 0 _ ⟨Nat.zero_le _, Nat.le_refl _, ah _ _ _, rfl⟩
  rintro R j σ ⟨hj, hn, b1, ha⟩ hR
  simp only [cc]
  refine aT (fun h => ?_) (fun h => ?_)
  ·have hj' : j < v.fields.length := by omega
   have smf := (fZ (of_ _ (aY hj'))).2
   have c1 : 1 <= (az (v.fields.getD j default)).cells.length := by rw [bu]; decide
   have b2 : ((σ.h.put σ.n (some (.cells [.s [], .i .i64 0, .i .i64 0, .s [], .nilz true, .nilz true] 52 false))).put σ.n (some (.cells (az (v.fields.getD j default)).cells 52 false))).get 1 = some (.cells [.i .i64 0, .i .i64 0, .s [], .nilz true, .nilz true] 35 false) := by rw [ae _ _ (by omega), ae _ _ (by omega)]; exact b1
   cases hs : ((v.fields.getD j default).name == nm)
   ·simp (disch := first | omega | assumption | (intros; simp only [dl3]; try omega)) only [vb0, ne_eq, aX, vb8, aC, vb1, br, lO, cb, ofz, hs]
    refine hR (j + 1) ⟨_, _⟩ ?_ (by omega)
    exact ⟨by omega, by dsimp only; omega, b2, aO (d := default) ha hj' (by rw [hs]; rfl)⟩
   ·rw [Aa (j := j) hk (by unfold fM; rw [if_pos hk]; exact iX (d := default) ha hj' hs)]
    simp (disch := first | omega | assumption | (intros; simp only [dl3]; try omega)) only [vb0, ne_eq, aX, vb8, aC, vb1, br, lO, cb, ofz, hs, bH c1, e107 smf, dz rfl b2, uT, ozvb, gtR]
  ·rw [rV (by unfold fM; rw [if_pos hk]; exact gL (cu ha (by omega)))]
   simp (disch := first | omega | assumption | (intros; simp only [dl3]; try omega)) only [aa, aG, kg, jG rfl b1, tu, ozz, gtR]
 ·rw [rV (by unfold fM; rw [if_neg hk])]
  have b1 : ((Tr.nil.put 0 (some (.cells (ar v).cells 35 false))).put 1 (some (.cells [.i .i64 0, .i .i64 0, .s [], .nilz true, .nilz true] 35 false)) : Tr AB).get 1 = some (.cells [.i .i64 0, .i .i64 0, .s [], .nilz true, .nilz true] 35 false) := ah _ _ _
  simp (disch := first | omega | assumption | (intros; simp only [dl3]; try omega)) only [vb0, ne_eq, aX, vb8, aC, vb1, br, lO, cb, ofz, hk, cW, kg, jG rfl b1, tu, ozz, gtR]
theorem e101 {v : Val} {nm : List UInt8} (sm : smV v) {d : Nat} {σ : AS} {K : AV -> AS -> Prop} : oC T0 d 101 [ar v, .s nm] σ K = K (gtR (oe v nm)) σ := (c101 v nm sm).eq d σ K
theorem c76 (v : Val) (x : XStep) (sm : smV v) : R T0 76 [ar v, aj x] (.b (mtB v x.name_ x.value_)) := by
 refine r76 _ _ (by rw [aw]; rfl) (by rw [aw]; rfl) ?_
 unfold w76
 dsimp only [av]
 unfold mtB
 have e := fun (d : Nat) (σ : AS) (K : AV -> AS -> Prop) => e101 (nm := x.name_) sm (d := d) (σ := σ) (K := K)
 cases hg : oe v x.name_ with
 | none =>
  rw [hg] at e
  simp (disch := first | omega | assumption | (intros; simp only [dl3]; try omega)) only [vb0, ne_eq, vb8, vb1, br, mb, List.getElem?_cons_zero, List.getElem?_cons_succ, vb5, jC, cb, ofz, e, gtR, ex0, ex1]
 | some w =>
  rw [hg] at e
  simp only [gtR] at e
  simp only []
  by_cases hk : w.kind = 3
  ·rw [decide_eq_true hk, Bool.true_and]
   simp (disch := first | omega | assumption | (intros; simp only [dl3]; try omega)) only [vb0, ne_eq, vb8, vb1, br, mb, List.getElem?_cons_zero, List.getElem?_cons_succ, vb5, jC, cb, ofz, e, ex0, ex1, cL]
  ·rw [decide_eq_false hk, Bool.false_and]
   simp (disch := first | omega | assumption | (intros; simp only [dl3]; try omega)) only [vb0, ne_eq, vb8, vb1, br, mb, List.getElem?_cons_zero, List.getElem?_cons_succ, vb5, jC, cb, ofz, e, ex0, ex1, cW]
theorem e76 {v : Val} {x : XStep} (sm : smV v) {d : Nat} {σ : AS} {K : AV -> AS -> Prop} : oC T0 d 76 [ar v, aj x] σ K = K (.b (mtB v x.name_ x.value_)) σ := (c76 v x sm).eq d σ K
theorem c75 (v : Val) (x : XStep) (sm : smV v) : R T0 75 [ar v, .iptr (aj x).cells] (.b (mtB v x.name_ x.value_)) := by
 refine r75 _ _ (by rw [aw]; rfl) (by rw [aw]; rfl) ?_
 unfold w75
 dsimp only [av]
 simp (disch := first | omega | assumption | (intros; simp only [dl3]; try omega)) only [vb0, ne_eq, vb1, cb, ofz, e76 sm]
theorem e75 {v : Val} {x : XStep} (sm : smV v) {d : Nat} {σ : AS} {K : AV -> AS -> Prop} : oC T0 d 75 [ar v, .iptr (aj x).cells] σ K = K (.b (mtB v x.name_ x.value_)) σ := (c75 v x sm).eq d σ K
theorem c73 (f : Fld) (x : XStep) : R T0 73 [az f, .iptr (aj x).cells] (.b (f.name == x.name_)) := by
 refine r73 _ _ (by rw [bp, aw]; rfl) (by rw [bp, aw]; rfl) ?_
 unfold w73
 dsimp only [av]
 simp (disch := first | omega | assumption | (intros; simp only [dl3]; try omega)) only [vb4, ne_eq, vb8, vb1, br, cb, ofz, dn]
theorem e73 {f : Fld} {x : XStep} {d : Nat} {σ : AS} {K : AV -> AS -> Prop} : oC T0 d 73 [az f, .iptr (aj x).cells] σ K = K (.b (f.name == x.name_)) σ := (c73 f x).eq d σ K
theorem c74 (l : List Val) (x : XStep) (hl : l.length <= 100000) (sm : ∀ v ∈ l, smV v) : R T0 74 [.lst (l.map ar), .fn 75 [] [.iptr (aj x).cells]] (.i .i64 (cJ (fun e => mtB e x.name_ x.value_) l)) := by
 refine r74 _ _ rfl rfl ?_
 unfold w74
 dsimp only [av]
 simp (disch := first | omega | assumption | (intros; simp only [dl3]; try omega)) only [aa, mN, bV]
 refine jR (X := Nat) (fun _ => .lst (l.map ar)) (fun _ => .fn 75 [] [.iptr (aj x).cells]) (fun _ => .i .i64 (l.length : Nat)) (fun j => .i .i64 (j : Nat)) (fun j σ => j <= l.length /\ (l.take j).all (fun e => !mtB e x.name_ x.value_) = true) (fun j => l.length - j) ?_ 0 _ ⟨Nat.zero_le _, rfl⟩
 rintro R j σ ⟨hj, ha⟩ hR
 simp only [cc]
 refine aT (fun h => ?_) (fun h => ?_)
 ·have hj' : j < l.length := by omega
  have e := fun (d : Nat) (σ : AS) (K : AV -> AS -> Prop) => e75 (x := x) (sm _ (aY hj')) (d := d) (σ := σ) (K := K)
  cases hs : mtB (l.getD j default) x.name_ x.value_
  ·rw [hs] at e
   simp (disch := first | omega | assumption | (intros; simp only [dl3]; try omega)) only [vb4, ne_eq, aX, aC, vb1, cb, ofz, kN, List.nil_append, List.cons_append, e]
   exact hR (j + 1) _ ⟨by omega, aO (d := default) ha hj' (by rw [hs]; rfl)⟩ (by omega)
  ·rw [hs] at e
   simp (disch := first | omega | assumption | (intros; simp only [dl3]; try omega)) only [vb4, ne_eq, aX, aC, vb1, cb, ofz, kN, List.nil_append, List.cons_append, e]
   rw [iX (q := fun e => mtB e x.name_ x.value_) (d := default) ha hj' hs]
 ·rw [gL (cu ha (by omega)), oc]
theorem c72 (l : List Fld) (x : XStep) (hl : l.length <= 100000) : R T0 72 [.lst (l.map az), .fn 73 [] [.iptr (aj x).cells]] (.i .i64 (cJ (fun f => f.name == x.name_) l)) := by
 refine r72 _ _ rfl rfl ?_
 unfold w72
 dsimp only [av]
 simp (disch := first | omega | assumption | (intros; simp only [dl3]; try omega)) only [aa, mM, bV]
 refine jR (X := Nat) (fun _ => .lst (l.map az)) (fun _ => .fn 73 [] [.iptr (aj x).cells]) (fun _ => .i .i64 (l.length : Nat)) (fun j => .i .i64 (j : Nat)) (fun j σ => j <= l.length /\ (l.take j).all (fun f => !(f.name == x.name_)) = true) (fun j => l.length - j) ?_ 0 _ ⟨Nat.zero_le _, rfl⟩
 rintro R j σ ⟨hj, ha⟩ hR
 simp only [cc]
 refine aT (fun h => ?_) (fun h => ?_)
 ·have hj' : j < l.length := by omega
  have e := fun (d : Nat) (σ : AS) (K : AV -> AS -> Prop) => e73 (f := l.getD j default) (x := x) (d := d) (σ := σ) (K := K)
  cases hs : ((l.getD j default).name == x.name_)
  ·rw [hs] at e
   simp (disch := first | omega | assumption | (intros; simp only [dl3]; try omega)) only [vb4, ne_eq, aX, aC, vb1, cb, ofz, kN, List.nil_append, List.cons_append, e]
   exact hR (j + 1) _ ⟨by omega, aO (d := default) ha hj' (by rw [hs]; rfl)⟩ (by omega)
  ·rw [hs] at e
   simp (disch := first | omega | assumption | (intros; simp only [dl3]; try omega)) only [vb4, ne_eq, aX, aC, vb1, cb, ofz, kN, List.nil_append, List.cons_append, e]
   rw [iX (q := fun f : Fld => f.name == x.name_) (d := default) ha hj' hs]
 ·rw [gL (cu ha (by omega)), oc]
theorem c49 (v : Val) (x : XStep) (sm : smV v) : R T0 49 [ar v, aj x] (.i .i64 (chI v x)) := by
 obtain ⟨-, ls, ll, lf, ol, of_⟩ := bY sm
 refine r49 _ _ (by rw [aw]; rfl) (by rw [aw]; rfl) ?_
 unfold w49
 dsimp only [av]
 have e72 : ∀ (σ : AS), σ = ⟨(Tr.nil.put 0 (some (.cells (ar v).cells 35 false))).put 1 (some (.cells (aj x).cells 50 false)), 1 + 1⟩ -> ∀ (d : Nat) (K : AV -> AS -> Prop), oC T0 d 72 [.lst (v.fields.map az), .fn 73 [] [.ptr 1 0]] σ K = K (.i .i64 (cJ (fun f : Fld => f.name == x.name_) v.fields)) σ := fun σ hσ d K => by
  subst hσ
  exact (R.lent (m := 3) (args' := [.lst (v.fields.map az), .fn 73 [] [.iptr (aj x).cells]]) (by kernel_rfl) (by kernel_rfl) (by kernel_rfl) rfl rfl rfl rfl (by kernel_rfl) (c72 v.fields x lf)).eq d K
 have e74 : ∀ (σ : AS), σ = ⟨(Tr.nil.put 0 (some (.cells (ar v).cells 35 false))).put 1 (some (.cells (aj x).cells 50 false)), 1 + 1⟩ -> ∀ (d : Nat) (K : AV -> AS -> Prop), oC T0 d 74 [.lst (v.list.map ar), .fn 75 [] [.ptr 1 0]] σ K = K (.i .i64 (cJ (fun e : Val => mtB e x.name_ x.value_) v.list)) σ := fun σ hσ d K => by
  subst hσ
  exact (R.lent (m := 3) (args' := [.lst (v.list.map ar), .fn 75 [] [.iptr (aj x).cells]]) (by kernel_rfl) (by kernel_rfl) (by kernel_rfl) rfl rfl rfl rfl (by kernel_rfl) (c74 v.list x ll ol)).eq d K
 have e72' := e72 _ rfl
 have e74' := e74 _ rfl
 by_cases k1 : x.kind_ = 1
 ·by_cases v5 : v.kind = 5
  ·rw [show chI v x = cJ (fun f : Fld => f.name == x.name_) v.fields from if_pos ⟨k1, v5⟩]
   simp (disch := first | omega | assumption | (intros; simp only [dl3]; try omega)) only [vb0, ne_eq, aX, vb8, vb1, br, vb5, gS, cL, e72']
  ·rw [show chI v x = -1 by unfold chI; rw [if_neg (fun q => v5 q.2), if_neg (fun q => by omega), if_neg (fun q => by omega)]]
   simp (disch := first | omega | assumption | (intros; simp only [dl3]; try omega)) only [vb0, ne_eq, aX, vb8, vb1, br, vb5, gS, cL, cW]
 ·by_cases k2 : x.kind_ = 2
  ·by_cases v4 : v.kind = 4
   ·by_cases hi : x.index_ < (v.list.length : Nat)
    ·rw [show chI v x = x.index_ by unfold chI; rw [if_neg (fun q => k1 q.1), if_pos ⟨k2, v4, hi⟩]]
     simp (disch := first | omega | assumption | (intros; simp only [dl3]; try omega)) only [vb0, ne_eq, aX, vb8, vb1, br, vb5, gS, cL, cW]
    ·rw [show chI v x = -1 by unfold chI; rw [if_neg (fun q => k1 q.1), if_neg (fun q => hi q.2.2), if_neg (fun q => by omega)]]
     simp (disch := first | omega | assumption | (intros; simp only [dl3]; try omega)) only [vb0, ne_eq, aX, vb8, vb1, br, vb5, gS, cL, cW]
   ·rw [show chI v x = -1 by unfold chI; rw [if_neg (fun q => k1 q.1), if_neg (fun q => v4 q.2.1), if_neg (fun q => v4 q.2)]]
    simp (disch := first | omega | assumption | (intros; simp only [dl3]; try omega)) only [vb0, ne_eq, aX, vb8, vb1, br, vb5, gS, cL, cW]
  ·by_cases k3 : x.kind_ = 3 /\ v.kind = 4
   ·obtain ⟨k3, v4⟩ := k3
    rw [show chI v x = cJ (fun e : Val => mtB e x.name_ x.value_) v.list by unfold chI; rw [if_neg (fun q => k1 q.1), if_neg (fun q => k2 q.1), if_pos ⟨k3, v4⟩]]
    simp (disch := first | omega | assumption | (intros; simp only [dl3]; try omega)) only [vb0, ne_eq, aX, vb8, vb1, br, vb5, gS, cL, cW, e74']
   ·rw [show chI v x = -1 by unfold chI; rw [if_neg (fun q => k1 q.1), if_neg (fun q => k2 q.1), if_neg k3]]
    by_cases k : x.kind_ = 3
    ·simp (disch := first | omega | assumption | (intros; simp only [dl3]; try omega)) only [vb0, ne_eq, aX, vb8, vb1, br, vb5, gS, cL, cW]
    ·simp (disch := first | omega | assumption | (intros; simp only [dl3]; try omega)) only [vb0, ne_eq, aX, vb8, vb1, br, vb5, gS, cL, cW]
theorem e49 {v : Val} {x : XStep} (sm : smV v) {d : Nat} {σ : AS} {K : AV -> AS -> Prop} : oC T0 d 49 [ar v, aj x] σ K = K (.i .i64 (chI v x)) σ := (c49 v x sm).eq d σ K
theorem wg : type_of% (And.intro @gtt_8 (And.intro @gff_8 (And.intro @gtf_8 (And.intro @gft_8 (And.intro @gvv_8 (And.intro @gnt_8 (And.intro @gnf_8 (And.intro @cL @cW)))))))) := And.intro @gtt_8 (And.intro @gff_8 (And.intro @gtf_8 (And.intro @gft_8 (And.intro @gvv_8 (And.intro @gnt_8 (And.intro @gnf_8 (And.intro @cL @cW)))))))
theorem c79 (v : Val) (nm : List UInt8) (sm : smV v) : R T0 79 [ar v, .s nm] (.i .i64 (fM v nm)) := by
 obtain ⟨-, ls, ll, lf, ol, of_⟩ := bY sm
 refine r79 _ _ (by rw [aw]; rfl) (by rw [aw]; rfl) ?_
 unfold w79
 dsimp only [av]
 rw [bt]
 refine fj (X := Nat) (fun _ => .s nm) (fun _ => .ptr 0 0) (fun j => .i .i64 (j : Nat)) (fun j σ => j <= v.fields.length /\ σ.h.get 0 = some (.cells (ar v).cells 35 false) /\ (v.kind = 5 -> (v.fields.take j).all (fun f => !(f.name == nm)) = true)) (fun j => v.fields.length - j) ?_ 0 _ ⟨Nat.zero_le _, ah _ _ _, fun _ => rfl⟩
 rintro R j σ ⟨hj, hg, ha⟩ hR
 by_cases hj' : j < v.fields.length
 ·by_cases k5 : v.kind = 5
  ·have ha := ha k5
   cases hs : ((v.fields.getD j default).name == nm)
   ·simp (disch := first | omega | assumption | (intros; simp only [dl3]; try omega)) only [vb0, ne_eq, aX, vb8, aC, vb1, br, wg, hg, cb, hs]
    exact hR (j + 1) _ ⟨by omega, hg, fun _ => aO (d := default) ha hj' (by rw [hs]; rfl)⟩ (by omega)
   ·rw [show fM v nm = (j : Nat) by unfold fM; rw [if_pos k5]; exact iX (d := default) ha hj' hs]
    simp (disch := first | omega | assumption | (intros; simp only [dl3]; try omega)) only [vb0, ne_eq, aX, vb8, aC, vb1, br, wg, hg, cb, hs]
  ·simp (disch := first | omega | assumption | (intros; simp only [dl3]; try omega)) only [vb0, ne_eq, aX, vb8, aC, vb1, br, wg, hg, cb]
   exact hR (j + 1) _ ⟨by omega, hg, fun q => absurd q k5⟩ (by omega)
 ·rw [show fM v nm = -1 by
   unfold fM
   by_cases k5 : v.kind = 5
   ·rw [if_pos k5]; exact gL (cu (ha k5) (by omega))
   ·rw [if_neg k5]]
  simp (disch := first | omega | assumption | (intros; simp only [dl3]; try omega)) only [vb0, ne_eq, aX, vb8, aC, vb1, br, wg, hg]
theorem e79 {v : Val} {nm : List UInt8} (sm : smV v) {d : Nat} {σ : AS} {K : AV -> AS -> Prop} : oC T0 d 79 [ar v, .s nm] σ K = K (.i .i64 (fM v nm)) σ := (c79 v nm sm).eq d σ K
theorem c80 (v : Val) (nm s : List UInt8) (sm : smV v) : R T0 80 [ar v, .s nm, .s s] (.b (mtB v nm s)) := by
 have hb := fldI_bnd v nm
 refine r80 _ _ _ (by rw [aw]; rfl) (by rw [aw]; rfl) ?_
 unfold w80
 dsimp only [av]
 by_cases h0 : 0 <= fM v nm
 ·have hg : oe v nm = some (v.fields.getD (fM v nm).toNat default).v := by unfold oe; rw [if_pos h0]
  unfold mtB
  rw [hg]
  simp only []
  have d1 : 1 <= (az (v.fields.getD (fM v nm).toNat default)).cells.length := by rw [bu]; decide
  have g0 : aD T0 3 (List.drop 0 (List.drop 1 (az (v.fields.getD (fM v nm).toNat default)).cells)) = some (.i .i64 (v.fields.getD (fM v nm).toNat default).v.kind) := by rw [List.drop_zero]; exact fld_F_v0 _
  have g2 : aD T0 9 (List.drop 2 (List.drop 1 (az (v.fields.getD (fM v nm).toNat default)).cells)) = some (.s (v.fields.getD (fM v nm).toNat default).v.s) := by rw [List.drop_drop]; exact fld_F_v2 _
  by_cases hk : (v.fields.getD (fM v nm).toNat default).v.kind = 3
  ·rw [decide_eq_true hk, Bool.true_and]
   simp (disch := first | omega | assumption | (intros; simp only [dl3]; try omega)) only [vb0, ne_eq, eV, vb8, vb1, br, wg, gtt_9, yF, yw, gft_9, gvv_9, gnt_9, gnf_9, e79 sm, cb, g0, g2]
  ·rw [decide_eq_false hk, Bool.false_and]
   simp (disch := first | omega | assumption | (intros; simp only [dl3]; try omega)) only [vb0, ne_eq, eV, vb8, vb1, br, wg, gtt_9, yF, yw, gft_9, gvv_9, gnt_9, gnf_9, e79 sm, cb, g0, g2]
 ·have hg : oe v nm = none := by unfold oe; rw [if_neg h0]
  unfold mtB
  rw [hg]
  simp (disch := first | omega | assumption | (intros; simp only [dl3]; try omega)) only [vb0, ne_eq, eV, vb8, vb1, br, wg, gtt_9, yF, yw, gft_9, gvv_9, gnt_9, gnf_9, e79 sm, cb]
theorem e80 {v : Val} {nm s : List UInt8} (sm : smV v) {d : Nat} {σ : AS} {K : AV -> AS -> Prop} : oC T0 d 80 [ar v, .s nm, .s s] σ K = K (.b (mtB v nm s)) σ := (c80 v nm s sm).eq d σ K
theorem c51 (v : Val) (x : XStep) (sm : smV v) (hk : x.kind_ = 1 ∨ x.kind_ = 2 ∨ x.kind_ = 3) : R T0 51 [ar v, aj x] (.i .i64 (chI v x)) := by
 obtain ⟨-, ls, ll, lf, ol, of_⟩ := bY sm
 refine r51 _ _ (by rw [aw]; rfl) (by rw [aw]; rfl) ?_
 unfold w51
 dsimp only [av]
 by_cases k1 : x.kind_ = 1
 ·have e : chI v x = fM v x.name_ := by
   unfold chI fM
   by_cases v5 : v.kind = 5
   ·rw [if_pos ⟨k1, v5⟩, if_pos v5]
   ·rw [if_neg (fun q => v5 q.2), if_neg (fun q => by omega), if_neg (fun q => by omega), if_neg v5]
  rw [e]
  simp (disch := first | omega | assumption | (intros; simp only [dl3]; try omega)) only [vb0, ne_eq, aX, vb8, ei, aC, vb1, br, e79 sm, cL, cW]
 ·by_cases v4 : v.kind = 4
  ·by_cases k2 : x.kind_ = 2
   ·by_cases hi : x.index_ < (v.list.length : Nat)
    ·rw [show chI v x = x.index_ by unfold chI; rw [if_neg (fun q => k1 q.1), if_pos ⟨k2, v4, hi⟩]]
     simp (disch := first | omega | assumption | (intros; simp only [dl3]; try omega)) only [vb0, ne_eq, aX, vb8, ei, aC, vb1, br, cL, cW]
    ·rw [show chI v x = -1 by unfold chI; rw [if_neg (fun q => k1 q.1), if_neg (fun q => hi q.2.2), if_neg (fun q => by omega)]]
     simp (disch := first | omega | assumption | (intros; simp only [dl3]; try omega)) only [vb0, ne_eq, aX, vb8, ei, aC, vb1, br, cL, cW]
   ·rw [show chI v x = cJ (fun e : Val => mtB e x.name_ x.value_) v.list by unfold chI; rw [if_neg (fun q => k1 q.1), if_neg (fun q => k2 q.1), if_pos ⟨by omega, v4⟩]]
    simp (disch := first | omega | assumption | (intros; simp only [dl3]; try omega)) only [vb0, ne_eq, aX, vb8, ei, aC, vb1, br, cL, cW]
    refine fj (X := Nat) (fun _ => .ptr 1 0) (fun _ => .ptr 0 0) (fun j => .i .i64 (j : Nat)) (fun j σ => j <= v.list.length /\ σ.h.get 0 = some (.cells (ar v).cells 35 false) /\ σ.h.get 1 = some (.cells (aj x).cells 50 false) /\ (v.list.take j).all (fun e => !mtB e x.name_ x.value_) = true) (fun j => v.list.length - j) ?_ 0 _ ⟨Nat.zero_le _, (ae _ _ (by decide)).trans (ah _ _ _), ah _ _ _, rfl⟩
    rintro R j σ ⟨hj, hg, hx, ha⟩ hR
    by_cases hj' : j < v.list.length
    ·have e := fun (d : Nat) (σ : AS) (K : AV -> AS -> Prop) => e80 (nm := x.name_) (s := x.value_) (ol _ (aY hj')) (d := d) (σ := σ) (K := K)
     cases hs : mtB (v.list.getD j default) x.name_ x.value_
     ·rw [hs] at e
      simp (disch := first | omega | assumption | (intros; simp only [dl3]; try omega)) only [vb0, ne_eq, aX, vb8, ei, aC, vb1, br, hg, hx, cL, cW, e]
      exact hR (j + 1) _ ⟨by omega, hg, hx, aO (d := default) ha hj' (by rw [hs]; rfl)⟩ (by omega)
     ·rw [hs] at e
      rw [iX (q := fun e => mtB e x.name_ x.value_) (d := default) ha hj' hs]
      simp (disch := first | omega | assumption | (intros; simp only [dl3]; try omega)) only [vb0, ne_eq, aX, vb8, ei, aC, vb1, br, hg, hx, cL, cW, e]
    ·rw [gL (cu ha (by omega))]
     simp (disch := first | omega | assumption | (intros; simp only [dl3]; try omega)) only [vb0, ne_eq, aX, vb8, ei, aC, vb1, br, hg, cL, cW]
  ·rw [show chI v x = -1 by unfold chI; rw [if_neg (fun q => k1 q.1), if_neg (fun q => v4 q.2.1), if_neg (fun q => v4 q.2)]]
   simp (disch := first | omega | assumption | (intros; simp only [dl3]; try omega)) only [vb0, ne_eq, aX, vb8, ei, aC, vb1, br, cL, cW]
theorem e51 {v : Val} {x : XStep} (sm : smV v) (hk : x.kind_ = 1 ∨ x.kind_ = 2 ∨ x.kind_ = 3) {d : Nat} {σ : AS} {K : AV -> AS -> Prop} : oC T0 d 51 [ar v, aj x] σ K = K (.i .i64 (chI v x)) σ := (c51 v x sm hk).eq d σ K
def bS (v : Val) (x : XStep) : Option Val := if chI v x < 0 then none else some (if x.kind_ = 1 then (v.fields.getD (chI v x).toNat default).v else v.list.getD (chI v x).toNat default)
def gw : Val -> List XStep -> Option Val
 | v, [] => some v
 | v, x :: p => match bS v x with
  | none => none
  | some w => gw w p
theorem gu (v : Val) : gw v [] = some v := by rw [gw]
theorem du {v : Val} {x : XStep} {p : List XStep} (h : bS v x = none) : gw v (x :: p) = none := by rw [gw, h]
theorem cO {v w : Val} {x : XStep} {p : List XStep} (h : bS v x = some w) : gw v (x :: p) = gw w p := by rw [gw, h]
theorem gR {v : Val} {x : XStep} (h : 0 <= chI v x) : (x.kind_ = 1 -> chI v x < (v.fields.length : Nat)) /\ (x.kind_ ≠ 1 -> chI v x < (v.list.length : Nat)) := by
 unfold chI at h |-
 split
 ·rename_i k; exact ⟨fun _ => (qk _ _).2, fun q => absurd k.1 q⟩
 ·split
  ·rename_i k; exact ⟨fun q => by omega, fun _ => k.2.2⟩
  ·split
   ·rename_i k; exact ⟨fun q => by omega, fun _ => (qk _ _).2⟩
   ·rename_i k1 k2 k3; rw [if_neg k1, if_neg k2, if_neg k3] at h; omega
theorem jF {v w : Val} {x : XStep} (sm : smV v) (h : bS v x = some w) : smV w := by
 obtain ⟨-, ls, ll, lf, ol, of_⟩ := bY sm
 unfold bS at h
 split at h
 ·cases h
 ·rename_i h0
  have hb := gR (v := v) (x := x) (by omega)
  injection h with h; subst h
  split
  ·rename_i k; have := hb.1 k; exact (fZ (of_ _ (aY (by omega)))).2
  ·rename_i k; have := hb.2 k; exact ol _ (aY (by omega))
theorem yG : ∀ {p : List XStep} {v w : Val}, smV v -> gw v p = some w -> smV w
 | [], v, w, sm, h => by rw [gu] at h; injection h with h; rw [<- h]; exact sm
 | x :: p, v, w, sm, h => by
  cases hs : bS v x with
  | none => rw [du hs] at h; cases h
  | some u => rw [cO hs] at h; exact yG (jF sm hs) h
def od (v : Val) (p : List XStep) : AV := gtR (if dA p = true then gw v p else none)
theorem Aj {p : List XStep} {j : Nat} (h : j < p.length) : p.drop j = p.getD j default :: p.drop (j + 1) := by
 rw [List.drop_eq_getElem_cons h, List.getD_eq_getElem?_getD, List.getElem?_eq_getElem h]; rfl
theorem c23 (v : Val) (p : List XStep) (sm : smV v) (hp : p.length <= 140737488351232) (ox : ∀ x ∈ p, bx x) : R T0 23 [ar v, .lst (p.map aj)] (od v p) := by
 refine r23 _ _ (by rw [aw]; rfl) (by rw [aw]; rfl) ?_
 unfold w23
 dsimp only [av]
 have b1 : ((Tr.nil.put 0 (some (.cells (ar v).cells 35 false))).put 1 (some (.cells [.i .i64 0, .i .i64 0, .s [], .nilz true, .nilz true] 35 false)) : Tr AB).get 1 = some (.cells [.i .i64 0, .i .i64 0, .s [], .nilz true, .nilz true] 35 false) := ah _ _ _
 by_cases hb : dA p = true
 ·rw [show od v p = gtR (gw v p) by unfold od; rw [if_pos hb]]
  simp (disch := first | omega | assumption | (intros; simp only [dl3]; try omega)) only [vb0, ne_eq, aX, vb8, gE, vb6, br, rT, qm, iC, e13 hp ox, hb]
  refine gJ (X := Nat × Val) (fun _ => .ptr 1 0) (fun _ => .ptr 0 0) (fun _ => .lst (p.map aj)) (fun _ => .i .i64 (p.length : Nat)) (fun x => .i .i64 (x.1 : Nat))
   (fun x σ => x.1 <= p.length /\ smV x.2 /\ 2 <= σ.n /\ σ.h.get 0 = some (.cells (ar x.2).cells 35 false) /\ σ.h.get 1 = some (.cells [.i .i64 0, .i .i64 0, .s [], .nilz true, .nilz true] 35 false) /\ gw v p = gw x.2 (p.drop x.1)) (fun x => p.length - x.1) ?_ (0, v) _
   ⟨Nat.zero_le _, sm, Nat.le_refl _, (ae _ _ (by decide)).trans (ah _ _ _), b1, rfl⟩
  clear b1
  rintro R ⟨j, w⟩ σ ⟨hj, sw, hn, g0, b1, hv⟩ hR
  dsimp only at hj sw g0 hv hR |-
  simp only [cc]
  refine aT (fun h => ?_) (fun h => ?_)
  ·have hj' : j < p.length := by omega
   have hst : bq (p.getD j default) = true := (fr hb).2 _ (aY hj')
   rw [Aj hj'] at hv
   have i0 : ((σ.h.put σ.n (some (.cells (aj x0).cells 50 false))).put σ.n (some (.cells (aj (p.getD j default)).cells 50 false))).get 0 = some (.cells (ar w).cells 35 false) := by rw [ae _ _ (by omega), ae _ _ (by omega)]; exact g0
   have i1 : ((σ.h.put σ.n (some (.cells (aj x0).cells 50 false))).put σ.n (some (.cells (aj (p.getD j default)).cells 50 false))).get 1 = some (.cells [.i .i64 0, .i .i64 0, .s [], .nilz true, .nilz true] 35 false) := by rw [ae _ _ (by omega), ae _ _ (by omega)]; exact b1
   obtain ⟨x, hx⟩ : ∃ x, p.getD j default = x := ⟨_, rfl⟩
   rw [hx] at hv i0 i1 hst
   have hbx := gR (v := w) (x := x)
   by_cases hc : chI w x < 0
   ·have hs : bS w x = none := if_pos hc
    rw [du hs] at hv
    rw [hv]
    simp (disch := first | omega | assumption | (intros; simp only [dl3]; try omega)) only [vb0, ne_eq, aX, vb8, gE, vb1, br, iC, wY, st50n, hx, i0, e49 sw, cL, cW, kg, jG rfl i1, ofz, ozz, gtR]
   ·by_cases k1 : x.kind_ = 1
    ·have hi := (hbx (by omega)).1 k1
     have hs : bS w x = some ((w.fields.getD (chI w x).toNat default).v) := by unfold bS; rw [if_neg hc, if_pos k1]
     rw [cO hs] at hv
     have c1 : 1 <= (az (w.fields.getD (chI w x).toNat default)).cells.length := by rw [bu]; decide
     simp (disch := first | omega | assumption | (intros; simp only [dl3]; try omega)) only [vb0, ne_eq, aX, vb8, gE, vb1, br, iC, wY, st50n, hx, i0, e49 sw, cL, cW, dz (by rw [bM]) i0]
     refine hR (j + 1, (w.fields.getD (chI w x).toNat default).v) ⟨_, _⟩ ?_ (by dsimp only; omega)
     refine ⟨by dsimp only; omega, jF sw hs, by dsimp only; omega, ah _ _ _, ?_, hv⟩
     dsimp only; rw [ae _ _ (by decide)]; exact i1
    ·have hi := (hbx (by omega)).2 k1
     have hs : bS w x = some ((w.list.getD (chI w x).toNat default)) := by unfold bS; rw [if_neg hc, if_neg k1]
     rw [cO hs] at hv
     have c1 : 1 <= (az (w.fields.getD (chI w x).toNat default)).cells.length := by rw [bu]; decide
     simp (disch := first | omega | assumption | (intros; simp only [dl3]; try omega)) only [vb0, ne_eq, aX, vb8, gE, vb1, br, iC, wY, st50n, hx, i0, e49 sw, cL, cW, dz (by rw [bM]) i0]
     refine hR (j + 1, w.list.getD (chI w x).toNat default) ⟨_, _⟩ ?_ (by dsimp only; omega)
     refine ⟨by dsimp only; omega, jF sw hs, by dsimp only; omega, ah _ _ _, ?_, hv⟩
     dsimp only; rw [ae _ _ (by decide)]; exact i1
  ·have ej : p.drop j = [] := List.drop_of_length_le (by omega)
   rw [ej, gu] at hv
   rw [hv]
   simp (disch := first | omega | assumption | (intros; simp only [dl3]; try omega)) only [vb0, ne_eq, aX, vb8, gE, vb1, br, iC, cq g0 (Nat.zero_le _), g0, e50 sw, dz rfl b1, ozvb, gtR]
 ·rw [show od v p = gtR none by unfold od; rw [if_neg hb]]
  simp (disch := first | omega | assumption | (intros; simp only [dl3]; try omega)) only [vb0, ne_eq, aX, vb8, gE, vb6, br, rT, qm, iC, e13 hp ox, Bool.not_eq_true _ |>.mp hb, kg, jG rfl b1, ofz, ozz, gtR]
theorem e23 {v : Val} {p : List XStep} (sm : smV v) (hp : p.length <= 140737488351232) (ox : ∀ x ∈ p, bx x) {d : Nat} {σ : AS} {K : AV -> AS -> Prop} : oC T0 d 23 [ar v, .lst (p.map aj)] σ K = K (od v p) σ := (c23 v p sm hp ox).eq d σ K
section
variable {T : Tab} {α : Type} {enc : α -> AV} {t e z by_ : Nat} {h : Tr AB} {l : List α} {id i : Nat}
theorem dl22 (E : El T enc t e z by_) (hi : i <= l.length) : aQ T h t (.sl id 0 l.length none) none (some (.i .i64 (i : Nat))) none = some (.sl id 0 i none) := by
 have b1 : fR l.length l.length (some (.i .i64 (i : Nat))) = some i := by
  simp only [fR, bnd]; rw [if_pos ⟨by omega, by omega⟩]; simp
 have b2 : fR i 0 none = some 0 := rfl
 have b : bU l.length none none (some (.i .i64 (i : Nat))) none = some (0, i, none) := by
  simp only [bU, Option.getD_none, b1, b2]
 refine iQ ?_
 unfold dD
 simp only [E.ty, E.sz, b]
theorem setN_pre : ∀ (c b : List AV), c.length <= b.length -> bQ b 0 c = some (c ++ b.drop c.length) := by
 intro c b hl
 have e : b = b.take c.length ++ b.drop c.length := (List.take_append_drop _ _).symm
 have h1 := cy (b.take c.length) c (by rw [List.length_take]; omega)
 have h2 := ig (b.take c.length) (b.drop c.length) c c 0 h1
 rwa [<- e] at h2
theorem sR (a c b : List AV) (hl : c.length <= b.length) : bQ (a ++ b) a.length c = some (a ++ (c ++ b.drop c.length)) := by
 have := pK a b c 0
 rw [Nat.add_zero] at this
 rw [this, setN_pre c b hl]; rfl
theorem zG (E : El T enc t e z by_) (l : List α) : aM (ax enc l) = true := by
 induction l with
 | nil => rfl
 | cons x l ih => simp only [ax, kn, E.leaf, ih, Bool.and_self]
theorem dlapp (E : El T enc t e z by_) {n : Nat} (hg : h.get id = some (.cells (ax enc l) e true)) (hi : i < l.length) (hs : cd l.length by_ = true) :
  ∃ h' C, aI T ⟨h, n⟩ t t (.sl id 0 i none) (if i + 1 < l.length then .sl id ((i + 1) * (z + 1)) (l.length - (i + 1)) none else .lst []) = some (.sl id 0 (l.length - 1) none, ⟨h', n⟩) /\ h'.get id = some (.cells (ax enc (l.eraseIdx i) ++ C) e true) /\ C.length = z + 1 /\ ∀ j, j ≠ id -> h'.get j = h.get j := by
 obtain ⟨zv, hzv⟩ := Option.isSome_iff_exists.1 E.zr
 have el : l.eraseIdx i = l.take i ++ l.drop (i + 1) := List.eraseIdx_eq_take_drop_succ l i
 have sp : ax enc l = ax enc (l.take i) ++ ax enc (l.drop i) := by rw [<- cD, List.take_append_drop]
 have l1 : (ax enc (l.take i)).length = i * (z + 1) := by rw [cX E, List.length_take]; congr 1; omega
 have l2 : (ax enc (l.drop i)).length = (l.length - i) * (z + 1) := by rw [cX E, List.length_drop]
 by_cases hn : i + 1 < l.length
 ·rw [if_pos hn]
  obtain ⟨k, hk⟩ : ∃ k, l.length - (i + 1) = k + 1 := ⟨l.length - (i + 1) - 1, by omega⟩
  have l3 : (ax enc (l.drop (i + 1))).length = (k + 1) * (z + 1) := by rw [cX E, List.length_drop, hk]
  have hd : (ax enc l).drop ((i + 1) * (z + 1)) = ax enc (l.drop (i + 1)) := by
   have : ax enc l = ax enc (l.take (i + 1)) ++ ax enc (l.drop (i + 1)) := by rw [<- cD, List.take_append_drop]
   rw [this]
   exact List.drop_left' (by rw [cX E, List.length_take]; congr 1; omega)
  have tk := dO (ax enc (l.drop (i + 1)))
  rw [l3] at tk
  have nr : bG h (z + 1) (k + 1) (.sl id ((i + 1) * (z + 1)) (k + 1) none) = some (ax enc (l.drop (i + 1))) := by
   unfold bG ba
   simp only [hg, hd]; exact tk
  have st : bQ (ax enc l) (i * (z + 1)) (ax enc (l.drop (i + 1))) = some (ax enc (l.take i) ++ (ax enc (l.drop (i + 1)) ++ (ax enc (l.drop i)).drop ((k + 1) * (z + 1)))) := by
   rw [sp, <- l1, <- l3]
   exact sR _ _ _ (by rw [l3, l2]; exact Nat.mul_le_mul_right _ (by omega))
  have b1 : Nat.beq e e = true := Nat.beq_refl e
  have b2 : Nat.beq (i * (z + 1)) (ax enc l).length = false := by
   cases q : Nat.beq (i * (z + 1)) (ax enc l).length
   ·rfl
   ·have := Nat.eq_of_beq_eq_true q
    rw [cX E] at this
    have q2 := Nat.mul_lt_mul_of_pos_right hi (Nat.succ_pos z)
    rw [show i * z.succ = i * (z + 1) from rfl, show l.length * z.succ = l.length * (z + 1) from rfl, this] at q2
    exact absurd q2 (Nat.lt_irrefl _)
  have e1 : i + (k + 1) = l.length - 1 := by omega
  have hs' : cd (i + (k + 1)) by_ = true := by
   unfold cd at hs |-
   simp only [Bool.and_eq_true] at hs |-
   obtain ⟨⟨a, b⟩, c⟩ := hs
   have a := Nat.le_of_ble_eq_true a
   have c := Nat.le_of_ble_eq_true c
   have := Nat.mul_le_mul_right by_ (show i + (k + 1) <= l.length by omega)
   exact ⟨⟨Nat.ble_eq_true_of_le (by omega), b⟩, Nat.ble_eq_true_of_le (by omega)⟩
  refine ⟨h.put id (some (.cells (ax enc (l.take i) ++ (ax enc (l.drop (i + 1)) ++ (ax enc (l.drop i)).drop ((k + 1) * (z + 1)))) e true)), (ax enc (l.drop i)).drop ((k + 1) * (z + 1)), ?_, ?_, ?_, fun j hj => ae _ _ hj⟩
  ·rw [hk]
   unfold aI
   rw [e1] at hs'
   simp only [E.ty, E.sz, E.bytes, hzv, iA, nr, hg, zG E, hs', b1, b2, st, e1]
  ·rw [ah, el, cD, List.append_assoc]
  ·rw [List.length_drop, l2, <- Nat.sub_mul, show l.length - i - (k + 1) = 1 by omega, Nat.one_mul]
 ·rw [if_neg hn]
  refine ⟨h, ax enc (l.drop i), ?_, ?_, by rw [l2, show l.length - i = 1 by omega, Nat.one_mul], fun j hj => rfl⟩
  ·unfold aI
   have nr : bG h (z + 1) 0 (.lst []) = some [] := by unfold bG ba; simp [aJ, cC]
   simp only [E.ty, E.sz, E.bytes, hzv, iA, List.length_nil, nr]
   rw [show i = l.length - 1 by omega]
  ·rw [hg, el, show l.drop (i + 1) = [] from List.drop_of_length_le (by omega), List.append_nil, <- sp]
end
theorem yR {T : Tab} {t e z by_ : Nat} {ag : Bool} {es : List AV} (E : RowT T t e z by_ ag) (h1 : RowE z ag es) {h : Tr AB} {id : Nat} {cap : Option Nat} {g : Bool} {C : List AV} (hg : h.get id = some (.cells (aJ es ++ C) e g)) : fz T h 3 (.sl id 0 es.length cap) = some (.lst es) := by
 obtain ⟨d, hd, ha⟩ : ∃ d, T.ty e = some d /\ eu d = ag := by
  have := E.ag
  cases hq : T.ty e with
  | none => rw [hq] at this; cases this
  | some d => rw [hq] at this; exact ⟨d, rfl, by simpa using this⟩
 unfold fz
 have hr := jD (aJ es) C
 rw [h1.len] at hr
 simp only [AV.idfree, hg, E.sz, hd, List.drop_zero, hr, cN _ _ h1.free, h1.nrm, ha, h1.ch, Option.map_some]
theorem zr_52 : ∃ zv : AV, T0.zr 52 = some zv /\ zv.cells = [.s [], .i .i64 0, .i .i64 0, .s [], .nilz true, .nilz true] := ⟨_, (by kernel_rfl : T0.zr 52 = some (.agg [.s [], .i .i64 0, .i .i64 0, .s [], .nilz true, .nilz true])), rfl⟩
def Val.withL (v : Val) (l : List Val) : Val := .mk v.kind v.n v.s l v.fields
def Val.withF (v : Val) (f : List Fld) : Val := .mk v.kind v.n v.s v.list f
def rmV : Val -> List XStep -> Val
 | v, [] => v
 | v, [x] => if x.kind_ = 1 then v.withF (v.fields.eraseIdx (chI v x).toNat) else v.withL (v.list.eraseIdx (chI v x).toNat)
 | v, x :: y :: p => if x.kind_ = 1 then v.withF (v.fields.set (chI v x).toNat (.mk (v.fields.getD (chI v x).toNat default).name (rmV (v.fields.getD (chI v x).toNat default).v (y :: p))))
  else v.withL (v.list.set (chI v x).toNat (rmV (v.list.getD (chI v x).toNat default) (y :: p)))
theorem xB (v : Val) (x : XStep) : rmV v [x] = if x.kind_ = 1 then v.withF (v.fields.eraseIdx (chI v x).toNat) else v.withL (v.list.eraseIdx (chI v x).toNat) := by rw [rmV]
theorem uo (v : Val) (x y : XStep) (p : List XStep) : rmV v (x :: y :: p) = if x.kind_ = 1 then v.withF (v.fields.set (chI v x).toNat (.mk (v.fields.getD (chI v x).toNat default).name (rmV (v.fields.getD (chI v x).toNat default).v (y :: p))))
  else v.withL (v.list.set (chI v x).toNat (rmV (v.list.getD (chI v x).toNat default) (y :: p))) := by rw [rmV]
theorem pN {α : Type} [Inhabited α] {enc : α -> AV} {z : Nat} (hE : ∀ x, (enc x).cells.length = z + 1) {l : List α} {i k : Nat} {c : List AV} {y : α} (hi : i < l.length) (hs : bQ (enc (l.getD i default)).cells k c = some (enc y).cells) :
  bQ (ax enc l) (i * (z + 1) + k) c = some (ax enc (l.set i y)) := by
 have e1 : (ax enc (l.take i)).length = i * (z + 1) := by rw [dK hE, List.length_take]; congr 1; omega
 have e2 : l = l.take i ++ (l.getD i default :: l.drop (i + 1)) := by rw [<- fw hi, List.take_append_drop]
 have e3 : l.set i y = l.take i ++ (y :: l.drop (i + 1)) := by rw [List.set_eq_take_append_cons_drop, if_pos hi]
 conv => lhs; rw [e2]
 rw [e3, cD, cD, <- e1, pK, ax, ax, ig _ _ _ _ _ hs, Option.map_some]
theorem ka {h : Tr AB} {v : Val} {A B : AV} {l : List Val} {f : List Fld} (hA : fz T0 h 3 A = some (.lst (l.map ar))) (hB : fz T0 h 3 B = some (.lst (f.map az))) : fz T0 h 4 (.agg (aL v A B)) = some (ar (.mk v.kind v.n v.s l f)) := by
 rw [fz_agg 2]
 have m : cU (fz T0 h 3) (aL v A B) = some (ar (.mk v.kind v.n v.s l f)).cells := by
  rw [je]
  exact be (db 2 rfl) (be (db 2 rfl) (be (db 2 rfl) (be hA (be hB rfl))))
 rw [m, aw]; rfl
theorem slS1 {p : List XStep} {h : Tr AB} (hn : 1 <= p.length) : aQ T0 h 22 (.lst (p.map aj)) (some (.i .i64 1)) none none = some (.lst ((p.drop 1).map aj)) := slS_suf (n := 1) (k := .i64) hn
theorem tw {x : XStep} {p : List XStep} : ai T0 22 (.lst ((x :: p).map aj)) (.i .i64 0) = some (.iptr (aj x).cells) := by
 have := yc (enc := aj) (l := x :: p) (k := .i64) (n := 0) (by decide) (by rw [List.length_cons]; omega) (fun _ => rfl)
 exact this
theorem jQ {α : Type} {enc : α -> AV} (l : List α) (j : Nat) : eo enc enc l j = ax enc l := by unfold eo; rw [<- cD, List.take_append_drop]
theorem lx {α : Type} {l : List α} {id : Nat} (h : 0 < l.length) : cA l id = .sl id 0 l.length none := by
 cases l with
 | nil => cases h
 | cons a l => rfl
theorem qu {v : Val} {x : XStep} {p : List XStep} (h : (gw v (x :: p)).isSome = true) : 0 <= chI v x /\ ∃ w, bS v x = some w /\ (gw w p).isSome = true /\ (x.kind_ = 1 -> w = (v.fields.getD (chI v x).toNat default).v /\ (chI v x).toNat < v.fields.length) /\ (x.kind_ ≠ 1 -> w = v.list.getD (chI v x).toNat default /\ (chI v x).toNat < v.list.length) := by
 cases hs : bS v x with
 | none => rw [du hs] at h; cases h
 | some w =>
  rw [cO hs] at h
  unfold bS at hs
  split at hs
  ·cases hs
  ·rename_i h0
   have hb := gR (v := v) (x := x) (by omega)
   injection hs with hs
   refine ⟨by omega, w, rfl, h, fun k => ?_, fun k => ?_⟩
   ·rw [if_pos k] at hs; have := hb.1 k; exact ⟨hs.symm, by omega⟩
   ·rw [if_neg k] at hs; have := hb.2 k; exact ⟨hs.symm, by omega⟩
theorem slF_pre {p : List Fld} {h : Tr AB} {n : Nat} (hn : n <= p.length) : aQ T0 h 33 (.lst (p.map az)) none (some (.i .i64 (n : Nat))) none = some (.lst ((p.take n).map az)) := iQ (wq elF.ty tZ bu hn)
theorem xy {p : List Fld} {h : Tr AB} {n : Nat} (hn : n <= p.length) : aQ T0 h 33 (.lst (p.map az)) (some (.i .i64 (n : Nat))) none none = some (.lst ((p.drop n).map az)) := iQ (wo elF.ty tZ bu hn)
theorem slV_pre {p : List Val} {h : Tr AB} {n : Nat} (hn : n <= p.length) : aQ T0 h 32 (.lst (p.map ar)) none (some (.i .i64 (n : Nat))) none = some (.lst ((p.take n).map ar)) := iQ (wq elV.ty ji bM hn)
theorem xx {p : List Val} {h : Tr AB} {n : Nat} (hn : n <= p.length) : aQ T0 h 32 (.lst (p.map ar)) (some (.i .i64 (n : Nat))) none none = some (.lst ((p.drop n).map ar)) := iQ (wo elV.ty ji bM hn)
theorem ice33_0 : dY T0 33 0 [] = some (.nilz false) := by kernel_rfl
theorem ice32_0 : dY T0 32 0 [] = some (.nilz false) := by kernel_rfl
theorem xZ (v : Val) : dY T0 32 1 [(0, ar v)] = some (.lst [ar v]) := by rw [aw]; kernel_rfl
theorem oU (f : Fld) : dY T0 33 1 [(0, az f)] = some (.lst [az f]) := by rw [bp, aw]; kernel_rfl
theorem bld52 (nm : List UInt8) (v : Val) : bF T0 52 [(0, .s nm), (1, ar v)] = some (az (.mk nm v)) := by
 rw [show az (.mk nm v) = .agg (.s nm :: (ar v).cells) from bp _, aw]; kernel_rfl
theorem appF {h : Tr AB} {n : Nat} {x : AV} {l l' : List Fld} (o : OwnW 52 2 h n (l.map az) x) (hm : 2 <= n) (hl : l.length + l'.length <= 1000000) :
  ∃ x' σ', aI T0 ⟨h, n⟩ 33 33 x (.lst (l'.map az)) = some (x', σ') /\ OwnW 52 2 σ'.h σ'.n ((l ++ l').map az) x' /\ n <= σ'.n /\ ∀ j, j < 2 -> σ'.h.get j = h.get j := by
 have := appW (h := h) elF.rowT o hm (RowE.mapE elF l) (RowE.mapE elF l') (iP (by decide) (by rw [List.length_map, List.length_map]; exact hl))
 rwa [<- List.map_append] at this
theorem zx {h : Tr AB} {n : Nat} {x : AV} {l l' : List Val} (o : OwnW 35 2 h n (l.map ar) x) (hm : 2 <= n) (hl : l.length + l'.length <= 1000000) :
  ∃ x' σ', aI T0 ⟨h, n⟩ 32 32 x (.lst (l'.map ar)) = some (x', σ') /\ OwnW 35 2 σ'.h σ'.n ((l ++ l').map ar) x' /\ n <= σ'.n /\ ∀ j, j < 2 -> σ'.h.get j = h.get j := by
 have := appW (h := h) elV.rowT o hm (RowE.mapE elV l) (RowE.mapE elV l') (iP (by decide) (by rw [List.length_map, List.length_map]; exact hl))
 rwa [<- List.map_append] at this
theorem tA {h : Tr AB} (es : List AV) : fz T0 h 3 (.lst es) = some (.lst es) := db (T := T0) (h := h) 2 (a := .lst es) rfl
theorem slS1c {x : XStep} {p : List XStep} {h : Tr AB} : aQ T0 h 22 (.lst ((x :: p).map aj)) (some (.i .i64 1)) none none = some (.lst (p.map aj)) := slS1 (p := x :: p) (by rw [List.length_cons]; omega)
theorem rr {α : Type} {l : List α} {i : Nat} {y : α} (hi : i < l.length) : l.set i y = l.take i ++ (y :: l.drop (i + 1)) := by rw [List.set_eq_take_append_cons_drop, if_pos hi]
theorem vb7 : type_of% (And.intro @aa (And.intro @aG (And.intro @bK (And.intro @eJ (And.intro @bV (And.intro @Nat.zero_add (And.intro @bZ (And.intro @dy (And.intro @aC (And.intro @cI (And.intro @cL (And.intro @cW (And.intro @tw (And.intro @pY (And.intro @cw (And.intro @gq (And.intro @cP (And.intro @aE (And.intro @ay @iD))))))))))))))))))) := And.intro @aa (And.intro @aG (And.intro @bK (And.intro @eJ (And.intro @bV (And.intro @Nat.zero_add (And.intro @bZ (And.intro @dy (And.intro @aC (And.intro @cI (And.intro @cL (And.intro @cW (And.intro @tw (And.intro @pY (And.intro @cw (And.intro @gq (And.intro @cP (And.intro @aE (And.intro @ay @iD))))))))))))))))))
theorem c53 (k : Nat) : ∀ (p : List XStep) (v : Val), p.length <= k -> smV v -> p ≠ [] -> (gw v p).isSome = true -> (∀ x ∈ p, x.kind_ = 1 ∨ x.kind_ = 2 ∨ x.kind_ = 3) -> k <= 100000 -> R T0 53 [ar v, .lst (p.map aj)] (ar (rmV v p)) := by
 induction k with
 | zero => intro p v h _ hne; exact absurd (List.eq_nil_of_length_eq_zero (by omega)) hne
 | succ k ih =>
  intro p v hpl sm hne hg hkk hk
  obtain ⟨x, p, rfl⟩ : ∃ x q, p = x :: q := by
   cases p with
   | nil => exact absurd rfl hne
   | cons x q => exact ⟨x, q, rfl⟩
  obtain ⟨-, ls, ll, lf, ol, of_⟩ := bY sm
  obtain ⟨hc0, w, hsw, hgw, hw1, hw2⟩ := qu hg
  obtain ⟨i, hi⟩ : ∃ i : Nat, chI v x = (i : Nat) := ⟨(chI v x).toNat, by omega⟩
  rw [hi] at hc0
  rw [hi, Int.toNat_natCast] at hw1 hw2
  have swm := jF sm hsw
  refine r53 _ _ (by rw [aw]; rfl) (by rw [aw]; rfl) ?_
  unfold w53
  dsimp only [av]
  have e51' := fun (d : Nat) (σ : AS) (K : AV -> AS -> Prop) => e51 (x := x) sm (hkk x (List.mem_cons_self ..)) (d := d) (σ := σ) (K := K)
  rw [hi] at e51'
  have b0 : ((Tr.nil.put 0 (some (.cells (ar v).cells 35 false))).put (0 + 1) (some (.cells [.i .i64 0, .i .i64 0, .s [], .nilz true, .nilz true] 35 false)) : Tr AB).get 0 = some (.cells (aL v (.lst (v.list.map ar)) (.lst (v.fields.map az))) 35 false) := by
   rw [ae _ _ (by decide), ah, je]
  have b1 : ((Tr.nil.put 0 (some (.cells (ar v).cells 35 false))).put (0 + 1) (some (.cells [.i .i64 0, .i .i64 0, .s [], .nilz true, .nilz true] 35 false)) : Tr AB).get 1 = some (.cells [.i .i64 0, .i .i64 0, .s [], .nilz true, .nilz true] 35 false) := ah _ _ _
  rw [bt, bt]
  dsimp only
  simp only [Nat.zero_add, Nat.reduceAdd, cw]
  generalize ((Tr.nil.put 0 (some (.cells (ar v).cells 35 false))).put (0 + 1) (some (.cells [.i .i64 0, .i .i64 0, .s [], .nilz true, .nilz true] 35 false)) : Tr AB) = h at b0 b1 |-
  have q1 : ac T0 h 35 (.ptr 0 0) = some (ar v) := by rw [l5 b0, aw]; rfl
  have q2 : ac T0 h 50 (.iptr (aj x).cells) = some (aj x) := by rw [gq, dQ]
  have e1 : ((i : Nat) : Int) + 1 = ((i + 1 : Nat) : Int) := by omega
  rw [q1, aa, tw, aa, q2, aa, e51']
  by_cases k1 : x.kind_ = 1
  ·obtain ⟨rfl, hil⟩ := hw1 k1
   obtain ⟨x2, σ1, a1, w1, n1, m1⟩ := appF (h := h) (n := 2) (x := .nilz false) (l := []) (l' := v.fields.take i) OwnW.none (by decide) (by rw [List.length_take]; simp only [List.length_nil]; omega)
   rw [List.nil_append] at w1
   have c0 := (m1 0 (by decide)).trans b0
   have c1 := (m1 1 (by decide)).trans b1
   have b2' := c0
   simp (disch := first | omega | assumption | (intros; simp only [dl2]; try omega)) only [vb7, List.length_cons, List.length_nil, e1, ice33_0, l4 b0, slF_pre, a1, aZ]
   cases p with
   | nil =>
    rw [xB, hi, Int.toNat_natCast, if_pos k1]
    simp (disch := first | omega | assumption | (intros; simp only [dl2]; try omega)) only [vb7, List.length_cons, List.length_nil, e1]
    have : True := trivial
    ·have σ2 : AS := σ1
     clear σ2
     obtain ⟨σ2, hσ⟩ : ∃ s, s = σ1 := ⟨_, rfl⟩
     rw [<- hσ] at w1 n1 m1 c0 c1 b2' |-
     have w2 := w1
     have n2 := n1
     obtain ⟨x3, σ3, a3, w3, n3, k3⟩ := appF (h := σ2.h) (n := σ2.n) w2 (by omega) (l' := v.fields.drop (i + 1)) (by rw [List.length_drop]; first | (rw [List.length_take]; omega) | (rw [List.length_append, List.length_take]; simp only [List.length_cons, List.length_nil]; omega))
     have c0 := (k3 0 (by decide)).trans c0
     have c1 := (k3 1 (by decide)).trans c1
     rw [show (⟨σ2.h, σ2.n⟩ : AS) = σ2 from rfl] at a3
     simp (disch := first | omega | assumption | (intros; simp only [dl2]; try omega)) only [vb7, List.length_cons, List.length_nil, e1, l4 b2', xy, a3, aZ, s4 c0 w3.cells w3.leaf]
     rw [l5 (ah _ _ _), aa, py rfl ((ae _ _ (by decide)).trans c1) rfl w3.leaf, aG, l5 (ah _ _ _), aa]
     have f1 := fzW (h := ((σ3.h.put 0 (some (.cells (aL v (.lst (v.list.map ar)) x3) 35 false))).put 1 (some (.cells (aL v (.lst (v.list.map ar)) x3) 35 false)))) elF.rowT (RowE.mapE elF _) (w3.same (n' := σ3.n) (fun j h1 h2 => by rw [ae _ _ (by omega), ae _ _ (by omega)]) (Nat.le_refl _))
     rw [<- List.eraseIdx_eq_take_drop_succ] at f1
     exact ⟨4, _, ka (tA _) f1, rfl⟩
   | cons y p =>
    rw [uo, hi, Int.toNat_natCast, if_pos k1]
    have er := fun (d : Nat) (σ : AS) (K : AV -> AS -> Prop) => (ih (y :: p) (v.fields.getD i default).v (by rw [List.length_cons] at hpl; omega) swm (by simp) hgw (fun q hq => hkk q (List.mem_cons_of_mem _ hq)) (by omega)).eq d σ K
    have ia := qm (enc := az) (l := v.fields) (k := .i64) (n := (i : Nat)) (by omega) (by omega) bu
    rw [Int.toNat_natCast] at ia
    obtain ⟨x4, σ2, a2, w2, n2, m2⟩ := appF (h := σ1.h) (n := σ1.n) w1 n1 (l' := [(Fld.mk (v.fields.getD i default).name (rmV (v.fields.getD i default).v (y :: p)))]) (by rw [List.length_take]; simp only [List.length_cons, List.length_nil]; omega)
    rw [show (⟨σ1.h, σ1.n⟩ : AS) = σ1 from rfl, List.map_cons, List.map_nil] at a2
    have d1 : 1 <= (az (v.fields.getD i default)).cells.length := by rw [bu]; decide
    simp (disch := first | omega | assumption | (intros; simp only [dl2]; try omega)) only [vb7, List.length_cons, List.length_nil, e1, l4 c0, ia, slS1c, er, oU, a2, aZ, ja, lY, lF, bld52]
    have c0 := (m2 0 (by decide)).trans c0
    have c1 := (m2 1 (by decide)).trans c1
    have b2' := c0
    ·have n2 : 2 <= σ2.n := by omega
     obtain ⟨x3, σ3, a3, w3, n3, k3⟩ := appF (h := σ2.h) (n := σ2.n) w2 (by omega) (l' := v.fields.drop (i + 1)) (by rw [List.length_drop]; first | (rw [List.length_take]; omega) | (rw [List.length_append, List.length_take]; simp only [List.length_cons, List.length_nil]; omega))
     have c0 := (k3 0 (by decide)).trans c0
     have c1 := (k3 1 (by decide)).trans c1
     rw [show (⟨σ2.h, σ2.n⟩ : AS) = σ2 from rfl] at a3
     simp (disch := first | omega | assumption | (intros; simp only [dl2]; try omega)) only [vb7, List.length_cons, List.length_nil, e1, l4 b2', xy, a3, aZ, s4 c0 w3.cells w3.leaf]
     rw [l5 (ah _ _ _), aa, py rfl ((ae _ _ (by decide)).trans c1) rfl w3.leaf, aG, l5 (ah _ _ _), aa]
     have f1 := fzW (h := ((σ3.h.put 0 (some (.cells (aL v (.lst (v.list.map ar)) x3) 35 false))).put 1 (some (.cells (aL v (.lst (v.list.map ar)) x3) 35 false)))) elF.rowT (RowE.mapE elF _) (w3.same (n' := σ3.n) (fun j h1 h2 => by rw [ae _ _ (by omega), ae _ _ (by omega)]) (Nat.le_refl _))
     rw [List.append_assoc, List.singleton_append, <- rr hil] at f1
     exact ⟨4, _, ka (tA _) f1, rfl⟩
  ·obtain ⟨rfl, hil⟩ := hw2 k1
   obtain ⟨x2, σ1, a1, w1, n1, m1⟩ := zx (h := h) (n := 2) (x := .nilz false) (l := []) (l' := v.list.take i) OwnW.none (by decide) (by rw [List.length_take]; simp only [List.length_nil]; omega)
   rw [List.nil_append] at w1
   have c0 := (m1 0 (by decide)).trans b0
   have c1 := (m1 1 (by decide)).trans b1
   have b2' := c0
   simp (disch := first | omega | assumption | (intros; simp only [dl2]; try omega)) only [vb7, List.length_cons, List.length_nil, e1, ice32_0, l3 b0, slV_pre, a1, aZ]
   cases p with
   | nil =>
    rw [xB, hi, Int.toNat_natCast, if_neg k1]
    simp (disch := first | omega | assumption | (intros; simp only [dl2]; try omega)) only [vb7, List.length_cons, List.length_nil, e1]
    have : True := trivial
    ·have σ2 : AS := σ1
     clear σ2
     obtain ⟨σ2, hσ⟩ : ∃ s, s = σ1 := ⟨_, rfl⟩
     rw [<- hσ] at w1 n1 m1 c0 c1 b2' |-
     have w2 := w1
     have n2 := n1
     obtain ⟨x3, σ3, a3, w3, n3, k3⟩ := zx (h := σ2.h) (n := σ2.n) w2 (by omega) (l' := v.list.drop (i + 1)) (by rw [List.length_drop]; first | (rw [List.length_take]; omega) | (rw [List.length_append, List.length_take]; simp only [List.length_cons, List.length_nil]; omega))
     have c0 := (k3 0 (by decide)).trans c0
     have c1 := (k3 1 (by decide)).trans c1
     rw [show (⟨σ2.h, σ2.n⟩ : AS) = σ2 from rfl] at a3
     simp (disch := first | omega | assumption | (intros; simp only [dl2]; try omega)) only [vb7, List.length_cons, List.length_nil, e1, l3 b2', xx, a3, aZ, s3 c0 w3.cells w3.leaf]
     rw [l5 (ah _ _ _), aa, py rfl ((ae _ _ (by decide)).trans c1) w3.leaf rfl, aG, l5 (ah _ _ _), aa]
     have f1 := fzW (h := ((σ3.h.put 0 (some (.cells (aL v x3 (.lst (v.fields.map az))) 35 false))).put 1 (some (.cells (aL v x3 (.lst (v.fields.map az))) 35 false)))) elV.rowT (RowE.mapE elV _) (w3.same (n' := σ3.n) (fun j h1 h2 => by rw [ae _ _ (by omega), ae _ _ (by omega)]) (Nat.le_refl _))
     rw [<- List.eraseIdx_eq_take_drop_succ] at f1
     exact ⟨4, _, ka f1 (tA _), rfl⟩
   | cons y p =>
    rw [uo, hi, Int.toNat_natCast, if_neg k1]
    have er := fun (d : Nat) (σ : AS) (K : AV -> AS -> Prop) => (ih (y :: p) (v.list.getD i default) (by rw [List.length_cons] at hpl; omega) swm (by simp) hgw (fun q hq => hkk q (List.mem_cons_of_mem _ hq)) (by omega)).eq d σ K
    have ia := rT (enc := ar) (l := v.list) (k := .i64) (n := (i : Nat)) (by omega) (by omega) bM
    rw [Int.toNat_natCast] at ia
    obtain ⟨x4, σ2, a2, w2, n2, m2⟩ := zx (h := σ1.h) (n := σ1.n) w1 n1 (l' := [(rmV (v.list.getD i default) (y :: p))]) (by rw [List.length_take]; simp only [List.length_cons, List.length_nil]; omega)
    rw [show (⟨σ1.h, σ1.n⟩ : AS) = σ1 from rfl, List.map_cons, List.map_nil] at a2
    have d1 : 1 <= (az (v.fields.getD i default)).cells.length := by rw [bu]; decide
    simp (disch := first | omega | assumption | (intros; simp only [dl2]; try omega)) only [vb7, List.length_cons, List.length_nil, e1, l3 c0, ia, slS1c, er, xZ, a2, aZ, iw]
    have c0 := (m2 0 (by decide)).trans c0
    have c1 := (m2 1 (by decide)).trans c1
    have b2' := c0
    ·have n2 : 2 <= σ2.n := by omega
     obtain ⟨x3, σ3, a3, w3, n3, k3⟩ := zx (h := σ2.h) (n := σ2.n) w2 (by omega) (l' := v.list.drop (i + 1)) (by rw [List.length_drop]; first | (rw [List.length_take]; omega) | (rw [List.length_append, List.length_take]; simp only [List.length_cons, List.length_nil]; omega))
     have c0 := (k3 0 (by decide)).trans c0
     have c1 := (k3 1 (by decide)).trans c1
     rw [show (⟨σ2.h, σ2.n⟩ : AS) = σ2 from rfl] at a3
     simp (disch := first | omega | assumption | (intros; simp only [dl2]; try omega)) only [vb7, List.length_cons, List.length_nil, e1, l3 b2', xx, a3, aZ, s3 c0 w3.cells w3.leaf]
     rw [l5 (ah _ _ _), aa, py rfl ((ae _ _ (by decide)).trans c1) w3.leaf rfl, aG, l5 (ah _ _ _), aa]
     have f1 := fzW (h := ((σ3.h.put 0 (some (.cells (aL v x3 (.lst (v.fields.map az))) 35 false))).put 1 (some (.cells (aL v x3 (.lst (v.fields.map az))) 35 false)))) elV.rowT (RowE.mapE elV _) (w3.same (n' := σ3.n) (fun j h1 h2 => by rw [ae _ _ (by omega), ae _ _ (by omega)]) (Nat.le_refl _))
     rw [List.append_assoc, List.singleton_append, <- rr hil] at f1
     exact ⟨4, _, ka f1 (tA _), rfl⟩
theorem pE : smV default := .mk (okI (by decide) (by decide)) (okI (by decide) (by decide)) (by decide) (by decide) (by decide) (fun x h => by cases h) (fun x h => by cases h)
theorem gtR_form (o : Option Val) (hs : ∀ w, o = some w -> smV w) : ∃ w b, gtR o = .tup [ar w, .b b] /\ smV w := by
 cases o with
 | none => exact ⟨default, false, rfl, pE⟩
 | some w => exact ⟨w, true, rfl, hs w rfl⟩
theorem c27 (k : Nat) : ∀ v : Val, SizeOf.sizeOf v <= k -> okV v -> R T0 27 [ar v, ar v] (.b true) := by
 induction k with
 | zero => intro v h; obtain ⟨_, _, _, _, _⟩ := v; simp only [Val.mk.sizeOf_spec] at h; omega
 | succ k ih =>
  intro v hsz ov
  obtain ⟨ls, ll, lf, ol, of_⟩ := dl ov
  refine r27 _ _ (by rw [aw]; rfl) (by rw [aw]; rfl) ?_
  unfold w27
  dsimp only [av]
  have nf : ∀ a : Int, decide (a ≠ a) = false := fun a => decide_eq_false (fun h => h rfl)
  have sf : ∀ (a : List UInt8) (c : Bool), af T0 .neq 9 c (.s a) (.s a) = some (.b false) := fun a c => by rw [tK]; simp
  simp (disch := first | omega | assumption | (intros; simp only [dl3]; try omega)) only [vb0, ne_eq, aX, ei, aC, vb1, br, jC, vn, vw, vq, vv, vf, vt, vu, kV, Nat.reduceAdd, nf, sf, cW, cL]
  refine fj (X := Nat) (fun _ => .ptr 1 0) (fun _ => .ptr 0 0) (fun j => .i .i64 (j : Nat)) (fun j σ => j <= v.list.length /\ σ.h.get 0 = some (.cells (ar v).cells 35 false) /\ σ.h.get 1 = some (.cells (ar v).cells 35 false)) (fun j => v.list.length - j) ?_ 0 _ ⟨Nat.zero_le _, (ae _ _ (by decide)).trans (ah _ _ _), ah _ _ _⟩
  rintro R j σ ⟨hj, g0, g1⟩ hR
  by_cases hj' : j < v.list.length
  ·have hm := aY hj'
   have er := fun (d : Nat) (σ : AS) (K : AV -> AS -> Prop) => (ih _ (by have := dq v hm; omega) (ol _ hm)).eq d σ K
   simp (disch := first | omega | assumption | (intros; simp only [dl3]; try omega)) only [vb0, ne_eq, aX, ei, aC, vb1, br, jC, vn, vw, vq, vv, vf, vt, vu, kV, g0, g1, er, cL]
   exact hR (j + 1) _ ⟨by omega, g0, g1⟩ (by omega)
  ·simp (disch := first | omega | assumption | (intros; simp only [dl3]; try omega)) only [vb0, ne_eq, aX, ei, aC, vb1, br, jC, vn, vw, vq, vv, vf, vt, vu, kV, g0, g1, cW]
   clear hR
   refine fj (X := Nat) (fun _ => .ptr 1 0) (fun _ => .ptr 0 0) (fun j => .i .i64 (j : Nat)) (fun j σ => j <= v.fields.length /\ σ.h.get 0 = some (.cells (ar v).cells 35 false) /\ σ.h.get 1 = some (.cells (ar v).cells 35 false)) (fun j => v.fields.length - j) ?_ 0 _ ⟨Nat.zero_le _, g0, g1⟩
   clear g0 g1
   rintro R j σ ⟨hj, g0, g1⟩ hR
   by_cases hj' : j < v.fields.length
   ·have hm := aY hj'
    have er := fun (d : Nat) (σ : AS) (K : AV -> AS -> Prop) => (ih _ (by have := cv v hm; omega) (lE (of_ _ hm)).2).eq d σ K
    simp (disch := first | omega | assumption | (intros; simp only [dl3]; try omega)) only [vb0, ne_eq, aX, ei, aC, vb1, br, jC, vn, vw, vq, vv, vf, vt, vu, kV, g0, g1, er, sf, cL]
    exact hR (j + 1) _ ⟨by omega, g0, g1⟩ (by omega)
   ·simp (disch := first | omega | assumption | (intros; simp only [dl3]; try omega)) only [vb0, ne_eq, aX, ei, aC, vb1, br, jC, vn, vw, vq, vv, vf, vt, vu, kV, g0, g1, cW]
theorem e27 {v : Val} (ov : okV v) {d : Nat} {σ : AS} {K : AV -> AS -> Prop} : oC T0 d 27 [ar v, ar v] σ K = K (.b true) σ := (c27 _ v (Nat.le_refl _) ov).eq d σ K
section
variable {α : Type} {lt : α -> α -> Bool}
structure OrdL (lt : α -> α -> Bool) : Prop where
 asym : ∀ x y, lt x y = true -> lt y x = false
 trans : ∀ x y z, lt y x = false -> lt z y = false -> lt z x = false
def Srt (lt : α -> α -> Bool) (l : List α) : Prop := l.Pairwise (fun x y => lt y x = false)
theorem Srt.left {A B : List α} (h : Srt lt (A ++ B)) : Srt lt A := (List.pairwise_append.1 h).1
theorem Srt.right {A B : List α} (h : Srt lt (A ++ B)) : Srt lt B := (List.pairwise_append.1 h).2.1
theorem Srt.cross {A B : List α} (h : Srt lt (A ++ B)) : ∀ x ∈ A, ∀ y ∈ B, lt y x = false := (List.pairwise_append.1 h).2.2
def jA (lt : α -> α -> Bool) (L R : List α) : Prop := ∀ L' x y R', L = L' ++ [x] -> R = y :: R' -> lt y x = false
theorem xC (O : OrdL lt) (x : α) : lt x x = false := by
 cases h : lt x x
 ·rfl
 ·have := O.asym x x h; rw [this] at h; cases h
theorem last_ge (O : OrdL lt) {L : List α} {x : α} (h : Srt lt (L ++ [x])) : ∀ u ∈ L ++ [x], lt x u = false := by
 intro u hu
 rcases List.mem_append.1 hu with hu | hu
 ·exact h.cross u hu x (List.mem_singleton.2 rfl)
 ·rw [List.mem_singleton.1 hu]; exact xC O x
theorem first_le (O : OrdL lt) {R : List α} {y : α} (h : Srt lt (y :: R)) : ∀ u ∈ y :: R, lt u y = false := by
 intro u hu
 rcases List.mem_cons.1 hu with rfl | hu
 ·exact xC O u
 ·exact (List.pairwise_cons.1 h).1 u hu
theorem lK (O : OrdL lt) {L R : List α} (hL : Srt lt L) (hR : Srt lt R) (m : jA lt L R) : ∀ u ∈ L, ∀ w ∈ R, lt w u = false := by
 intro u hu w hw
 obtain ⟨L', x, rfl⟩ : ∃ L' x, L = L' ++ [x] := by
  rcases List.eq_nil_or_concat L with rfl | ⟨L', x, rfl⟩
  ·cases hu
  ·exact ⟨L', x, by simp⟩
 cases R with
 | nil => cases hw
 | cons y R' =>
  have h1 := last_ge O hL u hu
  have h2 := first_le O hR w hw
  have h3 := m L' x y R' rfl rfl
  exact O.trans u x w h1 (O.trans x y w h3 h2)
theorem glue (O : OrdL lt) {L R : List α} (hL : Srt lt L) (hR : Srt lt R) (m : jA lt L R) : Srt lt (L ++ R) :=
 List.pairwise_append.2 ⟨hL, hR, lK O hL hR m⟩
theorem glue_all {L R : List α} (hL : Srt lt L) (hR : Srt lt R) (m : ∀ u ∈ L, ∀ w ∈ R, lt w u = false) : Srt lt (L ++ R) :=
 List.pairwise_append.2 ⟨hL, hR, m⟩
theorem halves (O : OrdL lt) {A1 A2 B1 B2 : List α} (hA : Srt lt (A1 ++ A2)) (hB : Srt lt (B1 ++ B2)) (m1 : jA lt A1 B2) (m2 : jA lt B1 A2) :
  ∀ u ∈ A1 ++ B1, ∀ w ∈ A2 ++ B2, lt w u = false := by
 intro u hu w hw
 rcases List.mem_append.1 hu with hu | hu <;> rcases List.mem_append.1 hw with hw | hw
 ·exact hA.cross u hu w hw
 ·exact lK O hA.left hB.right m1 u hu w hw
 ·exact lK O hB.left hA.right m2 u hu w hw
 ·exact hB.cross u hu w hw
theorem into (O : OrdL lt) {L R : List α} {x : α} (h : Srt lt (L ++ R)) (m1 : jA lt L [x]) (m2 : jA lt [x] R) : Srt lt (L ++ [x] ++ R) := by
 have h1 : Srt lt (L ++ [x]) := glue O h.left (List.pairwise_singleton _ _) m1
 refine List.pairwise_append.2 ⟨h1, h.right, fun u hu w hw => ?_⟩
 rcases List.mem_append.1 hu with hu | hu
 ·exact h.cross u hu w hw
 ·rw [List.mem_singleton.1 hu]
  exact lK O (List.pairwise_singleton _ _) h.right m2 x (List.mem_singleton.2 rfl) w hw
theorem rc {L L' R : List α} (h : ∀ u ∈ L, ∀ w ∈ R, lt w u = false) (p : L'.Perm L) : ∀ u ∈ L', ∀ w ∈ R, lt w u = false := fun u hu w hw => h u (p.mem_iff.1 hu) w hw
theorem pC {L R R' : List α} (h : ∀ u ∈ L, ∀ w ∈ R, lt w u = false) (p : R'.Perm R) : ∀ u ∈ L, ∀ w ∈ R', lt w u = false := fun u hu w hw => h u hu w (p.mem_iff.1 hw)
theorem pz : ∀ {l l' : List α}, Srt lt l -> Srt lt l' -> l.Perm l' -> (∀ x ∈ l, ∀ y ∈ l, lt x y = false -> lt y x = false -> x = y) -> l = l'
 | [], l', _, _, p, _ => by
  have := p.length_eq
  cases l' with
  | nil => rfl
  | cons a l' => cases this
 | x :: l, l', h, h', p, d => by
  cases l' with
  | nil => have := p.length_eq; cases this
  | cons y l' =>
   have hx := List.pairwise_cons.1 h
   have hy := List.pairwise_cons.1 h'
   have e : x = y := by
    have my : y ∈ x :: l := p.mem_iff.2 (List.mem_cons_self ..)
    have mx : x ∈ y :: l' := p.mem_iff.1 (List.mem_cons_self ..)
    rcases List.mem_cons.1 my with e | my'
    ·exact e.symm
    ·rcases List.mem_cons.1 mx with e | mx'
     ·exact e
     ·exact d x (List.mem_cons_self ..) y my (hy.1 x mx') (hx.1 y my')
   subst e
   rw [pz hx.2 hy.2 (List.Perm.cons_inv p) (fun a ha b hb => d a (List.mem_cons_of_mem _ ha) b (List.mem_cons_of_mem _ hb))]
end
theorem Runs.ex {T : Tab} {f : Nat} {args : List AV} {σ : AS} {fn : Func} {c : Code} {Q : AV -> AS -> Prop} (h1 : T.prim f = none) (h2 : fv T f args = none) (h3 : T.fn f = some fn) (h4 : fn.body = some c) (h5 : T.opened f = true) (h6 : T.mode f = 0) {an : AN}
  (hv : bR (av T) T fn c an args σ Q) : ∃ r σ', Runs T f args σ r σ' /\ Q r σ' := by
 obtain ⟨k, r1, σ1, e1, hq⟩ := di hv
 refine ⟨r1, σ1, ⟨k + 1, ?_⟩, hq⟩
 unfold aF
 simp only [h1, h2, h3, h4, h5, h6, e1]
theorem pb : ∀ (a b : List UInt8), Op.bytesLess a b = true -> Op.bytesLess b a = false
 | [], [], h => by simp [Op.bytesLess] at h
 | [], _ :: _, _ => by simp [Op.bytesLess]
 | _ :: _, [], h => by simp [Op.bytesLess] at h
 | x :: a, y :: b, h => by
  have ih := pb a b
  simp only [Op.bytesLess] at h |-
  rcases Nat.lt_trichotomy x.toNat y.toNat with q | q | q
  ·have h1 : x < y := q
   have h2 : ¬ y < x := fun h => absurd (show y.toNat < x.toNat from h) (by omega)
   have h3 : (y == x) = false := by simp; rintro rfl; omega
   simp [h2, h3]
  ·obtain rfl : x = y := UInt8.toNat_inj.1 q
   have h2 : ¬ x < x := fun h => absurd (show x.toNat < x.toNat from h) (by omega)
   simp [h2] at h |-; exact ih h
  ·have h2 : ¬ x < y := fun h => absurd (show x.toNat < y.toNat from h) (by omega)
   have h3 : (x == y) = false := by simp; rintro rfl; omega
   simp [h2, h3] at h
theorem bl_nt : ∀ (a b c : List UInt8), Op.bytesLess b a = false -> Op.bytesLess c b = false -> Op.bytesLess c a = false
 | [], _, c, _, _ => by cases c <;> simp [Op.bytesLess]
 | _ :: _, [], _, h, _ => by simp [Op.bytesLess] at h
 | _ :: _, _ :: _, [], _, h => by simp [Op.bytesLess] at h
 | x :: a, y :: b, z :: c, h1, h2 => by
  have ih := bl_nt a b c
  simp only [Op.bytesLess] at h1 h2 |-
  have l1 : ¬ y.toNat < x.toNat := fun q => by have : y < x := q; simp [this] at h1
  have l2 : ¬ z.toNat < y.toNat := fun q => by have : z < y := q; simp [this] at h2
  have n1 : ¬ z < x := fun h => absurd (show z.toNat < x.toNat from h) (by omega)
  by_cases e : z.toNat = x.toNat
  ·have e1 : z = x := UInt8.toNat_inj.1 e
   have e2 : y = x := UInt8.toNat_inj.1 (by omega)
   subst e1; subst e2
   have n2 : ¬ y < y := fun h => absurd (show y.toNat < y.toNat from h) (by omega)
   simp [n2] at h1 h2 |-; exact ih h1 h2
  ·have n3 : (z == x) = false := by simp; rintro rfl; exact e rfl
   simp [n1, n3]
def ltF (a b : Fld) : Bool := Op.bytesLess a.name b.name
theorem ordF : OrdL ltF := ⟨fun x y => pb _ _, fun x y z h1 h2 => bl_nt _ _ _ h1 h2⟩
def ordI (x y : Bool) : Int := if x = true then -1 else if y = true then 1 else 0
def oh (a b : List UInt8) : Int := ordI (Op.bytesLess a b) (Op.bytesLess b a)
theorem zg : ∀ (a b : List UInt8), Lib.compareBytes a b = oh a b
 | [], [] => rfl
 | [], _ :: _ => rfl
 | _ :: _, [] => rfl
 | x :: a, y :: b => by
  have ih := zg a b
  unfold Lib.compareBytes
  unfold oh ordI at ih |-
  simp only [Op.bytesLess]
  rcases Nat.lt_trichotomy x.toNat y.toNat with q | q | q
  ·have h1 : x < y := q
   simp [h1]
  ·obtain rfl : x = y := UInt8.toNat_inj.1 q
   have h2 : ¬ x < x := fun h => absurd (show x.toNat < x.toNat from h) (by omega)
   simp [h2, ih]
  ·have h1 : y < x := q
   have h2 : ¬ x < y := fun h => absurd (show x.toNat < y.toNat from h) (by omega)
   have h3 : (x == y) = false := by simp; rintro rfl; omega
   simp [h1, h2, h3]
theorem cmp_lt (a b : Fld) : decide (oh a.name b.name < 0) = ltF a b := by
 unfold oh ordI ltF
 cases h : Op.bytesLess a.name b.name
 ·cases Op.bytesLess b.name a.name <;> rfl
 ·rfl
theorem c138 (a b : List UInt8) : R T0 138 [.s a, .s b] (.i .i64 (oh a b)) := by
 rw [<- zg]
 have hp : T0.prim 138 = some ky := by kernel_rfl
 exact ⟨1, fun σ => by unfold aF; simp only [hp, ky]⟩
theorem e138 {a b : List UInt8} {d : Nat} {σ : AS} {K : AV -> AS -> Prop} : oC T0 d 138 [.s a, .s b] σ K = K (.i .i64 (oh a b)) σ := (c138 a b).eq d σ K
theorem c121 (a b : List UInt8) : R T0 121 [.s a, .s b] (.i .i64 (oh a b)) := by
 refine r121 _ _ rfl rfl ?_
 unfold w121
 dsimp only [av]
 rw [e138, oc]
theorem e121 {a b : List UInt8} {d : Nat} {σ : AS} {K : AV -> AS -> Prop} : oC T0 d 121 [.s a, .s b] σ K = K (.i .i64 (oh a b)) σ := (c121 a b).eq d σ K
theorem c106 (a b : List UInt8) : R T0 106 [.s a, .s b] (.i .i64 (oh a b)) := by
 refine r106 _ _ rfl rfl ?_
 unfold w106
 dsimp only [av]
 rw [e121, oc]
theorem e106 {a b : List UInt8} {d : Nat} {σ : AS} {K : AV -> AS -> Prop} : oC T0 d 106 [.s a, .s b] σ K = K (.i .i64 (oh a b)) σ := (c106 a b).eq d σ K
theorem c105 (a b : Fld) : R T0 105 [az a, az b] (.i .i64 (oh a.name b.name)) := by
 refine r105 _ _ (by rw [bp, bp, aw, aw]; rfl) (by rw [bp, bp, aw, aw]; rfl) ?_
 unfold w105
 dsimp only [av]
 simp (disch := first | omega | assumption | (intros; simp only [dl3]; try omega)) only [vb4, ne_eq, vb1, br, e106]
theorem e105 {a b : Fld} {d : Nat} {σ : AS} {K : AV -> AS -> Prop} : oF T0 d (.fn 105 [] []) [az a, az b] σ K = K (.i .i64 (oh a.name b.name)) σ := by
 rw [kN]; exact (c105 a b).eq d σ K
theorem xz : nD T0 (.fn 105 [] []) = true := by kernel_rfl
def cr (h : Tr AB) (id : Nat) (l : List Fld) : Prop := h.get id = some (.cells (ax az l) 52 true)
section
variable {h : Tr AB} {id N i : Nat} {l U V : List Fld} {x y z : Fld}
theorem jv (hi : i < N) : ai T0 33 (.sl id 0 N none) (.i .i64 (i : Nat)) = some (.ptr id (i * (5 + 1))) := by
 have ht : T0.ty 33 = some (.slice 52) := elF.ty
 have hz : T0.sz 52 = some (5 + 1) := elF.sz
 simp only [ai, ht, hz, Int.toNat_natCast, Nat.zero_add]
 rw [if_pos (by omega)]
theorem rl (hg : cr h id l) (hi : i < l.length) : ac T0 h 52 (.ptr id (i * (5 + 1))) = some (az (l.getD i default)) := by
 have := RowAt.load elF bu (j := i) (h := h) (l := l) (id := id) (encD := az) (fun hne => by rw [jQ]; exact hg) hi
 exact this
theorem rs (hg : cr h id l) (hi : i < l.length) : bo T0 h 52 (.ptr id (i * (5 + 1))) (az y) = some (id, .cells (ax az (l.set i y)) 52 true) :=
 ge tZ hg (bu y) (lM y) (pN (k := 0) bu hi (cy _ _ (by rw [bu, bu])))
theorem fL {W : List Fld} : (U ++ y :: W).getD U.length default = y := by simp [List.getD_eq_getElem?_getD]
theorem mW : (U ++ y :: x :: V).getD (U.length + 1) default = x := by simp [List.getD_eq_getElem?_getD]
theorem ku {W : List Fld} : (U ++ y :: W).set U.length z = U ++ z :: W := by simp
theorem pI : (U ++ y :: x :: V).set (U.length + 1) z = U ++ y :: z :: V := by simp
end
theorem x136 (a0 a1 a2 a3 : AV) {σ : AS} {Q : AV -> AS -> Prop} (h : w136 (av T0) a0 a1 a2 a3 σ Q) : ∃ r σ', Runs T0 136 [a0, a1, a2, a3] σ r σ' /\ Q r σ' :=
 Runs.ex (by kernel_rfl) (by kernel_rfl) (show T0.fn 136 = some Tryz.f136 by kernel_rfl) (by kernel_rfl) (by kernel_rfl) (by kernel_rfl) (by rw [w136_eq] at h; exact h)
def tN (h : Tr AB) (n id : Nat) (r : AV) (σ' : AS) (P : List Fld -> Prop) : Prop := r = .tup [] /\ σ'.n = n /\ (∀ j, j ≠ id -> σ'.h.get j = h.get j) /\ ∃ l', P l' /\ cr σ'.h id l'
theorem sL : type_of% (And.intro @aC (And.intro @cI (And.intro @cL (And.intro @jv (And.intro @xz (And.intro @fb (And.intro @e105 (And.intro @cmp_lt (And.intro @aE @ay))))))))) := And.intro @aC (And.intro @cI (And.intro @cL (And.intro @jv (And.intro @xz (And.intro @fb (And.intro @e105 (And.intro @cmp_lt (And.intro @aE @ay))))))))
theorem c136 {h : Tr AB} {n id N : Nat} (P A S : List Fld) (hN : N = (P ++ A ++ S).length) (hN2 : N <= 1000000) (hg : cr h id (P ++ A ++ S)) :
  ∃ r σ', Runs T0 136 [.sl id 0 N none, .i .i64 (P.length : Nat), .i .i64 ((P.length + A.length : Nat) : Int), .fn 105 [] []] ⟨h, n⟩ r σ' /\ tN h n id r σ' (fun l' => ∃ A', l' = P ++ A' ++ S /\ A'.Perm A /\ Srt ltF A') := by
 refine x136 _ _ _ _ ?_
 unfold w136
 dsimp only [av]
 rw [List.length_append, List.length_append] at hN
 have e1 : ((P.length : Nat) : Int) + 1 = ((P.length + 1 : Nat) : Int) := by omega
 rw [aC, aa, cI (by omega) (by omega), e1]
 cases A with
 | nil =>
  refine gJ (X := Unit) (fun _ => .sl id 0 N none) (fun _ => .fn 105 [] []) (fun _ => .i .i64 (P.length : Nat)) (fun _ => .i .i64 ((P.length + ([] : List Fld).length : Nat) : Int)) (fun _ => .i .i64 ((P.length + 1 : Nat) : Int)) (fun _ σ => σ = ⟨h, n⟩) (fun _ => 0) ?_ () _ rfl
  rintro R _ σ rfl hR
  rw [List.length_nil, da, aa, decide_eq_false (by omega), ay]
  exact ⟨rfl, rfl, fun j _ => rfl, _, ⟨[], rfl, List.Perm.refl _, List.Pairwise.nil⟩, hg⟩
 | cons a A =>
  rw [List.length_cons] at hN
  refine gJ (X := List Fld × List Fld) (fun _ => .sl id 0 N none) (fun _ => .fn 105 [] []) (fun _ => .i .i64 (P.length : Nat)) (fun _ => .i .i64 ((P.length + (a :: A).length : Nat) : Int)) (fun x => .i .i64 ((P.length + x.1.length : Nat) : Int))
   (fun x σ => σ.n = n /\ (∀ j, j ≠ id -> σ.h.get j = h.get j) /\ x.1.length + x.2.length = A.length + 1 /\ (x.1 ++ x.2).Perm (a :: A) /\ Srt ltF x.1 /\ cr σ.h id (P ++ x.1 ++ x.2 ++ S)) (fun x => x.2.length) ?_ ([a], A) _
   ⟨rfl, fun j _ => rfl, by simp; omega, List.Perm.refl _, List.pairwise_singleton _ _, by rw [List.append_assoc P]; exact hg⟩
  rintro R ⟨A1, A2⟩ σ ⟨hn, hfr, hlen, hp, hs, hr⟩ hR
  dsimp only at hn hlen hp hs hr hR |-
  rw [List.length_cons] at hR |-
  cases A2 with
  | nil =>
   rw [List.length_nil] at hlen
   rw [List.append_nil] at hp hr
   rw [da, aa, decide_eq_false (by omega), ay]
   exact ⟨rfl, hn, hfr, _, ⟨A1, rfl, hp, hs⟩, hr⟩
  | cons x A2 =>
   rw [List.length_cons] at hlen
   rw [da, aa, decide_eq_true (by omega), aE]
   refine uM (X := List Fld × List Fld) (fun _ => .sl id 0 N none) (fun _ => .fn 105 [] []) (fun _ => .i .i64 (P.length : Nat)) (fun _ => .i .i64 ((P.length + (A.length + 1) : Nat) : Int)) (fun _ => .i .i64 ((P.length + A1.length : Nat) : Int)) (fun y => .i .i64 ((P.length + y.1.length : Nat) : Int))
    (fun y σ => σ.n = n /\ (∀ j, j ≠ id -> σ.h.get j = h.get j) /\ y.1 ++ y.2 = A1 /\ jA ltF [x] y.2 /\ cr σ.h id (P ++ y.1 ++ x :: (y.2 ++ A2 ++ S))) (fun y => y.1.length) ?_ (A1, []) _
    ⟨hn, hfr, List.append_nil _, fun L' u w R' _ q => (by cases q), by simpa using hr⟩
   clear hn hfr hr
   rintro R2 ⟨L, Rr⟩ σ ⟨hn, hfr, hLR, hm, hr⟩ hR2
   dsimp only at hLR hm hr hR2 |-
   have hl1 : L.length + Rr.length = A1.length := by rw [<- hLR, List.length_append]
   have hLs : Srt ltF (L ++ Rr) := by rw [hLR]; exact hs
   have e2 : ((P.length + A1.length : Nat) : Int) + 1 = ((P.length + (A1.length + 1) : Nat) : Int) := by omega
   have done : jA ltF L [x] -> R (.sl id 0 N none) (.fn 105 [] []) (.i .i64 (P.length : Nat)) (.i .i64 ((P.length + (A.length + 1) : Nat) : Int)) (.i .i64 ((P.length + (A1.length + 1) : Nat) : Int)) σ := fun m1 => by
    have hso := into ordF hLs m1 hm
    have := hR (L ++ [x] ++ Rr, A2) σ ⟨hn, hfr, by simp; omega, ?_, hso, by simpa using hr⟩ (by dsimp only; rw [List.length_cons]; omega)
    ·rw [show (L ++ [x] ++ Rr).length = A1.length + 1 by simp; omega] at this; exact this
    ·refine List.Perm.trans ?_ hp
     rw [<- hLR]
     simp only [List.append_assoc, List.singleton_append, List.cons_append]
     refine List.Perm.append_left L ?_
     exact (List.perm_middle (l₁ := Rr) (l₂ := A2) (a := x)).symm
   rcases List.eq_nil_or_concat L with rfl | ⟨L', y, rfl⟩
   ·simp (disch := first | omega | assumption | (intros; simp only [dl3]; try omega)) only [vb0, ne_eq, aX, ic, aC, bz, vb6, qm, tx, gff_12, gtf_12, tz, gvv_12, gnt_12, gnf_12, List.length_nil, Nat.add_zero, cW, e2]
    exact done (fun L' u w R' q _ => by simp at q)
   ·simp only [List.concat_eq_append] at hLR hm hr hR2 hl1 hLs done |-
    obtain ⟨W, hW⟩ : ∃ W, W = Rr ++ A2 ++ S := ⟨_, rfl⟩
    obtain ⟨U, hU⟩ : ∃ U, U = P ++ L' := ⟨_, rfl⟩
    have hUl : U.length = P.length + L'.length := by rw [hU, List.length_append]
    have hr' : cr σ.h id (U ++ y :: x :: W) := by rw [hU, hW]; simpa using hr
    rw [List.length_append, List.length_singleton] at hl1 |-
    have hlw : (U ++ y :: x :: W).length = N := by rw [hW]; simp only [List.length_append, List.length_cons]; omega
    have e3 : ((P.length + (L'.length + 1) : Nat) : Int) - 1 = ((U.length : Nat) : Int) := by omega
    have e4 : ((P.length + (L'.length + 1) : Nat) : Int) = ((U.length + 1 : Nat) : Int) := by omega
    have ld1 : ac T0 σ.h 52 (.ptr id ((U.length + 1) * (5 + 1))) = some (az x) := by rw [rl hr' (by omega), mW]
    have ld0 : ac T0 σ.h 52 (.ptr id (U.length * (5 + 1))) = some (az y) := by rw [rl hr' (by omega), fL]
    have e5 : ((U.length + 1 : Nat) : Int) - 1 = ((U.length : Nat) : Int) := by omega
    rw [e4]
    cases hc : ltF x y
    ·simp (disch := first | omega | assumption | (intros; simp only [dl3]; try omega)) only [cc, dy, bz, sL, cW, bk, bB, tx, tz, bK, e5, ld1, ld0, hc, e2]
     exact done (fun M u w R' q q2 => by
      injection q2 with q2 q3
      have := List.append_inj' q rfl
      have h2 := this.2
      injection h2 with h2
      rw [<- h2, <- q2]; exact hc)
    ·have s1 : bo T0 σ.h 52 (.ptr id ((U.length + 1) * (5 + 1))) (az y) = some (id, .cells (ax az (U ++ y :: y :: W)) 52 true) := by rw [rs hr' (by omega), pI]
     have hr2 : cr (σ.h.put id (some (.cells (ax az (U ++ y :: y :: W)) 52 true))) id (U ++ y :: y :: W) := ah _ _ _
     have s2 : bo T0 (σ.h.put id (some (.cells (ax az (U ++ y :: y :: W)) 52 true))) 52 (.ptr id (U.length * (5 + 1))) (az x) = some (id, .cells (ax az (U ++ x :: y :: W)) 52 true) := by rw [rs hr2 (by simp), ku]
     simp (disch := first | omega | assumption | (intros; simp only [dl3]; try omega)) only [cc, dy, bz, sL, cW, bk, bB, tx, tz, bK, e5, ld1, ld0, hc, s1]
     rw [fG rfl rfl]
     try simp (disch := first | omega | assumption | (intros; simp only [dl3]; try omega)) only [aa, jv]
     rw [nL rfl, s2, bK, fG rfl rfl, fc]
     try simp (disch := first | omega | assumption | (intros; simp only [dl3]; try omega)) only [cc, dy, bz, sL, cW, bk, bB, tx, tz, bK, e5]
     have := hR2 (L', y :: Rr) ⟨(σ.h.put id (some (.cells (ax az (U ++ y :: y :: W)) 52 true))).put id (some (.cells (ax az (U ++ x :: y :: W)) 52 true)), σ.n⟩ ⟨hn, fun j hj => by dsimp only; rw [ae _ _ hj, ae _ _ hj]; exact hfr j hj, by rw [<- hLR]; simp, fun M u w R' q q2 => by
      injection q2 with q2 q3
      have := List.append_inj' (show [] ++ [x] = M ++ [u] from q) rfl
      have h2 := this.2
      injection h2 with h2
      rw [<- h2, <- q2]; exact ordF.asym _ _ hc, by
      have : P ++ L' ++ x :: (y :: Rr ++ A2 ++ S) = U ++ x :: y :: W := by rw [hU, hW]; simp
      dsimp only; rw [this]; exact ah _ _ _⟩ (by dsimp only; rw [List.length_append, List.length_singleton]; omega)
     dsimp only at this
     rw [<- hUl] at this
     exact this
theorem x147 (a0 a1 a2 a3 a4 : AV) {σ : AS} {Q : AV -> AS -> Prop} (h : w147 (av T0) a0 a1 a2 a3 a4 σ Q) : ∃ r σ', Runs T0 147 [a0, a1, a2, a3, a4] σ r σ' /\ Q r σ' :=
 Runs.ex (by kernel_rfl) (by kernel_rfl) (show T0.fn 147 = some Tryz.f147 by kernel_rfl) (by kernel_rfl) (by kernel_rfl) (by kernel_rfl) (by rw [w147_eq] at h; exact h)
theorem x144 (a0 a1 a2 a3 a4 : AV) {σ : AS} {Q : AV -> AS -> Prop} (h : w144 (av T0) a0 a1 a2 a3 a4 σ Q) : ∃ r σ', Runs T0 144 [a0, a1, a2, a3, a4] σ r σ' /\ Q r σ' :=
 Runs.ex (by kernel_rfl) (by kernel_rfl) (show T0.fn 144 = some Tryz.f144 by kernel_rfl) (by kernel_rfl) (by kernel_rfl) (by kernel_rfl) (by rw [w144_eq] at h; exact h)
section
variable {U V W : List Fld} {x y z : Fld}
theorem wO : U ++ x :: (V ++ y :: W) = (U ++ x :: V) ++ y :: W := by simp
theorem yZ : (U ++ x :: V).length = U.length + 1 + V.length := by simp; omega
theorem getD_far : (U ++ x :: (V ++ y :: W)).getD (U.length + 1 + V.length) default = y := by rw [wO, <- yZ (x := x)]; exact fL
theorem set_far : (U ++ x :: (V ++ y :: W)).set (U.length + 1 + V.length) z = U ++ x :: (V ++ z :: W) := by rw [wO, <- yZ (x := x), ku, wO]
end
theorem c147 {h : Tr AB} {n id N : Nat} (P A M B S : List Fld) (hAB : A.length = B.length) (hN : N = (P ++ A ++ M ++ B ++ S).length) (hN2 : N <= 1000000) (hg : cr h id (P ++ A ++ M ++ B ++ S)) :
  ∃ r σ', Runs T0 147 [.sl id 0 N none, .i .i64 (P.length : Nat), .i .i64 ((P.length + A.length + M.length : Nat) : Int), .i .i64 (A.length : Nat), .fn 105 [] []] ⟨h, n⟩ r σ' /\ tN h n id r σ' (fun l' => l' = P ++ B ++ M ++ A ++ S) := by
 refine x147 _ _ _ _ _ ?_
 unfold w147
 dsimp only [av]
 simp only [List.length_append] at hN
 refine gJ (X := List Fld × List Fld × List Fld × List Fld) (fun _ => .i .i64 (P.length : Nat)) (fun _ => .sl id 0 N none) (fun _ => .i .i64 ((P.length + A.length + M.length : Nat) : Int)) (fun _ => .i .i64 (A.length : Nat)) (fun x => .i .i64 (x.1.length : Nat))
  (fun x σ => σ.n = n /\ (∀ j, j ≠ id -> σ.h.get j = h.get j) /\ A = x.1 ++ x.2.1 /\ B = x.2.2.1 ++ x.2.2.2 /\ x.1.length = x.2.2.1.length /\ cr σ.h id (P ++ (x.2.2.1 ++ x.2.1) ++ M ++ (x.1 ++ x.2.2.2) ++ S)) (fun x => x.2.1.length) ?_ ([], A, [], B) _
  ⟨rfl, fun j _ => rfl, rfl, rfl, rfl, hg⟩
 rintro R ⟨A1, A2, B1, B2⟩ σ ⟨hn, hfr, hA, hB, hl, hr⟩ hR
 dsimp only at hA hB hl hr hR |-
 have lA := congrArg List.length hA
 have lB := congrArg List.length hB
 rw [List.length_append] at lA lB
 cases A2 with
 | nil =>
  rw [List.length_nil] at lA
  have hB2 : B2 = [] := List.eq_nil_of_length_eq_zero (by omega)
  subst hB2
  rw [List.append_nil] at hA hB
  rw [List.append_nil, List.append_nil] at hr
  rw [da, aa, decide_eq_false (by omega), ay]
  exact ⟨rfl, hn, hfr, _, rfl, by rw [hA, hB]; exact hr⟩
 | cons x A2 =>
  cases B2 with
  | nil => rw [List.length_cons, List.length_nil] at *; omega
  | cons y B2 =>
   rw [List.length_cons] at lA lB
   obtain ⟨U, hU⟩ : ∃ U, U = P ++ B1 := ⟨_, rfl⟩
   obtain ⟨V, hV⟩ : ∃ V, V = A2 ++ M ++ A1 := ⟨_, rfl⟩
   obtain ⟨W, hW⟩ : ∃ W, W = B2 ++ S := ⟨_, rfl⟩
   have hr' : cr σ.h id (U ++ x :: (V ++ y :: W)) := by rw [hU, hV, hW]; simpa using hr
   have hUl : U.length = P.length + B1.length := by rw [hU, List.length_append]
   have hVl : V.length = A2.length + M.length + A1.length := by rw [hV, List.length_append, List.length_append]
   have hWl : W.length = B2.length + S.length := by rw [hW, List.length_append]
   have hl0 : (U ++ x :: (V ++ y :: W)).length = N := by simp only [List.length_append, List.length_cons]; omega
   have i1 : ((P.length : Nat) : Int) + (A1.length : Nat) = ((U.length : Nat) : Int) := by omega
   have i2 : ((P.length + A.length + M.length : Nat) : Int) + (A1.length : Nat) = ((U.length + 1 + V.length : Nat) : Int) := by omega
   have d1 : ac T0 σ.h 52 (.ptr id (U.length * (5 + 1))) = some (az x) := by rw [rl hr' (by omega), fL]
   have d2 : ac T0 σ.h 52 (.ptr id ((U.length + 1 + V.length) * (5 + 1))) = some (az y) := by rw [rl hr' (by omega), getD_far]
   have s1 : bo T0 σ.h 52 (.ptr id (U.length * (5 + 1))) (az y) = some (id, .cells (ax az (U ++ y :: (V ++ y :: W))) 52 true) := by rw [rs hr' (by omega), ku]
   have hr2 : cr (σ.h.put id (some (.cells (ax az (U ++ y :: (V ++ y :: W))) 52 true))) id (U ++ y :: (V ++ y :: W)) := ah _ _ _
   have s2 : bo T0 (σ.h.put id (some (.cells (ax az (U ++ y :: (V ++ y :: W))) 52 true))) 52 (.ptr id ((U.length + 1 + V.length) * (5 + 1))) (az x) = some (id, .cells (ax az (U ++ y :: (V ++ x :: W))) 52 true) := by
    rw [rs hr2 (by simp only [List.length_append, List.length_cons]; omega), set_far]
   simp (disch := first | omega | assumption | (intros; simp only [dl2]; try omega)) only [cc, aC, cI, cL, cW, aE, i1, i2, jv, d1, d2, s1, bK]
   rw [fG rfl rfl]
   try simp (disch := first | omega | assumption | (intros; simp only [dl2]; try omega)) only [aa, jv]
   rw [nL rfl, s2, bK, fG rfl rfl, fc]
   have e1 : ((A1.length : Nat) : Int) + 1 = ((A1.length + 1 : Nat) : Int) := by omega
   try simp (disch := first | omega | assumption | (intros; simp only [dl2]; try omega)) only [aa, aC, cI, e1]
   have := hR (A1 ++ [x], A2, B1 ++ [y], B2) ⟨(σ.h.put id (some (.cells (ax az (U ++ y :: (V ++ y :: W))) 52 true))).put id (some (.cells (ax az (U ++ y :: (V ++ x :: W))) 52 true)), σ.n⟩
    ⟨hn, fun j hj => by dsimp only; rw [ae _ _ hj, ae _ _ hj]; exact hfr j hj, by rw [hA]; simp, by rw [hB]; simp, by simp; omega, by
     have : P ++ (B1 ++ [y] ++ A2) ++ M ++ (A1 ++ [x] ++ B2) ++ S = U ++ y :: (V ++ x :: W) := by rw [hU, hV, hW]; simp
     dsimp only; rw [this]; exact ah _ _ _⟩ (by dsimp only; rw [List.length_cons]; omega)
   dsimp only at this
   rw [List.length_append, List.length_singleton] at this
   exact this
theorem mG {l : List Fld} (h : l ≠ []) : 0 < l.length := by
 cases l with
 | nil => exact absurd rfl h
 | cons a l => simp
theorem c144 {h : Tr AB} {n id N : Nat} (P A B S : List Fld) (hA : A ≠ []) (hB : B ≠ []) (hN : N = (P ++ A ++ B ++ S).length) (hN2 : N <= 1000000) (hg : cr h id (P ++ A ++ B ++ S)) :
  ∃ r σ', Runs T0 144 [.sl id 0 N none, .i .i64 (P.length : Nat), .i .i64 ((P.length + A.length : Nat) : Int), .i .i64 ((P.length + A.length + B.length : Nat) : Int), .fn 105 [] []] ⟨h, n⟩ r σ' /\ tN h n id r σ' (fun l' => l' = P ++ B ++ A ++ S) := by
 refine x144 _ _ _ _ _ ?_
 unfold w144
 dsimp only [av]
 have hN' := hN
 simp only [List.length_append] at hN
 have i1 : ((P.length + A.length : Nat) : Int) - (P.length : Nat) = ((A.length : Nat) : Int) := by omega
 have i2 : ((P.length + A.length + B.length : Nat) : Int) - ((P.length + A.length : Nat) : Int) = ((B.length : Nat) : Int) := by omega
 simp (disch := first | omega | assumption | (intros; simp only [dl2]; try omega)) only [aa, bz, cI, i1, i2]
 refine gJ (X := List Fld × List Fld × List Fld × List Fld) (fun _ => .fn 105 [] []) (fun x => .i .i64 (x.2.1.length : Nat)) (fun _ => .i .i64 ((P.length + A.length : Nat) : Int)) (fun _ => .sl id 0 N none) (fun x => .i .i64 (x.2.2.1.length : Nat))
  (fun x σ => σ.n = n /\ (∀ j, j ≠ id -> σ.h.get j = h.get j) /\ x.2.1 ≠ [] /\ x.2.2.1 ≠ [] /\ x.1.length + x.2.1.length = P.length + A.length /\ x.1 ++ x.2.2.1 ++ x.2.1 ++ x.2.2.2 = P ++ B ++ A ++ S /\ cr σ.h id (x.1 ++ x.2.1 ++ x.2.2.1 ++ x.2.2.2)) (fun x => x.2.1.length + x.2.2.1.length) ?_ (P, A, B, S) _
  ⟨rfl, fun j _ => rfl, hA, hB, rfl, rfl, hg⟩
 rintro R ⟨P1, X, Y, S1⟩ ⟨h1, n1⟩ ⟨hn, hfr, hX, hY, hl, hgoal, hr⟩ hR
 dsimp only at hn hfr hX hY hl hgoal hr hR |-
 subst hn
 have hx := mG hX
 have hy := mG hY
 have hlen := congrArg List.length hgoal
 simp only [List.length_append] at hlen
 have j1 : ((P.length + A.length : Nat) : Int) - (X.length : Nat) = ((P1.length : Nat) : Int) := by omega
 rcases Nat.lt_trichotomy X.length Y.length with q | q | q
 ·
  obtain ⟨Y1, Y2, rfl, hY2⟩ : ∃ Y1 Y2, Y = Y1 ++ Y2 /\ Y2.length = X.length := ⟨Y.take (Y.length - X.length), Y.drop (Y.length - X.length), (List.take_append_drop _ _).symm, by rw [List.length_drop]; omega⟩
  rw [List.length_append] at q hy hlen hR |-
  obtain ⟨r, σ', hrun, hr1, hr2, hr3, l', rfl, hr4⟩ := c147 (h := h1) (n := n1) (id := id) (N := N) P1 X Y1 Y2 S1 hY2.symm (by simp only [List.length_append]; omega) hN2 (by simpa using hr)
  subst hr1
  have j2 : ((P.length + A.length : Nat) : Int) + ((Y1.length + Y2.length : Nat) : Int) - (X.length : Nat) = ((P1.length + X.length + Y1.length : Nat) : Int) := by omega
  have j3 : ((Y1.length + Y2.length : Nat) : Int) - (X.length : Nat) = ((Y1.length : Nat) : Int) := by omega
  have w1 : IntKind.wrap .i64 (((P.length + A.length : Nat) : Int) + ((Y1.length + Y2.length : Nat) : Int)) = ((P.length + A.length : Nat) : Int) + ((Y1.length + Y2.length : Nat) : Int) := cI (by omega) (by omega)
  have ne : decide (((X.length : Nat) : Int) ≠ ((Y1.length + Y2.length : Nat) : Int)) = true := decide_eq_true (by omega)
  simp (disch := first | omega | assumption | (intros; simp only [dl2]; try omega)) only [aa, dx, ne, dy, bz, aC, w1, cI, cW, aE, ay, j1, j2, j3, hrun.eq]
  have := hR (P1, Y2, Y1, X ++ S1) σ' ⟨hr2, fun j hj => (hr3 j hj).trans (hfr j hj), fun (e : Y2 = []) => by rw [e, List.length_nil] at hY2; omega, fun (e : Y1 = []) => by rw [e, List.length_nil] at q; omega, by dsimp only; omega, by dsimp only; rw [<- hgoal]; simp, by simpa using hr4⟩ (by dsimp only; omega)
  dsimp only at this
  rw [hY2] at this
  exact this
 ·
  obtain ⟨r, σ', hrun, hr1, hr2, hr3, l', rfl, hr4⟩ := c147 (h := h1) (n := n1) (id := id) (N := N) P1 X [] Y S1 q (by simp only [List.length_append, List.length_nil]; omega) hN2 (by simpa using hr)
  subst hr1
  rw [List.length_nil, Nat.add_zero, hl] at hrun
  have ne : decide (((X.length : Nat) : Int) ≠ (Y.length : Nat)) = false := decide_eq_false (fun h => h (by omega))
  simp (disch := first | omega | assumption | (intros; simp only [dl2]; try omega)) only [aa, dx, ne, bz, cI, ay, j1, hrun.eq]
  exact ⟨rfl, hr2, fun j hj => (hr3 j hj).trans (hfr j hj), _, rfl, by rw [<- hgoal]; simpa using hr4⟩
 ·
  obtain ⟨X1, X2, rfl, hX1⟩ : ∃ X1 X2, X = X1 ++ X2 /\ X1.length = Y.length := ⟨X.take Y.length, X.drop Y.length, (List.take_append_drop _ _).symm, by rw [List.length_take]; omega⟩
  rw [List.length_append] at q hx hlen hR hl j1 |-
  obtain ⟨r, σ', hrun, hr1, hr2, hr3, l', rfl, hr4⟩ := c147 (h := h1) (n := n1) (id := id) (N := N) P1 X1 X2 Y S1 hX1 (by simp only [List.length_append]; omega) hN2 (by simpa using hr)
  subst hr1
  rw [show P1.length + X1.length + X2.length = P.length + A.length by omega, hX1] at hrun
  have j3 : ((X1.length + X2.length : Nat) : Int) - (Y.length : Nat) = ((X2.length : Nat) : Int) := by omega
  have ne : decide (((X1.length + X2.length : Nat) : Int) ≠ (Y.length : Nat)) = true := decide_eq_true (by omega)
  simp (disch := first | omega | assumption | (intros; simp only [dl2]; try omega)) only [aa, dx, ne, dy, bz, cI, cL, aE, j1, j3, hrun.eq]
  have := hR (P1 ++ Y, X2, X1, S1) σ' ⟨hr2, fun j hj => (hr3 j hj).trans (hfr j hj), fun (e : X2 = []) => by rw [e, List.length_nil] at q; omega, fun (e : X1 = []) => by rw [e, List.length_nil] at hX1; omega, by dsimp only; rw [List.length_append]; omega, by dsimp only; rw [<- hgoal]; simp, by simpa using hr4⟩ (by dsimp only; omega)
  dsimp only at this
  rw [hX1] at this
  exact this
end Go.Proofs.YtmfhmlhaofpeiaaGreatDoor.Ev
