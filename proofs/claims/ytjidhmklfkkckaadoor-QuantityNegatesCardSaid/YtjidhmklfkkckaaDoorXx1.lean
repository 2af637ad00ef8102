-- Written by xprint.py, a program of this session's, over the kit's print of the translation. Not trusted: Lean checks it.
import Derived.Test.YtjidhmklfkkckaaDoorXx0
namespace Go.Proofs.YtjidhmklfkkckaaDoor.X
open Go.RowKit Go.Proofs.YtjidhmklfkkckaaDoorW.PrintWords Go.Proofs.YtjidhmklfkkckaaDoorW.PrintLast Go.Proofs.YtjidhmklfkkckaaDoorW.PrintMore
attribute [local go_sem] max2_int min2_int max_two min_two max_three min_three max_four min_four   -- for this text's walks alone
set_option linter.unusedVariables false
set_option linter.unusedSimpArgs false

/-! ### stringslite_HasPrefix: function 34 -/
def stringslite_HasPrefix.f (a0 : ByteArray) (a1 : ByteArray) : Option (Bool) := if (a0.size : Int) ≥ (a1.size : Int) then (if 0 ≤ (a1.size : Int) then (if (a1.size : Int) ≤ (a0.size : Int) then (some ((a0.extract 0 ((a1.size : Int) : Int).toNat).toList == a1.toList)) else (none)) else (none)) else (some false)
set_option maxHeartbeats 8000000 in
set_option maxRecDepth 100000 in
theorem stringslite_HasPrefix.calls (a0 : ByteArray) (a1 : ByteArray) (r : Bool) (w : World) (h : stringslite_HasPrefix.f a0 a1 = some r) :
    Calls Tryd.prog 34 #[.string a0, .string a1] w fun e w' => e = .returned (.bool r) ∧ Drawn0 w w' := by
  have H : (if (a0.size : Int) ≥ (a1.size : Int) then (if 0 ≤ (a1.size : Int) then (if (a1.size : Int) ≤ (a0.size : Int) then (some ((a0.extract 0 ((a1.size : Int) : Int).toNat).toList == a1.toList)) else (none)) else (none)) else (some false)) = some r := h
  clear h
  by_cases c3 : (a0.size : Int) ≥ (a1.size : Int)
  · rw [if_pos c3] at H
    have c3b0 : decide ((a1.size : Int) ≤ (a0.size : Int)) = true := decide_eq_true c3
    have c3b1 : decide (a1.size ≤ a0.size) = true := decide_eq_true (Int.ofNat_le.mp c3)
    clear c3
    by_cases c4 : 0 ≤ (a1.size : Int)
    · rw [if_pos c4] at H
      have c4b0 := eq_true c4
      have c4b1 : decide (0 ≤ (a1.size : Int)) = true := decide_eq_true c4
      clear c4
      by_cases c5 : (a1.size : Int) ≤ (a0.size : Int)
      · rw [if_pos c5] at H
        have c5b0 := eq_true c5
        have c5b1 : decide ((a1.size : Int) ≤ (a0.size : Int)) = true := decide_eq_true c5
        clear c5
        obtain ⟨sx6, hsx6⟩ : ∃ s_ : ByteArray, (a0.extract 0 ((a1.size : Int) : Int).toNat) = s_ := ⟨_, rfl⟩
        replace H : (some (sx6.toList == a1.toList)) = some r := by first | (rw [hsx6] at H; exact H) | (simp only [hsx6] at H ⊢; exact H) | exact H
        obtain rfl := Option.some.inj H
        go_enter Tryd.func34, Tryd.ntmps34
        go_wp2
        go_ret
        exact ⟨by first | rfl | (simp; done) | (simp only [← hsx6] <;> (first | rfl | simp)) | (simp [*]; done), by repeat (first | exact Drawn0.refl _ | apply Drawn0.step)⟩
      · rw [if_neg c5] at H
        exact absurd H (by simp)
    · rw [if_neg c4] at H
      exact absurd H (by simp)
  · rw [if_neg c3] at H
    have c3b0 : decide ((a1.size : Int) ≤ (a0.size : Int)) = false := decide_eq_false c3
    have c3b1 : decide (a1.size ≤ a0.size) = false := decide_eq_false (fun h => c3 (Int.ofNat_le.mpr h))
    clear c3
    obtain rfl := Option.some.inj H
    go_enter Tryd.func34, Tryd.ntmps34
    go_wp2
    go_ret
    exact ⟨by first | rfl | (simp; done) | (simp [*]; done), by repeat (first | exact Drawn0.refl _ | apply Drawn0.step)⟩

/-! ### stringslite_CutPrefix: function 26 -/
def stringslite_CutPrefix.f (a0 : ByteArray) (a1 : ByteArray) : Option (ByteArray × Bool) := (stringslite_HasPrefix.f a0 a1).bind fun t101 => (if t101 = true then (if 0 ≤ (a1.size : Int) then (if (a1.size : Int) ≤ (a0.size : Int) then (some ((a0.extract ((a1.size : Int) : Int).toNat a0.size), true)) else (none)) else (none)) else (some (a0, false)))
set_option maxHeartbeats 8000000 in
set_option maxRecDepth 100000 in
theorem stringslite_CutPrefix.calls (a0 : ByteArray) (a1 : ByteArray) (r1 : ByteArray) (r2 : Bool) (w : World) (h : stringslite_CutPrefix.f a0 a1 = some (r1, r2)) :
    Calls Tryd.prog 26 #[.string a0, .string a1] w fun e w' => e = .returned (.tuple #[.string r1, .bool r2]) ∧ Drawn0 w w' := by
  have H : ((stringslite_HasPrefix.f a0 a1).bind fun t101 => (if t101 = true then (if 0 ≤ (a1.size : Int) then (if (a1.size : Int) ≤ (a0.size : Int) then (some ((a0.extract ((a1.size : Int) : Int).toNat a0.size), true)) else (none)) else (none)) else (some (a0, false)))) = some (r1, r2) := h
  clear h
  replace H := Option.bind_eq_some_iff.mp H
  obtain ⟨t101, A30, H⟩ := H
  replace H : (if t101 = true then (if 0 ≤ (a1.size : Int) then (if (a1.size : Int) ≤ (a0.size : Int) then (some ((a0.extract ((a1.size : Int) : Int).toNat a0.size), true)) else (none)) else (none)) else (some (a0, false))) = some (r1, r2) := H
  have A3 := Aside0.mk A30
  clear A30
  by_cases c4 : t101 = true
  · subst c4
    have H1 : (if 0 ≤ (a1.size : Int) then (if (a1.size : Int) ≤ (a0.size : Int) then (some ((a0.extract ((a1.size : Int) : Int).toNat a0.size), true)) else (none)) else (none)) = some (r1, r2) := by rw [if_pos rfl] at H; exact H
    clear H
    have H := H1
    clear H1
    by_cases c5 : 0 ≤ (a1.size : Int)
    · rw [if_pos c5] at H
      have c5b0 := eq_true c5
      have c5b1 : decide (0 ≤ (a1.size : Int)) = true := decide_eq_true c5
      clear c5
      by_cases c6 : (a1.size : Int) ≤ (a0.size : Int)
      · rw [if_pos c6] at H
        have c6b0 := eq_true c6
        have c6b1 : decide ((a1.size : Int) ≤ (a0.size : Int)) = true := decide_eq_true c6
        clear c6
        obtain ⟨sx7, hsx7⟩ : ∃ s_ : ByteArray, (a0.extract ((a1.size : Int) : Int).toNat a0.size) = s_ := ⟨_, rfl⟩
        replace H : (some (sx7, true)) = some (r1, r2) := by first | (rw [hsx7] at H; exact H) | (simp only [hsx7] at H ⊢; exact H) | exact H
        (try rw [hsx7] at A3)
        simp only [Option.some.injEq, Prod.mk.injEq] at H
        obtain ⟨rfl, rfl⟩ := H
        go_enter Tryd.func26, Tryd.ntmps26
        go_wp2_with (first | ((with_reducible refine gate_callee (f := 34) rfl ?_); refine goesL_ (some 8) rfl rfl Tryd.func34 (by kernel_rfl) rfl #[.string a0, .string a1] rfl (by (try simp only [List.map_toArray, List.map_cons, List.map_nil]); first | done | rfl | (simp only [List.length_drop, List.length_take]; rfl)) ?_; (with_reducible refine (stringslite_HasPrefix.calls a0 a1 true _ A3.out).mono ?_); rintro e w' ⟨rfl, ⟨nd, rfl⟩⟩; refine ⟨_, rfl, ?_⟩))
        go_ret2
        exact ⟨by first | rfl | (simp; done) | (simp only [← hsx7] <;> (first | rfl | simp)) | (simp [*]; done), by repeat (first | exact Drawn0.refl _ | apply Drawn0.step)⟩
      · rw [if_neg c6] at H
        exact absurd H (by simp)
    · rw [if_neg c5] at H
      exact absurd H (by simp)
  · replace c4 := Bool.eq_false_iff.mpr c4
    subst c4
    have H1 : (some (a0, false)) = some (r1, r2) := by rw [if_neg (show ¬ (false = true) by decide)] at H; exact H
    clear H
    have H := H1
    clear H1
    simp only [Option.some.injEq, Prod.mk.injEq] at H
    obtain ⟨rfl, rfl⟩ := H
    go_enter Tryd.func26, Tryd.ntmps26
    go_wp2_with (first | ((with_reducible refine gate_callee (f := 34) rfl ?_); refine goesL_ (some 8) rfl rfl Tryd.func34 (by kernel_rfl) rfl #[.string a0, .string a1] rfl (by (try simp only [List.map_toArray, List.map_cons, List.map_nil]); first | done | rfl | (simp only [List.length_drop, List.length_take]; rfl)) ?_; (with_reducible refine (stringslite_HasPrefix.calls a0 a1 false _ A3.out).mono ?_); rintro e w' ⟨rfl, ⟨nd, rfl⟩⟩; refine ⟨_, rfl, ?_⟩))
    go_ret2
    exact ⟨by first | rfl | (simp; done) | (simp [*]; done), by repeat (first | exact Drawn0.refl _ | apply Drawn0.step)⟩

/-! ### strings_CutPrefix: function 18 -/
def strings_CutPrefix.f (a0 : ByteArray) (a1 : ByteArray) : Option (ByteArray × Bool) := (stringslite_CutPrefix.f a0 a1).bind fun bt102 => (some (bt102.1, bt102.2))
set_option maxHeartbeats 8000000 in
set_option maxRecDepth 100000 in
theorem strings_CutPrefix.calls (a0 : ByteArray) (a1 : ByteArray) (r1 : ByteArray) (r2 : Bool) (w : World) (h : strings_CutPrefix.f a0 a1 = some (r1, r2)) :
    Calls Tryd.prog 18 #[.string a0, .string a1] w fun e w' => e = .returned (.tuple #[.string r1, .bool r2]) ∧ Drawn0 w w' := by
  have H : ((stringslite_CutPrefix.f a0 a1).bind fun bt102 => (some (bt102.1, bt102.2))) = some (r1, r2) := h
  clear h
  replace H := Option.bind_eq_some_iff.mp H
  obtain ⟨⟨t102, t103⟩, A30, H⟩ := H
  replace H : (some (t102, t103)) = some (r1, r2) := H
  have A3 := Aside0.mk A30
  clear A30
  simp only [Option.some.injEq, Prod.mk.injEq] at H
  obtain ⟨rfl, rfl⟩ := H
  go_enter Tryd.func18, Tryd.ntmps18
  go_wp2_with (first | ((with_reducible refine gate_callee (f := 26) rfl ?_); refine goesL_ (some 8) rfl rfl Tryd.func26 (by kernel_rfl) rfl #[.string a0, .string a1] rfl (by (try simp only [List.map_toArray, List.map_cons, List.map_nil]); first | done | rfl | (simp only [List.length_drop, List.length_take]; rfl)) ?_; (with_reducible refine (stringslite_CutPrefix.calls a0 a1 t102 t103 _ A3.out).mono ?_); rintro e w' ⟨rfl, ⟨nd, rfl⟩⟩; refine ⟨_, rfl, ?_⟩))
  go_ret2
  exact ⟨by first | rfl | (simp; done) | (simp [*]; done), by repeat (first | exact Drawn0.refl _ | apply Drawn0.step)⟩

/-! ### quantity_digits: function 27 -/
def quantity_digits.l0 : Nat → ByteArray → Int → Option (Int)
  | 0, _, _ => none
  | k + 1, x0, x3 => if x3 < (x0.size : Int) then (if 0 ≤ x3 then (if (bt x0 x3) ≥ 48 then (if (bt x0 x3) ≤ 57 then (quantity_digits.l0 k x0 (wrap64 (x3 + 1))) else (some x3)) else (some x3)) else (none)) else (some x3)
def quantity_digits.f (k : Nat) (a0 : ByteArray) : Option (Int) := quantity_digits.l0 k a0 0
theorem quantity_digits.mono_l : ∀ k, (∀ y0 y1, LeO (quantity_digits.l0 k y0 y1) (quantity_digits.l0 (k + 1) y0 y1))
  | 0 => fun _ _ r h => by simp [quantity_digits.l0] at h
  | k + 1 => by
    have ih0 := quantity_digits.mono_l k
    · intro y0 y1
      unfold quantity_digits.l0
      repeat' first
      | (with_reducible exact ih0 _ _)
      | (with_reducible exact LeO.refl _)
      | (with_reducible exact LeO.none _)
      | (with_reducible refine LeO.ite ?_ ?_)
      | (with_reducible refine LeO.bind ?_ (fun _ => ?_))
      | exact ih0 _ _
      | exact LeO.none _
      | refine LeO.ite ?_ ?_
      | refine LeO.bind ?_ (fun _ => ?_)
theorem quantity_digits.mono : ∀ a0 k, LeO (quantity_digits.f k a0) (quantity_digits.f (k + 1) a0) := by
  intro a0 k
  have ih0 := quantity_digits.mono_l k
  unfold quantity_digits.f
  repeat' first
      | (with_reducible exact ih0 _ _)
      | (with_reducible exact LeO.refl _)
      | (with_reducible exact LeO.none _)
      | (with_reducible refine LeO.ite ?_ ?_)
      | (with_reducible refine LeO.bind ?_ (fun _ => ?_))
      | exact ih0 _ _
      | exact LeO.none _
      | refine LeO.ite ?_ ?_
      | refine LeO.bind ?_ (fun _ => ?_)
set_option maxHeartbeats 8000000 in
set_option maxRecDepth 100000 in
theorem quantity_digits.calls (k : Nat) (a0 : ByteArray) (r : Int) (w : World) (h : quantity_digits.f k a0 = some r) :
    Calls Tryd.prog 27 #[.string a0] w fun e w' => e = .returned (.int .i64 r) ∧ Drawn0 w w' := by
  have H : (quantity_digits.l0 k a0 0) = some r := h
  clear h
  have H' := Aside0.mk H
  clear H
  go_enter Tryd.func27, Tryd.ntmps27
  go_wp2
  go_loopg [3] k (fun kq v3 w' => ∃ (x3_1 : Int), v3 = .int .i64 x3_1 ∧ Aside0 (quantity_digits.l0 kq a0 x3_1 = some r) ∧ Aside0 (kq ≤ k) ∧ Drawn0 w w')
  case atStart => exact ⟨(0), (by first | rfl | (simp; done) | (simp [*]; done)), H', ⟨Nat.le_refl _⟩, by repeat (first | exact Drawn0.refl _ | apply Drawn0.step)⟩
  case round =>
    clear H'
    obtain ⟨x3_1, rfl, HA, HK1, ⟨m1, rfl⟩⟩ := hrel
    cases gk with
    | zero => exact absurd HA.out (by simp [quantity_digits.l0])
    | succ k1 =>
      have H := HA.out
      clear HA
      simp only [quantity_digits.l0] at H
      by_cases c2 : x3_1 < (a0.size : Int)
      · rw [if_pos c2] at H
        have c2b0 : decide (x3_1 < (a0.size : Int)) = true := decide_eq_true c2
        clear c2
        by_cases c3 : 0 ≤ x3_1
        · rw [if_pos c3] at H
          have c3b0 : decide (0 ≤ x3_1) = true := decide_eq_true c3
          clear c3
          by_cases c5 : (bt a0 x3_1) ≥ 48
          · rw [if_pos c5] at H
            have c5b0 : decide (48 ≤ (bt a0 x3_1)) = true := decide_eq_true c5
            clear c5
            by_cases c7 : (bt a0 x3_1) ≤ 57
            · rw [if_pos c7] at H
              have c7b0 : decide ((bt a0 x3_1) ≤ 57) = true := decide_eq_true c7
              clear c7
              have H' := Aside0.mk H
              clear H
              have p4 : 0 ≤ (x3_1 : Int) := of_decide_eq_true (by first | (with_reducible assumption) | assumption)
              have q4 : x3_1 < (a0.size : Int) := of_decide_eq_true (by first | (with_reducible assumption) | assumption)
              have hx4 := bt_at a0 x3_1
              replace p4 := eq_true p4
              replace q4 := eq_true q4
              have p6 : 0 ≤ (x3_1 : Int) := of_decide_eq_true (by first | (with_reducible assumption) | assumption)
              have q6 : x3_1 < (a0.size : Int) := of_decide_eq_true (by first | (with_reducible assumption) | assumption)
              have hx6 := bt_at a0 x3_1
              replace p6 := eq_true p6
              replace q6 := eq_true q6
              go_wp2
              go_roundg k1
              case measure => have := HK1.out; omega
              case rel => exact ⟨(wrap64 (x3_1 + 1)), (by first | rfl | (simp; done) | (simp [*]; done)), H', ⟨by have := HK1.out; omega⟩, by repeat (first | exact Drawn0.refl _ | apply Drawn0.step)⟩
            · rw [if_neg c7] at H
              have c7b0 : decide ((bt a0 x3_1) ≤ 57) = false := decide_eq_false c7
              clear c7
              obtain rfl := Option.some.inj H
              have p4 : 0 ≤ (x3_1 : Int) := of_decide_eq_true (by first | (with_reducible assumption) | assumption)
              have q4 : x3_1 < (a0.size : Int) := of_decide_eq_true (by first | (with_reducible assumption) | assumption)
              have hx4 := bt_at a0 x3_1
              replace p4 := eq_true p4
              replace q4 := eq_true q4
              have p6 : 0 ≤ (x3_1 : Int) := of_decide_eq_true (by first | (with_reducible assumption) | assumption)
              have q6 : x3_1 < (a0.size : Int) := of_decide_eq_true (by first | (with_reducible assumption) | assumption)
              have hx6 := bt_at a0 x3_1
              replace p6 := eq_true p6
              replace q6 := eq_true q6
              go_wp2
              go_ret
              exact ⟨by first | rfl | (simp; done) | (simp [*]; done), by repeat (first | exact Drawn0.refl _ | apply Drawn0.step)⟩
          · rw [if_neg c5] at H
            have c5b0 : decide (48 ≤ (bt a0 x3_1)) = false := decide_eq_false c5
            clear c5
            obtain rfl := Option.some.inj H
            have p4 : 0 ≤ (x3_1 : Int) := of_decide_eq_true (by first | (with_reducible assumption) | assumption)
            have q4 : x3_1 < (a0.size : Int) := of_decide_eq_true (by first | (with_reducible assumption) | assumption)
            have hx4 := bt_at a0 x3_1
            replace p4 := eq_true p4
            replace q4 := eq_true q4
            go_wp2
            go_ret
            exact ⟨by first | rfl | (simp; done) | (simp [*]; done), by repeat (first | exact Drawn0.refl _ | apply Drawn0.step)⟩
        · rw [if_neg c3] at H
          exact absurd H (by simp)
      · rw [if_neg c2] at H
        have c2b0 : decide (x3_1 < (a0.size : Int)) = false := decide_eq_false c2
        clear c2
        obtain rfl := Option.some.inj H
        go_wp2
        go_ret
        exact ⟨by first | rfl | (simp; done) | (simp [*]; done), by repeat (first | exact Drawn0.refl _ | apply Drawn0.step)⟩

/-! ### quantity_split: function 19 -/
def quantity_split.j0 : Nat → ByteArray → ByteArray → Bool → Option (ByteArray × ByteArray × ByteArray × Bool)
  | 0, _, _, _ => none
  | k + 1, x0, x2, x32 => if x32 = true then (some ((⟨#[]⟩ : ByteArray), (⟨#[]⟩ : ByteArray), (⟨#[]⟩ : ByteArray), false)) else ((strings_CutPrefix.f x0 (⟨#[46]⟩ : ByteArray)).bind fun bt105 => (if bt105.2 = true then ((quantity_digits.f k bt105.1).bind fun t107 => (if 0 ≤ t107 then (if t107 ≤ (bt105.1.size : Int) then (if t107 ≥ 1 then (some (x2, (bt105.1.extract 0 (t107 : Int).toNat), (bt105.1.extract (t107 : Int).toNat bt105.1.size), decide (t107 ≤ 3))) else (some (x2, (bt105.1.extract 0 (t107 : Int).toNat), (bt105.1.extract (t107 : Int).toNat bt105.1.size), false))) else (none)) else (none))) else (some (x2, (⟨#[]⟩ : ByteArray), x0, true))))
def quantity_split.f (k : Nat) (a0 : ByteArray) : Option (ByteArray × ByteArray × ByteArray × Bool) := (quantity_digits.f k a0).bind fun t104 => (if 0 ≤ t104 then (if t104 ≤ (a0.size : Int) then (if t104 < 1 then (quantity_split.j0 k (a0.extract (t104 : Int).toNat a0.size) (a0.extract 0 (t104 : Int).toNat) true) else (if t104 > 15 then (quantity_split.j0 k (a0.extract (t104 : Int).toNat a0.size) (a0.extract 0 (t104 : Int).toNat) true) else (if t104 > 1 then (if 0 < ((a0.extract 0 (t104 : Int).toNat).size : Int) then (quantity_split.j0 k (a0.extract (t104 : Int).toNat a0.size) (a0.extract 0 (t104 : Int).toNat) ((bt (a0.extract 0 (t104 : Int).toNat) 0) == 48)) else (none)) else (quantity_split.j0 k (a0.extract (t104 : Int).toNat a0.size) (a0.extract 0 (t104 : Int).toNat) false)))) else (none)) else (none))
theorem quantity_split.mono_l : ∀ k, (∀ y0 y1 y2, LeO (quantity_split.j0 k y0 y1 y2) (quantity_split.j0 (k + 1) y0 y1 y2))
  | 0 => fun _ _ _ r h => by simp [quantity_split.j0] at h
  | k + 1 => by
    have ih0 := quantity_split.mono_l k
    · intro y0 y1 y2
      unfold quantity_split.j0
      repeat' first
      | (with_reducible exact ih0 _ _ _)
      | (with_reducible exact quantity_digits.mono _ _)
      | (with_reducible exact LeO.refl _)
      | (with_reducible exact LeO.none _)
      | (with_reducible refine LeO.ite ?_ ?_)
      | (with_reducible refine LeO.bind ?_ (fun _ => ?_))
      | exact ih0 _ _ _
      | exact quantity_digits.mono _ _
      | exact LeO.none _
      | refine LeO.ite ?_ ?_
      | refine LeO.bind ?_ (fun _ => ?_)
theorem quantity_split.mono : ∀ a0 k, LeO (quantity_split.f k a0) (quantity_split.f (k + 1) a0) := by
  intro a0 k
  have ih0 := quantity_split.mono_l k
  unfold quantity_split.f
  repeat' first
      | (with_reducible exact ih0 _ _ _)
      | (with_reducible exact quantity_digits.mono _ _)
      | (with_reducible exact LeO.refl _)
      | (with_reducible exact LeO.none _)
      | (with_reducible refine LeO.ite ?_ ?_)
      | (with_reducible refine LeO.bind ?_ (fun _ => ?_))
      | exact ih0 _ _ _
      | exact quantity_digits.mono _ _
      | exact LeO.none _
      | refine LeO.ite ?_ ?_
      | refine LeO.bind ?_ (fun _ => ?_)
set_option maxHeartbeats 8000000 in
set_option maxRecDepth 100000 in
theorem quantity_split.calls (k : Nat) (a0 : ByteArray) (r1 : ByteArray) (r2 : ByteArray) (r3 : ByteArray) (r4 : Bool) (w : World) (h : quantity_split.f k a0 = some (r1, r2, r3, r4)) :
    Calls Tryd.prog 19 #[.string a0] w fun e w' => e = .returned (.tuple #[.string r1, .string r2, .string r3, .bool r4]) ∧ Drawn0 w w' := by
  have H : ((quantity_digits.f k a0).bind fun t104 => (if 0 ≤ t104 then (if t104 ≤ (a0.size : Int) then (if t104 < 1 then (quantity_split.j0 k (a0.extract (t104 : Int).toNat a0.size) (a0.extract 0 (t104 : Int).toNat) true) else (if t104 > 15 then (quantity_split.j0 k (a0.extract (t104 : Int).toNat a0.size) (a0.extract 0 (t104 : Int).toNat) true) else (if t104 > 1 then (if 0 < ((a0.extract 0 (t104 : Int).toNat).size : Int) then (quantity_split.j0 k (a0.extract (t104 : Int).toNat a0.size) (a0.extract 0 (t104 : Int).toNat) ((bt (a0.extract 0 (t104 : Int).toNat) 0) == 48)) else (none)) else (quantity_split.j0 k (a0.extract (t104 : Int).toNat a0.size) (a0.extract 0 (t104 : Int).toNat) false)))) else (none)) else (none))) = some (r1, r2, r3, r4) := h
  clear h
  replace H := Option.bind_eq_some_iff.mp H
  obtain ⟨t104, A20, H⟩ := H
  replace H : (if 0 ≤ t104 then (if t104 ≤ (a0.size : Int) then (if t104 < 1 then (quantity_split.j0 k (a0.extract (t104 : Int).toNat a0.size) (a0.extract 0 (t104 : Int).toNat) true) else (if t104 > 15 then (quantity_split.j0 k (a0.extract (t104 : Int).toNat a0.size) (a0.extract 0 (t104 : Int).toNat) true) else (if t104 > 1 then (if 0 < ((a0.extract 0 (t104 : Int).toNat).size : Int) then (quantity_split.j0 k (a0.extract (t104 : Int).toNat a0.size) (a0.extract 0 (t104 : Int).toNat) ((bt (a0.extract 0 (t104 : Int).toNat) 0) == 48)) else (none)) else (quantity_split.j0 k (a0.extract (t104 : Int).toNat a0.size) (a0.extract 0 (t104 : Int).toNat) false)))) else (none)) else (none)) = some (r1, r2, r3, r4) := H
  have A2 := Aside0.mk A20
  clear A20
  by_cases c3 : 0 ≤ t104
  · rw [if_pos c3] at H
    have c3b0 := eq_true c3
    have c3b1 : decide (0 ≤ t104) = true := decide_eq_true c3
    clear c3
    by_cases c4 : t104 ≤ (a0.size : Int)
    · rw [if_pos c4] at H
      have c4b0 := eq_true c4
      have c4b1 : decide (t104 ≤ (a0.size : Int)) = true := decide_eq_true c4
      clear c4
      obtain ⟨sx5, hsx5⟩ : ∃ s_ : ByteArray, (a0.extract 0 (t104 : Int).toNat) = s_ := ⟨_, rfl⟩
      replace H : (if t104 < 1 then (quantity_split.j0 k (a0.extract (t104 : Int).toNat a0.size) sx5 true) else (if t104 > 15 then (quantity_split.j0 k (a0.extract (t104 : Int).toNat a0.size) sx5 true) else (if t104 > 1 then (if 0 < (sx5.size : Int) then (quantity_split.j0 k (a0.extract (t104 : Int).toNat a0.size) sx5 ((bt sx5 0) == 48)) else (none)) else (quantity_split.j0 k (a0.extract (t104 : Int).toNat a0.size) sx5 false)))) = some (r1, r2, r3, r4) := by first | (rw [hsx5] at H; exact H) | (simp only [hsx5] at H ⊢; exact H) | exact H
      (try rw [hsx5] at A2)
      have c6b0 := eq_true (of_decide_eq_true (by first | (with_reducible assumption) | assumption) : 0 ≤ t104)
      have c7b0 := eq_true (of_decide_eq_true (by first | (with_reducible assumption) | assumption) : t104 ≤ (a0.size : Int))
      obtain ⟨sx8, hsx8⟩ : ∃ s_ : ByteArray, (a0.extract (t104 : Int).toNat a0.size) = s_ := ⟨_, rfl⟩
      replace H : (if t104 < 1 then (quantity_split.j0 k sx8 sx5 true) else (if t104 > 15 then (quantity_split.j0 k sx8 sx5 true) else (if t104 > 1 then (if 0 < (sx5.size : Int) then (quantity_split.j0 k sx8 sx5 ((bt sx5 0) == 48)) else (none)) else (quantity_split.j0 k sx8 sx5 false)))) = some (r1, r2, r3, r4) := by first | (rw [hsx8] at H; exact H) | (simp only [hsx8] at H ⊢; exact H) | exact H
      (try rw [hsx8] at A2)
      have HC9 := Aside0.mk H
      clear H
      go_enter Tryd.func19, Tryd.ntmps19
      go_upto_region 3 with (first | (go_at_call 27; (with_reducible refine (quantity_digits.calls k a0 t104 _ A2.out).mono ?_); rintro e w' ⟨rfl, ⟨nd, rfl⟩⟩; (try first | exact ⟨rfl, _, World.drewN_drewN _ _ _⟩ | exact ⟨rfl, _, Eq.trans (World.drewN_drewN _ _ _) (congrArg (World.drewN _) (Nat.add_assoc _ _ _))⟩)))
      repeat (go_quiet (first | (go_at_call 27; (with_reducible refine (quantity_digits.calls k a0 t104 _ A2.out).mono ?_); rintro e w' ⟨rfl, ⟨nd, rfl⟩⟩; (try first | exact ⟨rfl, _, World.drewN_drewN _ _ _⟩ | exact ⟨rfl, _, Eq.trans (World.drewN_drewN _ _ _) (congrArg (World.drewN _) (Nat.add_assoc _ _ _))⟩))); go_upto_region 3 with (first | (go_at_call 27; (with_reducible refine (quantity_digits.calls k a0 t104 _ A2.out).mono ?_); rintro e w' ⟨rfl, ⟨nd, rfl⟩⟩; (try first | exact ⟨rfl, _, World.drewN_drewN _ _ _⟩ | exact ⟨rfl, _, Eq.trans (World.drewN_drewN _ _ _) (congrArg (World.drewN _) (Nat.add_assoc _ _ _))⟩))))
      (try simp only [Act.put, List.setIfInBounds_toArray, List.set_cons_zero, List.set_cons_succ])
      go_cut [32] (fun v32 wc => ∃ (kq : Nat) (x32_8 : Bool), v32 = .bool x32_8 ∧ Aside0 (quantity_split.j0 kq sx8 sx5 x32_8 = some (r1, r2, r3, r4)) ∧ Aside0 (kq ≤ k) ∧ Drawn0 w wc)
      case first =>
        have H := HC9.out
        clear HC9
        by_cases c10 : t104 < 1
        · rw [if_pos c10] at H
          have c10b0 : decide (t104 < 1) = true := decide_eq_true c10
          clear c10
          (first | rw [c10b0] | (simp only [i64_w, i32_w]; rw [c10b0]) | skip)
          have H' := Aside0.mk H
          clear H
          go_wp2
          repeat (go_quiet (fail); try go_wp2)
          go_meet
          case rel => exact ⟨_, (true), (by first | rfl | (simp; done) | (simp [*]; done)), H', ⟨by first | omega | exact Nat.le_refl _⟩, by repeat (first | exact Drawn0.refl _ | apply Drawn0.step)⟩
        · rw [if_neg c10] at H
          have c10b0 : decide (t104 < 1) = false := decide_eq_false c10
          clear c10
          (first | rw [c10b0] | (simp only [i64_w, i32_w]; rw [c10b0]) | skip)
          by_cases c11 : t104 > 15
          · rw [if_pos c11] at H
            have c11b0 : decide (15 < t104) = true := decide_eq_true c11
            clear c11
            have H' := Aside0.mk H
            clear H
            go_wp2
            repeat (go_quiet (fail); try go_wp2)
            go_meet
            case rel => exact ⟨_, (true), (by first | rfl | (simp; done) | (simp [*]; done)), H', ⟨by first | omega | exact Nat.le_refl _⟩, by repeat (first | exact Drawn0.refl _ | apply Drawn0.step)⟩
          · rw [if_neg c11] at H
            have c11b0 : decide (15 < t104) = false := decide_eq_false c11
            clear c11
            by_cases c12 : t104 > 1
            · rw [if_pos c12] at H
              have c12b0 : decide (1 < t104) = true := decide_eq_true c12
              clear c12
              by_cases c13 : 0 < (sx5.size : Int)
              · rw [if_pos c13] at H
                have c13b0 : decide (0 < (sx5.size : Int)) = true := decide_eq_true c13
                have c13b1 : decide (0 < sx5.size) = true := decide_eq_true (by omega)
                clear c13
                have H' := Aside0.mk H
                clear H
                have p14 : 0 ≤ (0 : Int) := (by omega)
                have q14 : 0 < sx5.size := (by have : (0 : Int) < (sx5.size : Int) := of_decide_eq_true (by first | (with_reducible assumption) | assumption); omega)
                have hx14 : ∀ h : 0 < sx5.size, ((sx5[0]'h).toNat : Int) = bt sx5 0 := bt_at sx5 0
                clear p14
                have qi14 : (0 < (sx5.size : Int)) = True := eq_true (of_decide_eq_true (by first | (with_reducible assumption) | assumption))
                replace q14 := eq_true q14
                go_wp2
                repeat (go_quiet (fail); try go_wp2)
                go_meet
                case rel => exact ⟨_, (((bt sx5 0) == 48)), (by first | rfl | (simp; done) | (simp only [← hsx5] <;> (first | rfl | simp)) | (simp [*]; done)), H', ⟨by first | omega | exact Nat.le_refl _⟩, by repeat (first | exact Drawn0.refl _ | apply Drawn0.step)⟩
              · rw [if_neg c13] at H
                exact absurd H (by simp)
            · rw [if_neg c12] at H
              have c12b0 : decide (1 < t104) = false := decide_eq_false c12
              clear c12
              have H' := Aside0.mk H
              clear H
              go_wp2
              repeat (go_quiet (fail); try go_wp2)
              go_meet
              case rel => exact ⟨_, (false), (by first | rfl | (simp; done) | (simp [*]; done)), H', ⟨by first | omega | exact Nat.le_refl _⟩, by repeat (first | exact Drawn0.refl _ | apply Drawn0.step)⟩
      case rest =>
        clear HC9
        try clear c1
        try clear p1
        try clear q1
        try clear hx1
        try clear qi1
        try clear p2
        try clear c3
        try clear c3b0
        try clear c3b1
        try clear c4
        try clear c4b0
        try clear c4b1
        try clear c6
        try clear c6b0
        try clear c7
        try clear c7b0
        try clear c10
        try clear c10b0
        try clear c11
        try clear c11b0
        try clear c12
        try clear c12b0
        try clear c13
        try clear c13b0
        try clear c13b1
        try clear p14
        try clear q14
        try clear hx14
        try clear qi14
        try clear p14
        try clear q14
        obtain ⟨kq, x32_8, rfl, HA, HJ8, ⟨mc8, rfl⟩⟩ := hcut
        cases kq with
        | zero => exact absurd HA.out (by simp [quantity_split.j0])
        | succ kj8 =>
          have H := HA.out
          clear HA
          simp only [quantity_split.j0] at H
          by_cases c15 : x32_8 = true
          · subst c15
            have H1 : (some ((⟨#[]⟩ : ByteArray), (⟨#[]⟩ : ByteArray), (⟨#[]⟩ : ByteArray), false)) = some (r1, r2, r3, r4) := by rw [if_pos rfl] at H; exact H
            clear H
            have H := H1
            clear H1
            simp only [Option.some.injEq, Prod.mk.injEq] at H
            obtain ⟨rfl, rfl, rfl, rfl⟩ := H
            go_wp2
            repeat (go_quiet (fail); try go_wp2)
            refine bodyPost_ret (results_list (rs := [.tmp 2, .tmp 3, .tmp 4, .tmp 5]) rfl (by simp) (.tmp (.tmp (.tmp (.tmp .nil))))) rfl ?_
            exact ⟨by first | rfl | (simp; done) | (simp only [← hsx5, ← hsx8] <;> (first | rfl | simp)) | (simp [*]; done), by repeat (first | exact Drawn0.refl _ | apply Drawn0.step)⟩
          · replace c15 := Bool.eq_false_iff.mpr c15
            subst c15
            have H1 : ((strings_CutPrefix.f sx8 (⟨#[46]⟩ : ByteArray)).bind fun bt105 => (if bt105.2 = true then ((quantity_digits.f kj8 bt105.1).bind fun t107 => (if 0 ≤ t107 then (if t107 ≤ (bt105.1.size : Int) then (if t107 ≥ 1 then (some (sx5, (bt105.1.extract 0 (t107 : Int).toNat), (bt105.1.extract (t107 : Int).toNat bt105.1.size), decide (t107 ≤ 3))) else (some (sx5, (bt105.1.extract 0 (t107 : Int).toNat), (bt105.1.extract (t107 : Int).toNat bt105.1.size), false))) else (none)) else (none))) else (some (sx5, (⟨#[]⟩ : ByteArray), sx8, true)))) = some (r1, r2, r3, r4) := by rw [if_neg (show ¬ (false = true) by decide)] at H; exact H
            clear H
            have H := H1
            clear H1
            replace H := Option.bind_eq_some_iff.mp H
            obtain ⟨⟨t105, t106⟩, A160, H⟩ := H
            replace H : (if t106 = true then ((quantity_digits.f kj8 t105).bind fun t107 => (if 0 ≤ t107 then (if t107 ≤ (t105.size : Int) then (if t107 ≥ 1 then (some (sx5, (t105.extract 0 (t107 : Int).toNat), (t105.extract (t107 : Int).toNat t105.size), decide (t107 ≤ 3))) else (some (sx5, (t105.extract 0 (t107 : Int).toNat), (t105.extract (t107 : Int).toNat t105.size), false))) else (none)) else (none))) else (some (sx5, (⟨#[]⟩ : ByteArray), sx8, true))) = some (r1, r2, r3, r4) := H
            have A16 := Aside0.mk A160
            clear A160
            by_cases c17 : t106 = true
            · subst c17
              have H1 : ((quantity_digits.f kj8 t105).bind fun t107 => (if 0 ≤ t107 then (if t107 ≤ (t105.size : Int) then (if t107 ≥ 1 then (some (sx5, (t105.extract 0 (t107 : Int).toNat), (t105.extract (t107 : Int).toNat t105.size), decide (t107 ≤ 3))) else (some (sx5, (t105.extract 0 (t107 : Int).toNat), (t105.extract (t107 : Int).toNat t105.size), false))) else (none)) else (none))) = some (r1, r2, r3, r4) := by rw [if_pos rfl] at H; exact H
              clear H
              have H := H1
              clear H1
              replace H := Option.bind_eq_some_iff.mp H
              obtain ⟨t107, A180, H⟩ := H
              replace H : (if 0 ≤ t107 then (if t107 ≤ (t105.size : Int) then (if t107 ≥ 1 then (some (sx5, (t105.extract 0 (t107 : Int).toNat), (t105.extract (t107 : Int).toNat t105.size), decide (t107 ≤ 3))) else (some (sx5, (t105.extract 0 (t107 : Int).toNat), (t105.extract (t107 : Int).toNat t105.size), false))) else (none)) else (none)) = some (r1, r2, r3, r4) := H
              have A18 := Aside0.mk A180
              clear A180
              by_cases c19 : 0 ≤ t107
              · rw [if_pos c19] at H
                have c19b0 := eq_true c19
                have c19b1 : decide (0 ≤ t107) = true := decide_eq_true c19
                clear c19
                by_cases c20 : t107 ≤ (t105.size : Int)
                · rw [if_pos c20] at H
                  have c20b0 := eq_true c20
                  have c20b1 : decide (t107 ≤ (t105.size : Int)) = true := decide_eq_true c20
                  clear c20
                  obtain ⟨sx21, hsx21⟩ : ∃ s_ : ByteArray, (t105.extract 0 (t107 : Int).toNat) = s_ := ⟨_, rfl⟩
                  replace H : (if t107 ≥ 1 then (some (sx5, sx21, (t105.extract (t107 : Int).toNat t105.size), decide (t107 ≤ 3))) else (some (sx5, sx21, (t105.extract (t107 : Int).toNat t105.size), false))) = some (r1, r2, r3, r4) := by first | (rw [hsx21] at H; exact H) | (simp only [hsx21] at H ⊢; exact H) | exact H
                  (try rw [hsx21] at A16)
                  (try rw [hsx21] at A18)
                  have c22b0 := eq_true (of_decide_eq_true (by first | (with_reducible assumption) | assumption) : 0 ≤ t107)
                  have c23b0 := eq_true (of_decide_eq_true (by first | (with_reducible assumption) | assumption) : t107 ≤ (t105.size : Int))
                  obtain ⟨sx24, hsx24⟩ : ∃ s_ : ByteArray, (t105.extract (t107 : Int).toNat t105.size) = s_ := ⟨_, rfl⟩
                  replace H : (if t107 ≥ 1 then (some (sx5, sx21, sx24, decide (t107 ≤ 3))) else (some (sx5, sx21, sx24, false))) = some (r1, r2, r3, r4) := by first | (rw [hsx24] at H; exact H) | (simp only [hsx24] at H ⊢; exact H) | exact H
                  (try rw [hsx24] at A16)
                  (try rw [hsx24] at A18)
                  by_cases c25 : t107 ≥ 1
                  · rw [if_pos c25] at H
                    have c25b0 : decide (1 ≤ t107) = true := decide_eq_true c25
                    clear c25
                    simp only [Option.some.injEq, Prod.mk.injEq] at H
                    obtain ⟨rfl, rfl, rfl, rfl⟩ := H
                    go_wp2_with (first | (go_at_call 18; (with_reducible refine (strings_CutPrefix.calls sx8 (⟨#[46]⟩ : ByteArray) t105 true _ A16.out).mono ?_); rintro e w' ⟨rfl, ⟨nd, rfl⟩⟩; (try first | exact ⟨rfl, _, World.drewN_drewN _ _ _⟩ | exact ⟨rfl, _, Eq.trans (World.drewN_drewN _ _ _) (congrArg (World.drewN _) (Nat.add_assoc _ _ _))⟩)) | (go_at_call 27; (with_reducible refine (quantity_digits.calls kj8 t105 t107 _ A18.out).mono ?_); rintro e w' ⟨rfl, ⟨nd, rfl⟩⟩; (try first | exact ⟨rfl, _, World.drewN_drewN _ _ _⟩ | exact ⟨rfl, _, Eq.trans (World.drewN_drewN _ _ _) (congrArg (World.drewN _) (Nat.add_assoc _ _ _))⟩)))
                    repeat (go_quiet (first | (go_at_call 18; (with_reducible refine (strings_CutPrefix.calls sx8 (⟨#[46]⟩ : ByteArray) t105 true _ A16.out).mono ?_); rintro e w' ⟨rfl, ⟨nd, rfl⟩⟩; (try first | exact ⟨rfl, _, World.drewN_drewN _ _ _⟩ | exact ⟨rfl, _, Eq.trans (World.drewN_drewN _ _ _) (congrArg (World.drewN _) (Nat.add_assoc _ _ _))⟩)) | (go_at_call 27; (with_reducible refine (quantity_digits.calls kj8 t105 t107 _ A18.out).mono ?_); rintro e w' ⟨rfl, ⟨nd, rfl⟩⟩; (try first | exact ⟨rfl, _, World.drewN_drewN _ _ _⟩ | exact ⟨rfl, _, Eq.trans (World.drewN_drewN _ _ _) (congrArg (World.drewN _) (Nat.add_assoc _ _ _))⟩))); try go_wp2_with (first | (go_at_call 18; (with_reducible refine (strings_CutPrefix.calls sx8 (⟨#[46]⟩ : ByteArray) t105 true _ A16.out).mono ?_); rintro e w' ⟨rfl, ⟨nd, rfl⟩⟩; (try first | exact ⟨rfl, _, World.drewN_drewN _ _ _⟩ | exact ⟨rfl, _, Eq.trans (World.drewN_drewN _ _ _) (congrArg (World.drewN _) (Nat.add_assoc _ _ _))⟩)) | (go_at_call 27; (with_reducible refine (quantity_digits.calls kj8 t105 t107 _ A18.out).mono ?_); rintro e w' ⟨rfl, ⟨nd, rfl⟩⟩; (try first | exact ⟨rfl, _, World.drewN_drewN _ _ _⟩ | exact ⟨rfl, _, Eq.trans (World.drewN_drewN _ _ _) (congrArg (World.drewN _) (Nat.add_assoc _ _ _))⟩))))
                    refine bodyPost_ret (results_list (rs := [.tmp 2, .tmp 3, .tmp 4, .tmp 5]) rfl (by simp) (.tmp (.tmp (.tmp (.tmp .nil))))) rfl ?_
                    exact ⟨by first | rfl | (simp; done) | (simp only [← hsx5, ← hsx8, ← hsx21, ← hsx24] <;> (first | rfl | simp)) | (simp [*]; done), by repeat (first | exact Drawn0.refl _ | apply Drawn0.step)⟩
                  · rw [if_neg c25] at H
                    have c25b0 : decide (1 ≤ t107) = false := decide_eq_false c25
                    clear c25
                    simp only [Option.some.injEq, Prod.mk.injEq] at H
                    obtain ⟨rfl, rfl, rfl, rfl⟩ := H
                    go_wp2_with (first | (go_at_call 18; (with_reducible refine (strings_CutPrefix.calls sx8 (⟨#[46]⟩ : ByteArray) t105 true _ A16.out).mono ?_); rintro e w' ⟨rfl, ⟨nd, rfl⟩⟩; (try first | exact ⟨rfl, _, World.drewN_drewN _ _ _⟩ | exact ⟨rfl, _, Eq.trans (World.drewN_drewN _ _ _) (congrArg (World.drewN _) (Nat.add_assoc _ _ _))⟩)) | (go_at_call 27; (with_reducible refine (quantity_digits.calls kj8 t105 t107 _ A18.out).mono ?_); rintro e w' ⟨rfl, ⟨nd, rfl⟩⟩; (try first | exact ⟨rfl, _, World.drewN_drewN _ _ _⟩ | exact ⟨rfl, _, Eq.trans (World.drewN_drewN _ _ _) (congrArg (World.drewN _) (Nat.add_assoc _ _ _))⟩)))
                    repeat (go_quiet (first | (go_at_call 18; (with_reducible refine (strings_CutPrefix.calls sx8 (⟨#[46]⟩ : ByteArray) t105 true _ A16.out).mono ?_); rintro e w' ⟨rfl, ⟨nd, rfl⟩⟩; (try first | exact ⟨rfl, _, World.drewN_drewN _ _ _⟩ | exact ⟨rfl, _, Eq.trans (World.drewN_drewN _ _ _) (congrArg (World.drewN _) (Nat.add_assoc _ _ _))⟩)) | (go_at_call 27; (with_reducible refine (quantity_digits.calls kj8 t105 t107 _ A18.out).mono ?_); rintro e w' ⟨rfl, ⟨nd, rfl⟩⟩; (try first | exact ⟨rfl, _, World.drewN_drewN _ _ _⟩ | exact ⟨rfl, _, Eq.trans (World.drewN_drewN _ _ _) (congrArg (World.drewN _) (Nat.add_assoc _ _ _))⟩))); try go_wp2_with (first | (go_at_call 18; (with_reducible refine (strings_CutPrefix.calls sx8 (⟨#[46]⟩ : ByteArray) t105 true _ A16.out).mono ?_); rintro e w' ⟨rfl, ⟨nd, rfl⟩⟩; (try first | exact ⟨rfl, _, World.drewN_drewN _ _ _⟩ | exact ⟨rfl, _, Eq.trans (World.drewN_drewN _ _ _) (congrArg (World.drewN _) (Nat.add_assoc _ _ _))⟩)) | (go_at_call 27; (with_reducible refine (quantity_digits.calls kj8 t105 t107 _ A18.out).mono ?_); rintro e w' ⟨rfl, ⟨nd, rfl⟩⟩; (try first | exact ⟨rfl, _, World.drewN_drewN _ _ _⟩ | exact ⟨rfl, _, Eq.trans (World.drewN_drewN _ _ _) (congrArg (World.drewN _) (Nat.add_assoc _ _ _))⟩))))
                    refine bodyPost_ret (results_list (rs := [.tmp 2, .tmp 3, .tmp 4, .tmp 5]) rfl (by simp) (.tmp (.tmp (.tmp (.tmp .nil))))) rfl ?_
                    exact ⟨by first | rfl | (simp; done) | (simp only [← hsx5, ← hsx8, ← hsx21, ← hsx24] <;> (first | rfl | simp)) | (simp [*]; done), by repeat (first | exact Drawn0.refl _ | apply Drawn0.step)⟩
                · rw [if_neg c20] at H
                  exact absurd H (by simp)
              · rw [if_neg c19] at H
                exact absurd H (by simp)
            · replace c17 := Bool.eq_false_iff.mpr c17
              subst c17
              have H1 : (some (sx5, (⟨#[]⟩ : ByteArray), sx8, true)) = some (r1, r2, r3, r4) := by rw [if_neg (show ¬ (false = true) by decide)] at H; exact H
              clear H
              have H := H1
              clear H1
              simp only [Option.some.injEq, Prod.mk.injEq] at H
              obtain ⟨rfl, rfl, rfl, rfl⟩ := H
              go_wp2_with (first | (go_at_call 18; (with_reducible refine (strings_CutPrefix.calls sx8 (⟨#[46]⟩ : ByteArray) t105 false _ A16.out).mono ?_); rintro e w' ⟨rfl, ⟨nd, rfl⟩⟩; (try first | exact ⟨rfl, _, World.drewN_drewN _ _ _⟩ | exact ⟨rfl, _, Eq.trans (World.drewN_drewN _ _ _) (congrArg (World.drewN _) (Nat.add_assoc _ _ _))⟩)))
              repeat (go_quiet (first | (go_at_call 18; (with_reducible refine (strings_CutPrefix.calls sx8 (⟨#[46]⟩ : ByteArray) t105 false _ A16.out).mono ?_); rintro e w' ⟨rfl, ⟨nd, rfl⟩⟩; (try first | exact ⟨rfl, _, World.drewN_drewN _ _ _⟩ | exact ⟨rfl, _, Eq.trans (World.drewN_drewN _ _ _) (congrArg (World.drewN _) (Nat.add_assoc _ _ _))⟩))); try go_wp2_with (first | (go_at_call 18; (with_reducible refine (strings_CutPrefix.calls sx8 (⟨#[46]⟩ : ByteArray) t105 false _ A16.out).mono ?_); rintro e w' ⟨rfl, ⟨nd, rfl⟩⟩; (try first | exact ⟨rfl, _, World.drewN_drewN _ _ _⟩ | exact ⟨rfl, _, Eq.trans (World.drewN_drewN _ _ _) (congrArg (World.drewN _) (Nat.add_assoc _ _ _))⟩))))
              refine bodyPost_ret (results_list (rs := [.tmp 2, .tmp 3, .tmp 4, .tmp 5]) rfl (by simp) (.tmp (.tmp (.tmp (.tmp .nil))))) rfl ?_
              exact ⟨by first | rfl | (simp; done) | (simp only [← hsx5, ← hsx8] <;> (first | rfl | simp)) | (simp [*]; done), by repeat (first | exact Drawn0.refl _ | apply Drawn0.step)⟩
    · rw [if_neg c4] at H
      exact absurd H (by simp)
  · rw [if_neg c3] at H
    exact absurd H (by simp)

/-! ### quantity_units: function 21 -/
def quantity_units.f  : Option ((List (S47))) := some (([(⟨(⟨#[71]⟩ : ByteArray), 1000000000⟩ : S47), (⟨(⟨#[77]⟩ : ByteArray), 1000000⟩ : S47), (⟨(⟨#[107]⟩ : ByteArray), 1000⟩ : S47), (⟨(⟨#[71, 105]⟩ : ByteArray), 1073741824⟩ : S47), (⟨(⟨#[77, 105]⟩ : ByteArray), 1048576⟩ : S47), (⟨(⟨#[75, 105]⟩ : ByteArray), 1024⟩ : S47), (⟨(⟨#[]⟩ : ByteArray), 1⟩ : S47)] : List (S47)))
set_option maxHeartbeats 8000000 in
set_option maxRecDepth 100000 in
theorem quantity_units.calls  (r : List (S47)) (w : World) (h : quantity_units.f  = some r) :
    Calls Tryd.prog 21 #[] w fun e w' => ∃ v0_ : Value, e = .returned (v0_) ∧ Kd.R k47 47 w' w.heap.size (fun _ => True) v0_ r ∧ Below w.heap.size w w' := by
  have hu47 := Tryd.underlying47
  have HB := Aside0.mk (Below.refl w.heap.size w)
  have H : (some (([(⟨(⟨#[71]⟩ : ByteArray), 1000000000⟩ : S47), (⟨(⟨#[77]⟩ : ByteArray), 1000000⟩ : S47), (⟨(⟨#[107]⟩ : ByteArray), 1000⟩ : S47), (⟨(⟨#[71, 105]⟩ : ByteArray), 1073741824⟩ : S47), (⟨(⟨#[77, 105]⟩ : ByteArray), 1048576⟩ : S47), (⟨(⟨#[75, 105]⟩ : ByteArray), 1024⟩ : S47), (⟨(⟨#[]⟩ : ByteArray), 1⟩ : S47)] : List (S47)))) = some r := h
  clear h
  obtain ⟨y108, hy108⟩ : ∃ y_ : List (S47), y_ = (([(⟨(⟨#[71]⟩ : ByteArray), 1000000000⟩ : S47), (⟨(⟨#[77]⟩ : ByteArray), 1000000⟩ : S47), (⟨(⟨#[107]⟩ : ByteArray), 1000⟩ : S47), (⟨(⟨#[71, 105]⟩ : ByteArray), 1073741824⟩ : S47), (⟨(⟨#[77, 105]⟩ : ByteArray), 1048576⟩ : S47), (⟨(⟨#[75, 105]⟩ : ByteArray), 1024⟩ : S47), (⟨(⟨#[]⟩ : ByteArray), 1⟩ : S47)] : List (S47))) := ⟨_, rfl⟩
  replace H : (some y108) = some r := by first | (rw [hy108]; with_reducible exact H) | (have H2_ := (Option.bind_some _ _).symm.trans H; rw [hy108]; with_reducible exact H2_) | (have H2_ := (Option.bind_some _ _).symm.trans H; with_reducible exact H2_) | with_reducible exact H | (rw [hy108]; exact H) | exact H
  have Ny108 := Aside0.mk hy108
  clear hy108
  obtain rfl := Option.some.inj H
  go_enter Tryd.func21, Tryd.ntmps21
  go_wp2_with (first | ((with_reducible refine gate_dst (N := 8) rfl ?_); refine Kd.R_lit k47 _ 47 ?hg (N := 8) ?hd (xs := ([(⟨(⟨#[71]⟩ : ByteArray), 1000000000⟩ : S47), (⟨(⟨#[77]⟩ : ByteArray), 1000000⟩ : S47), (⟨(⟨#[107]⟩ : ByteArray), 1000⟩ : S47), (⟨(⟨#[71, 105]⟩ : ByteArray), 1073741824⟩ : S47), (⟨(⟨#[77, 105]⟩ : ByteArray), 1048576⟩ : S47), (⟨(⟨#[75, 105]⟩ : ByteArray), 1024⟩ : S47), (⟨(⟨#[]⟩ : ByteArray), 1⟩ : S47)] : List (S47))) (inner := [.string (⟨#[71]⟩ : ByteArray), .int .i64 1000000000, .string (⟨#[77]⟩ : ByteArray), .int .i64 1000000, .string (⟨#[107]⟩ : ByteArray), .int .i64 1000, .string (⟨#[71, 105]⟩ : ByteArray), .int .i64 1073741824, .string (⟨#[77, 105]⟩ : ByteArray), .int .i64 1048576, .string (⟨#[75, 105]⟩ : ByteArray), .int .i64 1024, .string (⟨#[]⟩ : ByteArray), .int .i64 1]) (ok := fun _ => True) (okp := fun _ => True) ?hr ?hp (fun _ hk => hk) trivial (Below.refl _ _) (Nat.le_refl _) (by simp) ?_; (case hd => rfl); (case hg => rfl); (case hr => first | (go_simp; done) | (go_simp; rfl)); (case hp => exact (Reps.c2 (show Kd.M k47 _ _ _ (⟨(⟨#[71]⟩ : ByteArray), 1000000000⟩ : S47) [.string (⟨#[71]⟩ : ByteArray), .int .i64 1000000000] from (k47_mkM _ _ _ (⟨(⟨#[71]⟩ : ByteArray), 1000000000⟩ : S47) )) (Reps.c2 (show Kd.M k47 _ _ _ (⟨(⟨#[77]⟩ : ByteArray), 1000000⟩ : S47) [.string (⟨#[77]⟩ : ByteArray), .int .i64 1000000] from (k47_mkM _ _ _ (⟨(⟨#[77]⟩ : ByteArray), 1000000⟩ : S47) )) (Reps.c2 (show Kd.M k47 _ _ _ (⟨(⟨#[107]⟩ : ByteArray), 1000⟩ : S47) [.string (⟨#[107]⟩ : ByteArray), .int .i64 1000] from (k47_mkM _ _ _ (⟨(⟨#[107]⟩ : ByteArray), 1000⟩ : S47) )) (Reps.c2 (show Kd.M k47 _ _ _ (⟨(⟨#[71, 105]⟩ : ByteArray), 1073741824⟩ : S47) [.string (⟨#[71, 105]⟩ : ByteArray), .int .i64 1073741824] from (k47_mkM _ _ _ (⟨(⟨#[71, 105]⟩ : ByteArray), 1073741824⟩ : S47) )) (Reps.c2 (show Kd.M k47 _ _ _ (⟨(⟨#[77, 105]⟩ : ByteArray), 1048576⟩ : S47) [.string (⟨#[77, 105]⟩ : ByteArray), .int .i64 1048576] from (k47_mkM _ _ _ (⟨(⟨#[77, 105]⟩ : ByteArray), 1048576⟩ : S47) )) (Reps.c2 (show Kd.M k47 _ _ _ (⟨(⟨#[75, 105]⟩ : ByteArray), 1024⟩ : S47) [.string (⟨#[75, 105]⟩ : ByteArray), .int .i64 1024] from (k47_mkM _ _ _ (⟨(⟨#[75, 105]⟩ : ByteArray), 1024⟩ : S47) )) (Reps.c2 (show Kd.M k47 _ _ _ (⟨(⟨#[]⟩ : ByteArray), 1⟩ : S47) [.string (⟨#[]⟩ : ByteArray), .int .i64 1] from (k47_mkM _ _ _ (⟨(⟨#[]⟩ : ByteArray), 1⟩ : S47) )) (Reps.none _ _))))))))); intro v109 w1 ho2 hb hg_ hnew_; clear hg_ hnew_; (first | rw [← Ny108.out] at ho2 | (simp only [Int.reduceToNat] at ho2; rw [← Ny108.out] at ho2)); have n0_ := Aside0.mk (Kd.R_lower ho2 (below_size (by repeat (first | (with_reducible first | exact HB.out | apply below_alloc | apply pw_below_drewN | apply below_drew1) | exact HB.out)))); have n1_ := Aside0.mk (below_step (by repeat (first | (with_reducible first | exact HB.out | apply below_alloc | apply pw_below_drewN | apply below_drew1) | exact HB.out)) hb); clear HB; have HO110 := n0_; have HB := n1_; clear n0_ n1_; clear hb ho2))
  go_ret
  exact ⟨_, by first | rfl | (simp [errW_none, errW_some] <;> rfl) | (simp [*, errW_none, errW_some] <;> rfl), by (with_reducible repeat (first | apply Kd.R_alloc | apply Kd.R_drewN | apply Kd.R_drew)); exact HO110.out, by repeat (first | (with_reducible first | exact HB.out | apply below_alloc | apply pw_below_drewN | apply below_drew1) | exact HB.out)⟩

end Go.Proofs.YtjidhmklfkkckaaDoor.X
