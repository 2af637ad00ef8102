-- Written by xprint.py, a program of this session's, over the kit's print of the translation. Not trusted: Lean checks it.
import Derived.Test.YtjidhmklfkkckaaDoorXx0
import Derived.Test.YtjidhmklfkkckaaDoorXx3
namespace Go.Proofs.YtjidhmklfkkckaaDoor.X
open Go.RowKit Go.Proofs.YtjidhmklfkkckaaDoorW.PrintWords Go.Proofs.YtjidhmklfkkckaaDoorW.PrintLast Go.Proofs.YtjidhmklfkkckaaDoorW.PrintMore
attribute [local go_sem] max2_int min2_int max_two min_two max_three min_three max_four min_four   -- for this text's walks alone
set_option linter.unusedVariables false
set_option linter.unusedSimpArgs false

/-! ### orchestratorref01_unsigned: function 22 -/
mutual
def orchestratorref01_unsigned.j0 : Nat → ByteArray → Int → Bool → Option (Int × Int)
  | 0, _, _, _ => none
  | k + 1, x0, x4, x27 => if x27 = true then (some (0, 2)) else (if 0 ≤ x4 then (if x4 ≤ (x0.size : Int) then ((orchestratorref01_number.f k (x0.extract 0 (x4 : Int).toNat)).bind fun t141 => (if (x0.extract (x4 : Int).toNat x0.size).toList = ([109] : List UInt8) then (if t141 > 1000000000000000 then (some (0, 5)) else (some (t141, 0))) else (if ((x0.extract (x4 : Int).toNat x0.size).size : Int) > 0 then (if 0 < ((x0.extract (x4 : Int).toNat x0.size).size : Int) then (orchestratorref01_unsigned.j1 k t141 (x0.extract (x4 : Int).toNat x0.size) 0 ((bt (x0.extract (x4 : Int).toNat x0.size) 0) == 46)) else (none)) else (orchestratorref01_unsigned.j1 k t141 (x0.extract (x4 : Int).toNat x0.size) 0 false)))) else (none)) else (none))
def orchestratorref01_unsigned.j1 : Nat → Int → ByteArray → Int → Bool → Option (Int × Int)
  | 0, _, _, _, _ => none
  | k + 1, x5, x6, x7, x47 => if x47 = true then (if 1 ≤ (x6.size : Int) then ((orchestratorref01_digits.f k (x6.extract 1 x6.size)).bind fun t142 => (if t142 < 1 then (some (0, 2)) else (if t142 > 3 then (some (0, 2)) else (if 1 ≤ (wrap64 (1 + t142)) then (if (wrap64 (1 + t142)) ≤ (x6.size : Int) then (if (x6.extract 1 ((wrap64 (1 + t142)) : Int).toNat).size + 2 ≤ 9223372036854775807 then (if 0 ≤ 3 then (if 3 ≤ (((x6.extract 1 ((wrap64 (1 + t142)) : Int).toNat) ++ (⟨#[48, 48]⟩ : ByteArray)).size : Int) then ((orchestratorref01_number.f k (((x6.extract 1 ((wrap64 (1 + t142)) : Int).toNat) ++ (⟨#[48, 48]⟩ : ByteArray)).extract 0 3)).bind fun t143 => (if 0 ≤ (wrap64 (1 + t142)) then (orchestratorref01_unsigned.j2 k x5 (x6.extract ((wrap64 (1 + t142)) : Int).toNat x6.size) t143) else (none))) else (none)) else (none)) else (none)) else (none)) else (none))))) else (none)) else (orchestratorref01_unsigned.j2 k x5 x6 x7)
def orchestratorref01_unsigned.j2 : Nat → Int → ByteArray → Int → Option (Int × Int)
  | 0, _, _, _ => none
  | k + 1, x5, x6, x7 => (orchestratorref01_factor.f x6).bind fun t144 => (if t144 = 0 then (some (0, 2)) else (if x5 > 1000000000000 then (some (0, 5)) else (if (wrap64 ((wrap64 (x5 * 1000)) + x7)) > (wrap64 (Int.tdiv (1000000000000000 : Int) t144)) then (some (0, 5)) else (some (wrap64 ((wrap64 ((wrap64 (x5 * 1000)) + x7)) * t144), 0)))))
end
def orchestratorref01_unsigned.f (k : Nat) (a0 : ByteArray) : Option (Int × Int) := (orchestratorref01_digits.f k a0).bind fun t140 => (if t140 < 1 then (orchestratorref01_unsigned.j0 k a0 t140 true) else (if t140 > 15 then (orchestratorref01_unsigned.j0 k a0 t140 true) else (if t140 > 1 then (if 0 < (a0.size : Int) then (orchestratorref01_unsigned.j0 k a0 t140 ((bt a0 0) == 48)) else (none)) else (orchestratorref01_unsigned.j0 k a0 t140 false))))
theorem orchestratorref01_unsigned.mono_l : ∀ k, (∀ y0 y1 y2, LeO (orchestratorref01_unsigned.j0 k y0 y1 y2) (orchestratorref01_unsigned.j0 (k + 1) y0 y1 y2)) ∧ (∀ y0 y1 y2 y3, LeO (orchestratorref01_unsigned.j1 k y0 y1 y2 y3) (orchestratorref01_unsigned.j1 (k + 1) y0 y1 y2 y3)) ∧ (∀ y0 y1 y2, LeO (orchestratorref01_unsigned.j2 k y0 y1 y2) (orchestratorref01_unsigned.j2 (k + 1) y0 y1 y2))
  | 0 => ⟨fun _ _ _ r h => by simp [orchestratorref01_unsigned.j0] at h, fun _ _ _ _ r h => by simp [orchestratorref01_unsigned.j1] at h, fun _ _ _ r h => by simp [orchestratorref01_unsigned.j2] at h⟩
  | k + 1 => by
    obtain ⟨ih0, ih1, ih2⟩ := orchestratorref01_unsigned.mono_l k
    refine ⟨?_, ?_, ?_⟩
    · intro y0 y1 y2
      unfold orchestratorref01_unsigned.j0
      repeat' first
      | (with_reducible exact ih0 _ _ _)
      | (with_reducible exact ih1 _ _ _ _)
      | (with_reducible exact ih2 _ _ _)
      | (with_reducible exact orchestratorref01_digits.mono _ _)
      | (with_reducible exact orchestratorref01_number.mono _ _)
      | (with_reducible exact LeO.refl _)
      | (with_reducible exact LeO.none _)
      | (with_reducible refine LeO.ite ?_ ?_)
      | (with_reducible refine LeO.bind ?_ (fun _ => ?_))
      | exact ih0 _ _ _
      | exact ih1 _ _ _ _
      | exact ih2 _ _ _
      | exact orchestratorref01_digits.mono _ _
      | exact orchestratorref01_number.mono _ _
      | exact LeO.none _
      | refine LeO.ite ?_ ?_
      | refine LeO.bind ?_ (fun _ => ?_)
    · intro y0 y1 y2 y3
      unfold orchestratorref01_unsigned.j1
      repeat' first
      | (with_reducible exact ih0 _ _ _)
      | (with_reducible exact ih1 _ _ _ _)
      | (with_reducible exact ih2 _ _ _)
      | (with_reducible exact orchestratorref01_digits.mono _ _)
      | (with_reducible exact orchestratorref01_number.mono _ _)
      | (with_reducible exact LeO.refl _)
      | (with_reducible exact LeO.none _)
      | (with_reducible refine LeO.ite ?_ ?_)
      | (with_reducible refine LeO.bind ?_ (fun _ => ?_))
      | exact ih0 _ _ _
      | exact ih1 _ _ _ _
      | exact ih2 _ _ _
      | exact orchestratorref01_digits.mono _ _
      | exact orchestratorref01_number.mono _ _
      | exact LeO.none _
      | refine LeO.ite ?_ ?_
      | refine LeO.bind ?_ (fun _ => ?_)
    · intro y0 y1 y2
      unfold orchestratorref01_unsigned.j2
      repeat' first
      | (with_reducible exact ih0 _ _ _)
      | (with_reducible exact ih1 _ _ _ _)
      | (with_reducible exact ih2 _ _ _)
      | (with_reducible exact orchestratorref01_digits.mono _ _)
      | (with_reducible exact orchestratorref01_number.mono _ _)
      | (with_reducible exact LeO.refl _)
      | (with_reducible exact LeO.none _)
      | (with_reducible refine LeO.ite ?_ ?_)
      | (with_reducible refine LeO.bind ?_ (fun _ => ?_))
      | exact ih0 _ _ _
      | exact ih1 _ _ _ _
      | exact ih2 _ _ _
      | exact orchestratorref01_digits.mono _ _
      | exact orchestratorref01_number.mono _ _
      | exact LeO.none _
      | refine LeO.ite ?_ ?_
      | refine LeO.bind ?_ (fun _ => ?_)
theorem orchestratorref01_unsigned.mono : ∀ a0 k, LeO (orchestratorref01_unsigned.f k a0) (orchestratorref01_unsigned.f (k + 1) a0) := by
  intro a0 k
  obtain ⟨ih0, ih1, ih2⟩ := orchestratorref01_unsigned.mono_l k
  unfold orchestratorref01_unsigned.f
  repeat' first
      | (with_reducible exact ih0 _ _ _)
      | (with_reducible exact ih1 _ _ _ _)
      | (with_reducible exact ih2 _ _ _)
      | (with_reducible exact orchestratorref01_digits.mono _ _)
      | (with_reducible exact orchestratorref01_number.mono _ _)
      | (with_reducible exact LeO.refl _)
      | (with_reducible exact LeO.none _)
      | (with_reducible refine LeO.ite ?_ ?_)
      | (with_reducible refine LeO.bind ?_ (fun _ => ?_))
      | exact ih0 _ _ _
      | exact ih1 _ _ _ _
      | exact ih2 _ _ _
      | exact orchestratorref01_digits.mono _ _
      | exact orchestratorref01_number.mono _ _
      | exact LeO.none _
      | refine LeO.ite ?_ ?_
      | refine LeO.bind ?_ (fun _ => ?_)
set_option maxHeartbeats 8000000 in
set_option maxRecDepth 100000 in
theorem orchestratorref01_unsigned.calls (k : Nat) (a0 : ByteArray) (r1 : Int) (r2 : Int) (w : World) (h : orchestratorref01_unsigned.f k a0 = some (r1, r2)) :
    Calls Tryd.prog 22 #[.string a0] w fun e w' => e = .returned (.tuple #[.int .i64 r1, .int .i64 r2]) ∧ Drawn0 w w' := by
  have H : ((orchestratorref01_digits.f k a0).bind fun t140 => (if t140 < 1 then (orchestratorref01_unsigned.j0 k a0 t140 true) else (if t140 > 15 then (orchestratorref01_unsigned.j0 k a0 t140 true) else (if t140 > 1 then (if 0 < (a0.size : Int) then (orchestratorref01_unsigned.j0 k a0 t140 ((bt a0 0) == 48)) else (none)) else (orchestratorref01_unsigned.j0 k a0 t140 false))))) = some (r1, r2) := h
  clear h
  replace H := Option.bind_eq_some_iff.mp H
  obtain ⟨t140, A20, H⟩ := H
  replace H : (if t140 < 1 then (orchestratorref01_unsigned.j0 k a0 t140 true) else (if t140 > 15 then (orchestratorref01_unsigned.j0 k a0 t140 true) else (if t140 > 1 then (if 0 < (a0.size : Int) then (orchestratorref01_unsigned.j0 k a0 t140 ((bt a0 0) == 48)) else (none)) else (orchestratorref01_unsigned.j0 k a0 t140 false)))) = some (r1, r2) := H
  have A2 := Aside0.mk A20
  clear A20
  have HC3 := Aside0.mk H
  clear H
  go_enter Tryd.func22, Tryd.ntmps22
  go_upto_region 2 with (first | (go_at_call 30; (with_reducible refine (orchestratorref01_digits.calls k a0 t140 _ A2.out).mono ?_); rintro e w' ⟨rfl, ⟨nd, rfl⟩⟩; (try first | exact ⟨rfl, _, World.drewN_drewN _ _ _⟩ | exact ⟨rfl, _, Eq.trans (World.drewN_drewN _ _ _) (congrArg (World.drewN _) (Nat.add_assoc _ _ _))⟩)))
  repeat (go_quiet (first | (go_at_call 30; (with_reducible refine (orchestratorref01_digits.calls k a0 t140 _ A2.out).mono ?_); rintro e w' ⟨rfl, ⟨nd, rfl⟩⟩; (try first | exact ⟨rfl, _, World.drewN_drewN _ _ _⟩ | exact ⟨rfl, _, Eq.trans (World.drewN_drewN _ _ _) (congrArg (World.drewN _) (Nat.add_assoc _ _ _))⟩))); go_upto_region 2 with (first | (go_at_call 30; (with_reducible refine (orchestratorref01_digits.calls k a0 t140 _ A2.out).mono ?_); rintro e w' ⟨rfl, ⟨nd, rfl⟩⟩; (try first | exact ⟨rfl, _, World.drewN_drewN _ _ _⟩ | exact ⟨rfl, _, Eq.trans (World.drewN_drewN _ _ _) (congrArg (World.drewN _) (Nat.add_assoc _ _ _))⟩))))
  (try simp only [Act.put, List.setIfInBounds_toArray, List.set_cons_zero, List.set_cons_succ])
  go_cut [27] (fun v27 wc => ∃ (kq : Nat) (x27_2 : Bool), v27 = .bool x27_2 ∧ Aside0 (orchestratorref01_unsigned.j0 kq a0 t140 x27_2 = some (r1, r2)) ∧ Aside0 (kq ≤ k) ∧ Drawn0 w wc)
  case first =>
    have H := HC3.out
    clear HC3
    by_cases c4 : t140 < 1
    · rw [if_pos c4] at H
      have c4b0 : decide (t140 < 1) = true := decide_eq_true c4
      clear c4
      (first | rw [c4b0] | (simp only [i64_w, i32_w]; rw [c4b0]) | skip)
      have H' := Aside0.mk H
      clear H
      go_wp2
      repeat (go_quiet (fail); try go_wp2)
      go_meet
      case rel => exact ⟨_, (true), (by first | rfl | (simp; done) | (simp [*]; done)), H', ⟨by first | omega | exact Nat.le_refl _⟩, by repeat (first | exact Drawn0.refl _ | apply Drawn0.step)⟩
    · rw [if_neg c4] at H
      have c4b0 : decide (t140 < 1) = false := decide_eq_false c4
      clear c4
      (first | rw [c4b0] | (simp only [i64_w, i32_w]; rw [c4b0]) | skip)
      by_cases c5 : t140 > 15
      · rw [if_pos c5] at H
        have c5b0 : decide (15 < t140) = true := decide_eq_true c5
        clear c5
        have H' := Aside0.mk H
        clear H
        go_wp2
        repeat (go_quiet (fail); try go_wp2)
        go_meet
        case rel => exact ⟨_, (true), (by first | rfl | (simp; done) | (simp [*]; done)), H', ⟨by first | omega | exact Nat.le_refl _⟩, by repeat (first | exact Drawn0.refl _ | apply Drawn0.step)⟩
      · rw [if_neg c5] at H
        have c5b0 : decide (15 < t140) = false := decide_eq_false c5
        clear c5
        by_cases c6 : t140 > 1
        · rw [if_pos c6] at H
          have c6b0 : decide (1 < t140) = true := decide_eq_true c6
          clear c6
          by_cases c7 : 0 < (a0.size : Int)
          · rw [if_pos c7] at H
            have c7b0 : decide (0 < (a0.size : Int)) = true := decide_eq_true c7
            have c7b1 : decide (0 < a0.size) = true := decide_eq_true (by omega)
            clear c7
            have H' := Aside0.mk H
            clear H
            have p8 : 0 ≤ (0 : Int) := (by omega)
            have q8 : 0 < a0.size := (by have : (0 : Int) < (a0.size : Int) := of_decide_eq_true (by first | (with_reducible assumption) | assumption); omega)
            have hx8 : ∀ h : 0 < a0.size, ((a0[0]'h).toNat : Int) = bt a0 0 := bt_at a0 0
            clear p8
            have qi8 : (0 < (a0.size : Int)) = True := eq_true (of_decide_eq_true (by first | (with_reducible assumption) | assumption))
            replace q8 := eq_true q8
            go_wp2
            repeat (go_quiet (fail); try go_wp2)
            go_meet
            case rel => exact ⟨_, (((bt a0 0) == 48)), (by first | rfl | (simp; done) | (simp [*]; done)), H', ⟨by first | omega | exact Nat.le_refl _⟩, by repeat (first | exact Drawn0.refl _ | apply Drawn0.step)⟩
          · rw [if_neg c7] at H
            exact absurd H (by simp)
        · rw [if_neg c6] at H
          have c6b0 : decide (1 < t140) = false := decide_eq_false c6
          clear c6
          have H' := Aside0.mk H
          clear H
          go_wp2
          repeat (go_quiet (fail); try go_wp2)
          go_meet
          case rel => exact ⟨_, (false), (by first | rfl | (simp; done) | (simp [*]; done)), H', ⟨by first | omega | exact Nat.le_refl _⟩, by repeat (first | exact Drawn0.refl _ | apply Drawn0.step)⟩
  case rest =>
    clear HC3
    try clear c2
    try clear p2
    try clear c4
    try clear c4b0
    try clear c5
    try clear c5b0
    try clear c6
    try clear c6b0
    try clear c7
    try clear c7b0
    try clear c7b1
    try clear p8
    try clear q8
    try clear hx8
    try clear qi8
    try clear p8
    try clear q8
    obtain ⟨kq, x27_2, rfl, HA, HJ2, ⟨mc2, rfl⟩⟩ := hcut
    cases kq with
    | zero => exact absurd HA.out (by simp [orchestratorref01_unsigned.j0])
    | succ kj2 =>
      have H := HA.out
      clear HA
      simp only [orchestratorref01_unsigned.j0] at H
      by_cases c9 : x27_2 = true
      · subst c9
        have H1 : (some (0, 2)) = some (r1, r2) := by rw [if_pos rfl] at H; exact H
        clear H
        have H := H1
        clear H1
        simp only [Option.some.injEq, Prod.mk.injEq] at H
        obtain ⟨rfl, rfl⟩ := H
        go_wp2
        repeat (go_quiet (fail); try go_wp2)
        go_ret2
        exact ⟨by first | rfl | (simp; done) | (simp [*]; done), by repeat (first | exact Drawn0.refl _ | apply Drawn0.step)⟩
      · replace c9 := Bool.eq_false_iff.mpr c9
        subst c9
        have H1 : (if 0 ≤ t140 then (if t140 ≤ (a0.size : Int) then ((orchestratorref01_number.f kj2 (a0.extract 0 (t140 : Int).toNat)).bind fun t141 => (if (a0.extract (t140 : Int).toNat a0.size).toList = ([109] : List UInt8) then (if t141 > 1000000000000000 then (some (0, 5)) else (some (t141, 0))) else (if ((a0.extract (t140 : Int).toNat a0.size).size : Int) > 0 then (if 0 < ((a0.extract (t140 : Int).toNat a0.size).size : Int) then (orchestratorref01_unsigned.j1 kj2 t141 (a0.extract (t140 : Int).toNat a0.size) 0 ((bt (a0.extract (t140 : Int).toNat a0.size) 0) == 46)) else (none)) else (orchestratorref01_unsigned.j1 kj2 t141 (a0.extract (t140 : Int).toNat a0.size) 0 false)))) else (none)) else (none)) = some (r1, r2) := by rw [if_neg (show ¬ (false = true) by decide)] at H; exact H
        clear H
        have H := H1
        clear H1
        by_cases c10 : 0 ≤ t140
        · rw [if_pos c10] at H
          have c10b0 := eq_true c10
          have c10b1 : decide (0 ≤ t140) = true := decide_eq_true c10
          clear c10
          by_cases c11 : t140 ≤ (a0.size : Int)
          · rw [if_pos c11] at H
            have c11b0 := eq_true c11
            have c11b1 : decide (t140 ≤ (a0.size : Int)) = true := decide_eq_true c11
            clear c11
            obtain ⟨sx12, hsx12⟩ : ∃ s_ : ByteArray, (a0.extract 0 (t140 : Int).toNat) = s_ := ⟨_, rfl⟩
            replace H : ((orchestratorref01_number.f kj2 sx12).bind fun t141 => (if (a0.extract (t140 : Int).toNat a0.size).toList = ([109] : List UInt8) then (if t141 > 1000000000000000 then (some (0, 5)) else (some (t141, 0))) else (if ((a0.extract (t140 : Int).toNat a0.size).size : Int) > 0 then (if 0 < ((a0.extract (t140 : Int).toNat a0.size).size : Int) then (orchestratorref01_unsigned.j1 kj2 t141 (a0.extract (t140 : Int).toNat a0.size) 0 ((bt (a0.extract (t140 : Int).toNat a0.size) 0) == 46)) else (none)) else (orchestratorref01_unsigned.j1 kj2 t141 (a0.extract (t140 : Int).toNat a0.size) 0 false)))) = some (r1, r2) := by first | (rw [hsx12] at H; exact H) | (simp only [hsx12] at H ⊢; exact H) | exact H
            replace H := Option.bind_eq_some_iff.mp H
            obtain ⟨t141, A130, H⟩ := H
            replace H : (if (a0.extract (t140 : Int).toNat a0.size).toList = ([109] : List UInt8) then (if t141 > 1000000000000000 then (some (0, 5)) else (some (t141, 0))) else (if ((a0.extract (t140 : Int).toNat a0.size).size : Int) > 0 then (if 0 < ((a0.extract (t140 : Int).toNat a0.size).size : Int) then (orchestratorref01_unsigned.j1 kj2 t141 (a0.extract (t140 : Int).toNat a0.size) 0 ((bt (a0.extract (t140 : Int).toNat a0.size) 0) == 46)) else (none)) else (orchestratorref01_unsigned.j1 kj2 t141 (a0.extract (t140 : Int).toNat a0.size) 0 false))) = some (r1, r2) := H
            have A13 := Aside0.mk A130
            clear A130
            have c14b0 := eq_true (of_decide_eq_true (by first | (with_reducible assumption) | assumption) : 0 ≤ t140)
            have c15b0 := eq_true (of_decide_eq_true (by first | (with_reducible assumption) | assumption) : t140 ≤ (a0.size : Int))
            obtain ⟨sx16, hsx16⟩ : ∃ s_ : ByteArray, (a0.extract (t140 : Int).toNat a0.size) = s_ := ⟨_, rfl⟩
            replace H : (if sx16.toList = ([109] : List UInt8) then (if t141 > 1000000000000000 then (some (0, 5)) else (some (t141, 0))) else (if (sx16.size : Int) > 0 then (if 0 < (sx16.size : Int) then (orchestratorref01_unsigned.j1 kj2 t141 sx16 0 ((bt sx16 0) == 46)) else (none)) else (orchestratorref01_unsigned.j1 kj2 t141 sx16 0 false))) = some (r1, r2) := by first | (rw [hsx16] at H; exact H) | (simp only [hsx16] at H ⊢; exact H) | exact H
            (try rw [hsx16] at A13)
            by_cases c17 : sx16.toList = ([109] : List UInt8)
            · rw [if_pos c17] at H
              have c17b0 : (sx16.toList == ([109] : List UInt8)) = true := beq_iff_eq.mpr c17
              have c17b1 : (sx16.toList != ([109] : List UInt8)) = false := bne_eq_false_iff_eq.mpr c17
              clear c17
              by_cases c18 : t141 > 1000000000000000
              · rw [if_pos c18] at H
                have c18b0 : decide (1000000000000000 < t141) = true := decide_eq_true c18
                clear c18
                simp only [Option.some.injEq, Prod.mk.injEq] at H
                obtain ⟨rfl, rfl⟩ := H
                go_wp2_with (first | (go_at_call 31; (with_reducible refine (orchestratorref01_number.calls kj2 sx12 t141 _ A13.out).mono ?_); rintro e w' ⟨rfl, ⟨nd, rfl⟩⟩; (try first | exact ⟨rfl, _, World.drewN_drewN _ _ _⟩ | exact ⟨rfl, _, Eq.trans (World.drewN_drewN _ _ _) (congrArg (World.drewN _) (Nat.add_assoc _ _ _))⟩)))
                repeat (go_quiet (first | (go_at_call 31; (with_reducible refine (orchestratorref01_number.calls kj2 sx12 t141 _ A13.out).mono ?_); rintro e w' ⟨rfl, ⟨nd, rfl⟩⟩; (try first | exact ⟨rfl, _, World.drewN_drewN _ _ _⟩ | exact ⟨rfl, _, Eq.trans (World.drewN_drewN _ _ _) (congrArg (World.drewN _) (Nat.add_assoc _ _ _))⟩))); try go_wp2_with (first | (go_at_call 31; (with_reducible refine (orchestratorref01_number.calls kj2 sx12 t141 _ A13.out).mono ?_); rintro e w' ⟨rfl, ⟨nd, rfl⟩⟩; (try first | exact ⟨rfl, _, World.drewN_drewN _ _ _⟩ | exact ⟨rfl, _, Eq.trans (World.drewN_drewN _ _ _) (congrArg (World.drewN _) (Nat.add_assoc _ _ _))⟩))))
                go_ret2
                exact ⟨by first | rfl | (simp; done) | (simp only [← hsx12, ← hsx16] <;> (first | rfl | simp)) | (simp [*]; done), by repeat (first | exact Drawn0.refl _ | apply Drawn0.step)⟩
              · rw [if_neg c18] at H
                have c18b0 : decide (1000000000000000 < t141) = false := decide_eq_false c18
                clear c18
                simp only [Option.some.injEq, Prod.mk.injEq] at H
                obtain ⟨rfl, rfl⟩ := H
                go_wp2_with (first | (go_at_call 31; (with_reducible refine (orchestratorref01_number.calls kj2 sx12 t141 _ A13.out).mono ?_); rintro e w' ⟨rfl, ⟨nd, rfl⟩⟩; (try first | exact ⟨rfl, _, World.drewN_drewN _ _ _⟩ | exact ⟨rfl, _, Eq.trans (World.drewN_drewN _ _ _) (congrArg (World.drewN _) (Nat.add_assoc _ _ _))⟩)))
                repeat (go_quiet (first | (go_at_call 31; (with_reducible refine (orchestratorref01_number.calls kj2 sx12 t141 _ A13.out).mono ?_); rintro e w' ⟨rfl, ⟨nd, rfl⟩⟩; (try first | exact ⟨rfl, _, World.drewN_drewN _ _ _⟩ | exact ⟨rfl, _, Eq.trans (World.drewN_drewN _ _ _) (congrArg (World.drewN _) (Nat.add_assoc _ _ _))⟩))); try go_wp2_with (first | (go_at_call 31; (with_reducible refine (orchestratorref01_number.calls kj2 sx12 t141 _ A13.out).mono ?_); rintro e w' ⟨rfl, ⟨nd, rfl⟩⟩; (try first | exact ⟨rfl, _, World.drewN_drewN _ _ _⟩ | exact ⟨rfl, _, Eq.trans (World.drewN_drewN _ _ _) (congrArg (World.drewN _) (Nat.add_assoc _ _ _))⟩))))
                go_ret2
                exact ⟨by first | rfl | (simp; done) | (simp only [← hsx12, ← hsx16] <;> (first | rfl | simp)) | (simp [*]; done), by repeat (first | exact Drawn0.refl _ | apply Drawn0.step)⟩
            · rw [if_neg c17] at H
              have c17b0 : (sx16.toList == ([109] : List UInt8)) = false := beq_eq_false_iff_ne.mpr c17
              have c17b1 : (sx16.toList != ([109] : List UInt8)) = true := bne_iff_ne.mpr c17
              have HC19 := Aside0.mk H
              clear H
              go_upto_region 10 with (first | (go_at_call 31; (with_reducible refine (orchestratorref01_number.calls kj2 sx12 t141 _ A13.out).mono ?_); rintro e w' ⟨rfl, ⟨nd, rfl⟩⟩; (try first | exact ⟨rfl, _, World.drewN_drewN _ _ _⟩ | exact ⟨rfl, _, Eq.trans (World.drewN_drewN _ _ _) (congrArg (World.drewN _) (Nat.add_assoc _ _ _))⟩)))
              repeat (go_quiet (first | (go_at_call 31; (with_reducible refine (orchestratorref01_number.calls kj2 sx12 t141 _ A13.out).mono ?_); rintro e w' ⟨rfl, ⟨nd, rfl⟩⟩; (try first | exact ⟨rfl, _, World.drewN_drewN _ _ _⟩ | exact ⟨rfl, _, Eq.trans (World.drewN_drewN _ _ _) (congrArg (World.drewN _) (Nat.add_assoc _ _ _))⟩))); go_upto_region 10 with (first | (go_at_call 31; (with_reducible refine (orchestratorref01_number.calls kj2 sx12 t141 _ A13.out).mono ?_); rintro e w' ⟨rfl, ⟨nd, rfl⟩⟩; (try first | exact ⟨rfl, _, World.drewN_drewN _ _ _⟩ | exact ⟨rfl, _, Eq.trans (World.drewN_drewN _ _ _) (congrArg (World.drewN _) (Nat.add_assoc _ _ _))⟩))))
              (try simp only [Act.put, List.setIfInBounds_toArray, List.set_cons_zero, List.set_cons_succ])
              go_cut [47] (fun v47 wc => ∃ (kq : Nat) (x47_18 : Bool), v47 = .bool x47_18 ∧ Aside0 (orchestratorref01_unsigned.j1 kq t141 sx16 0 x47_18 = some (r1, r2)) ∧ Aside0 (kq ≤ kj2) ∧ Drawn0 w wc)
              case first =>
                have H := HC19.out
                clear HC19
                by_cases c20 : (sx16.size : Int) > 0
                · rw [if_pos c20] at H
                  have c20b0 : decide (0 < (sx16.size : Int)) = true := decide_eq_true c20
                  have c20b1 : decide (0 < sx16.size) = true := decide_eq_true (by omega)
                  clear c20
                  (first | rw [c20b0] | (simp only [i64_w, i32_w]; rw [c20b0]) | skip)
                  by_cases c21 : 0 < (sx16.size : Int)
                  · rw [if_pos c21] at H
                    have c21b0 : decide (0 < (sx16.size : Int)) = true := decide_eq_true c21
                    have c21b1 : decide (0 < sx16.size) = true := decide_eq_true (by omega)
                    clear c21
                    have H' := Aside0.mk H
                    clear H
                    have p22 : 0 ≤ (0 : Int) := (by omega)
                    have q22 : 0 < sx16.size := (by have : (0 : Int) < (sx16.size : Int) := of_decide_eq_true (by first | (with_reducible assumption) | assumption); omega)
                    have hx22 : ∀ h : 0 < sx16.size, ((sx16[0]'h).toNat : Int) = bt sx16 0 := bt_at sx16 0
                    clear p22
                    have qi22 : (0 < (sx16.size : Int)) = True := eq_true (of_decide_eq_true (by first | (with_reducible assumption) | assumption))
                    replace q22 := eq_true q22
                    go_wp2
                    repeat (go_quiet (fail); try go_wp2)
                    go_meet
                    case rel => exact ⟨_, (((bt sx16 0) == 46)), (by first | rfl | (simp; done) | (simp only [← hsx16] <;> (first | rfl | simp)) | (simp [*]; done)), H', ⟨by have := HJ2.out; first | omega | exact Nat.le_refl _⟩, by repeat (first | exact Drawn0.refl _ | apply Drawn0.step)⟩
                  · rw [if_neg c21] at H
                    exact absurd H (by simp)
                · rw [if_neg c20] at H
                  have c20b0 : decide (0 < (sx16.size : Int)) = false := decide_eq_false c20
                  have c20b1 : decide (0 < sx16.size) = false := decide_eq_false (by omega)
                  clear c20
                  (first | rw [c20b0] | (simp only [i64_w, i32_w]; rw [c20b0]) | skip)
                  have H' := Aside0.mk H
                  clear H
                  go_wp2
                  repeat (go_quiet (fail); try go_wp2)
                  go_meet
                  case rel => exact ⟨_, (false), (by first | rfl | (simp; done) | (simp [*]; done)), H', ⟨by have := HJ2.out; first | omega | exact Nat.le_refl _⟩, by repeat (first | exact Drawn0.refl _ | apply Drawn0.step)⟩
              case rest =>
                clear HC19
                try clear c1
                try clear c2
                try clear p2
                try clear q2
                try clear hx2
                try clear qi2
                try clear c4
                try clear c4b0
                try clear c5
                try clear c5b0
                try clear c6
                try clear c6b0
                try clear c7
                try clear c7b0
                try clear c7b1
                try clear p8
                try clear q8
                try clear hx8
                try clear qi8
                try clear c9
                try clear c10
                try clear c10b0
                try clear c10b1
                try clear c11
                try clear c11b0
                try clear c11b1
                try clear c14
                try clear c14b0
                try clear c15
                try clear c15b0
                try clear c17
                try clear c17b0
                try clear c17b1
                try clear c18
                try clear c18b0
                try clear c20
                try clear c20b0
                try clear c20b1
                try clear c21
                try clear c21b0
                try clear c21b1
                try clear c22
                try clear p22
                try clear q22
                try clear hx22
                try clear qi22
                try clear p2
                try clear p22
                try clear p8
                try clear q22
                try clear q8
                obtain ⟨kq, x47_18, rfl, HA, HJ18, ⟨mc18, rfl⟩⟩ := hcut
                cases kq with
                | zero => exact absurd HA.out (by simp [orchestratorref01_unsigned.j1])
                | succ kj18 =>
                  have H := HA.out
                  clear HA
                  simp only [orchestratorref01_unsigned.j1] at H
                  have HC23 := Aside0.mk H
                  clear H
                  go_upto_if 47 with (fail)
                  repeat (go_quiet (fail); go_upto_if 47 with (fail))
                  go_cut [6, 7] (fun v6 v7 wc => ∃ (kq : Nat) (x6_22 : ByteArray) (x7_22 : Int), v6 = .string x6_22 ∧ v7 = .int .i64 x7_22 ∧ Aside0 (orchestratorref01_unsigned.j2 kq t141 x6_22 x7_22 = some (r1, r2)) ∧ Aside0 (kq ≤ kj18) ∧ Drawn0 w wc)
                  case first =>
                    have H := HC23.out
                    clear HC23
                    by_cases c24 : x47_18 = true
                    · subst c24
                      have H1 : (if 1 ≤ (sx16.size : Int) then ((orchestratorref01_digits.f kj18 (sx16.extract 1 sx16.size)).bind fun t142 => (if t142 < 1 then (some (0, 2)) else (if t142 > 3 then (some (0, 2)) else (if 1 ≤ (wrap64 (1 + t142)) then (if (wrap64 (1 + t142)) ≤ (sx16.size : Int) then (if (sx16.extract 1 ((wrap64 (1 + t142)) : Int).toNat).size + 2 ≤ 9223372036854775807 then (if 0 ≤ 3 then (if 3 ≤ (((sx16.extract 1 ((wrap64 (1 + t142)) : Int).toNat) ++ (⟨#[48, 48]⟩ : ByteArray)).size : Int) then ((orchestratorref01_number.f kj18 (((sx16.extract 1 ((wrap64 (1 + t142)) : Int).toNat) ++ (⟨#[48, 48]⟩ : ByteArray)).extract 0 3)).bind fun t143 => (if 0 ≤ (wrap64 (1 + t142)) then (orchestratorref01_unsigned.j2 kj18 t141 (sx16.extract ((wrap64 (1 + t142)) : Int).toNat sx16.size) t143) else (none))) else (none)) else (none)) else (none)) else (none)) else (none))))) else (none)) = some (r1, r2) := by rw [if_pos rfl] at H; exact H
                      clear H
                      have H := H1
                      clear H1
                      by_cases c25 : 1 ≤ (sx16.size : Int)
                      · rw [if_pos c25] at H
                        have c25b0 := eq_true c25
                        have c25b1 : decide (1 ≤ (sx16.size : Int)) = true := decide_eq_true c25
                        clear c25
                        obtain ⟨sx26, hsx26⟩ : ∃ s_ : ByteArray, (sx16.extract 1 sx16.size) = s_ := ⟨_, rfl⟩
                        replace H : ((orchestratorref01_digits.f kj18 sx26).bind fun t142 => (if t142 < 1 then (some (0, 2)) else (if t142 > 3 then (some (0, 2)) else (if 1 ≤ (wrap64 (1 + t142)) then (if (wrap64 (1 + t142)) ≤ (sx16.size : Int) then (if (sx16.extract 1 ((wrap64 (1 + t142)) : Int).toNat).size + 2 ≤ 9223372036854775807 then (if 0 ≤ 3 then (if 3 ≤ (((sx16.extract 1 ((wrap64 (1 + t142)) : Int).toNat) ++ (⟨#[48, 48]⟩ : ByteArray)).size : Int) then ((orchestratorref01_number.f kj18 (((sx16.extract 1 ((wrap64 (1 + t142)) : Int).toNat) ++ (⟨#[48, 48]⟩ : ByteArray)).extract 0 3)).bind fun t143 => (if 0 ≤ (wrap64 (1 + t142)) then (orchestratorref01_unsigned.j2 kj18 t141 (sx16.extract ((wrap64 (1 + t142)) : Int).toNat sx16.size) t143) else (none))) else (none)) else (none)) else (none)) else (none)) else (none))))) = some (r1, r2) := by first | (rw [hsx26] at H; exact H) | (simp only [hsx26] at H ⊢; exact H) | exact H
                        replace H := Option.bind_eq_some_iff.mp H
                        obtain ⟨t142, A270, H⟩ := H
                        replace H : (if t142 < 1 then (some (0, 2)) else (if t142 > 3 then (some (0, 2)) else (if 1 ≤ (wrap64 (1 + t142)) then (if (wrap64 (1 + t142)) ≤ (sx16.size : Int) then (if (sx16.extract 1 ((wrap64 (1 + t142)) : Int).toNat).size + 2 ≤ 9223372036854775807 then (if 0 ≤ 3 then (if 3 ≤ (((sx16.extract 1 ((wrap64 (1 + t142)) : Int).toNat) ++ (⟨#[48, 48]⟩ : ByteArray)).size : Int) then ((orchestratorref01_number.f kj18 (((sx16.extract 1 ((wrap64 (1 + t142)) : Int).toNat) ++ (⟨#[48, 48]⟩ : ByteArray)).extract 0 3)).bind fun t143 => (if 0 ≤ (wrap64 (1 + t142)) then (orchestratorref01_unsigned.j2 kj18 t141 (sx16.extract ((wrap64 (1 + t142)) : Int).toNat sx16.size) t143) else (none))) else (none)) else (none)) else (none)) else (none)) else (none)))) = some (r1, r2) := H
                        have A27 := Aside0.mk A270
                        clear A270
                        by_cases c28 : t142 < 1
                        · rw [if_pos c28] at H
                          have c28b0 : decide (t142 < 1) = true := decide_eq_true c28
                          clear c28
                          (first | rw [c28b0] | (simp only [i64_w, i32_w]; rw [c28b0]) | skip)
                          simp only [Option.some.injEq, Prod.mk.injEq] at H
                          obtain ⟨rfl, rfl⟩ := H
                          go_wp2_with (first | (go_at_call 30; (with_reducible refine (orchestratorref01_digits.calls kj18 sx26 t142 _ A27.out).mono ?_); rintro e w' ⟨rfl, ⟨nd, rfl⟩⟩; (try first | exact ⟨rfl, _, World.drewN_drewN _ _ _⟩ | exact ⟨rfl, _, Eq.trans (World.drewN_drewN _ _ _) (congrArg (World.drewN _) (Nat.add_assoc _ _ _))⟩)))
                          repeat (go_quiet (first | (go_at_call 30; (with_reducible refine (orchestratorref01_digits.calls kj18 sx26 t142 _ A27.out).mono ?_); rintro e w' ⟨rfl, ⟨nd, rfl⟩⟩; (try first | exact ⟨rfl, _, World.drewN_drewN _ _ _⟩ | exact ⟨rfl, _, Eq.trans (World.drewN_drewN _ _ _) (congrArg (World.drewN _) (Nat.add_assoc _ _ _))⟩))); try go_wp2_with (first | (go_at_call 30; (with_reducible refine (orchestratorref01_digits.calls kj18 sx26 t142 _ A27.out).mono ?_); rintro e w' ⟨rfl, ⟨nd, rfl⟩⟩; (try first | exact ⟨rfl, _, World.drewN_drewN _ _ _⟩ | exact ⟨rfl, _, Eq.trans (World.drewN_drewN _ _ _) (congrArg (World.drewN _) (Nat.add_assoc _ _ _))⟩))))
                          go_ret2
                          exact ⟨by first | rfl | (simp; done) | (simp only [← hsx12, ← hsx16, ← hsx26] <;> (first | rfl | simp)) | (simp [*]; done), by repeat (first | exact Drawn0.refl _ | apply Drawn0.step)⟩
                        · rw [if_neg c28] at H
                          have c28b0 : decide (t142 < 1) = false := decide_eq_false c28
                          clear c28
                          (first | rw [c28b0] | (simp only [i64_w, i32_w]; rw [c28b0]) | skip)
                          by_cases c29 : t142 > 3
                          · rw [if_pos c29] at H
                            have c29b0 : decide (3 < t142) = true := decide_eq_true c29
                            clear c29
                            simp only [Option.some.injEq, Prod.mk.injEq] at H
                            obtain ⟨rfl, rfl⟩ := H
                            go_wp2_with (first | (go_at_call 30; (with_reducible refine (orchestratorref01_digits.calls kj18 sx26 t142 _ A27.out).mono ?_); rintro e w' ⟨rfl, ⟨nd, rfl⟩⟩; (try first | exact ⟨rfl, _, World.drewN_drewN _ _ _⟩ | exact ⟨rfl, _, Eq.trans (World.drewN_drewN _ _ _) (congrArg (World.drewN _) (Nat.add_assoc _ _ _))⟩)))
                            repeat (go_quiet (first | (go_at_call 30; (with_reducible refine (orchestratorref01_digits.calls kj18 sx26 t142 _ A27.out).mono ?_); rintro e w' ⟨rfl, ⟨nd, rfl⟩⟩; (try first | exact ⟨rfl, _, World.drewN_drewN _ _ _⟩ | exact ⟨rfl, _, Eq.trans (World.drewN_drewN _ _ _) (congrArg (World.drewN _) (Nat.add_assoc _ _ _))⟩))); try go_wp2_with (first | (go_at_call 30; (with_reducible refine (orchestratorref01_digits.calls kj18 sx26 t142 _ A27.out).mono ?_); rintro e w' ⟨rfl, ⟨nd, rfl⟩⟩; (try first | exact ⟨rfl, _, World.drewN_drewN _ _ _⟩ | exact ⟨rfl, _, Eq.trans (World.drewN_drewN _ _ _) (congrArg (World.drewN _) (Nat.add_assoc _ _ _))⟩))))
                            go_ret2
                            exact ⟨by first | rfl | (simp; done) | (simp only [← hsx12, ← hsx16, ← hsx26] <;> (first | rfl | simp)) | (simp [*]; done), by repeat (first | exact Drawn0.refl _ | apply Drawn0.step)⟩
                          · rw [if_neg c29] at H
                            have c29b0 : decide (3 < t142) = false := decide_eq_false c29
                            clear c29
                            by_cases c30 : 1 ≤ (wrap64 (1 + t142))
                            · rw [if_pos c30] at H
                              have c30b0 := eq_true c30
                              have c30b1 : decide (1 ≤ (wrap64 (1 + t142))) = true := decide_eq_true c30
                              by_cases c31 : (wrap64 (1 + t142)) ≤ (sx16.size : Int)
                              · rw [if_pos c31] at H
                                have c31b0 := eq_true c31
                                have c31b1 : decide ((wrap64 (1 + t142)) ≤ (sx16.size : Int)) = true := decide_eq_true c31
                                obtain ⟨sx32, hsx32⟩ : ∃ s_ : ByteArray, (sx16.extract 1 ((wrap64 (1 + t142)) : Int).toNat) = s_ := ⟨_, rfl⟩
                                replace H : (if sx32.size + 2 ≤ 9223372036854775807 then (if 0 ≤ 3 then (if 3 ≤ ((sx32 ++ (⟨#[48, 48]⟩ : ByteArray)).size : Int) then ((orchestratorref01_number.f kj18 ((sx32 ++ (⟨#[48, 48]⟩ : ByteArray)).extract 0 3)).bind fun t143 => (if 0 ≤ (wrap64 (1 + t142)) then (orchestratorref01_unsigned.j2 kj18 t141 (sx16.extract ((wrap64 (1 + t142)) : Int).toNat sx16.size) t143) else (none))) else (none)) else (none)) else (none)) = some (r1, r2) := by first | (rw [hsx32] at H; exact H) | (simp only [hsx32] at H ⊢; exact H) | exact H
                                (try rw [hsx32] at A27)
                                by_cases c33 : sx32.size + 2 ≤ 9223372036854775807
                                · rw [if_pos c33] at H
                                  have c33b0 := eq_true c33
                                  have c33b1 : decide (sx32.size + 2 ≤ 9223372036854775807) = true := decide_eq_true c33
                                  try have c33b2 : (9223372036854775807 < sx32.size + 2) = False := eq_false (Nat.not_lt.2 c33)
                                  by_cases c34 : 0 ≤ 3
                                  · rw [if_pos c34] at H
                                    have c34b0 := eq_true c34
                                    have c34b1 : decide (0 ≤ 3) = true := decide_eq_true c34
                                    clear c34
                                    by_cases c35 : 3 ≤ ((sx32 ++ (⟨#[48, 48]⟩ : ByteArray)).size : Int)
                                    · rw [if_pos c35] at H
                                      have c35b0 := eq_true c35
                                      have c35b1 : decide (3 ≤ ((sx32 ++ (⟨#[48, 48]⟩ : ByteArray)).size : Int)) = true := decide_eq_true c35
                                      obtain ⟨sx36, hsx36⟩ : ∃ s_ : ByteArray, ((sx32 ++ (⟨#[48, 48]⟩ : ByteArray)).extract 0 3) = s_ := ⟨_, rfl⟩
                                      replace H : ((orchestratorref01_number.f kj18 sx36).bind fun t143 => (if 0 ≤ (wrap64 (1 + t142)) then (orchestratorref01_unsigned.j2 kj18 t141 (sx16.extract ((wrap64 (1 + t142)) : Int).toNat sx16.size) t143) else (none))) = some (r1, r2) := by first | (rw [hsx36] at H; exact H) | (simp only [hsx36] at H ⊢; exact H) | exact H
                                      (try rw [hsx36] at A27)
                                      replace H := Option.bind_eq_some_iff.mp H
                                      obtain ⟨t143, A370, H⟩ := H
                                      replace H : (if 0 ≤ (wrap64 (1 + t142)) then (orchestratorref01_unsigned.j2 kj18 t141 (sx16.extract ((wrap64 (1 + t142)) : Int).toNat sx16.size) t143) else (none)) = some (r1, r2) := H
                                      have A37 := Aside0.mk A370
                                      clear A370
                                      obtain ⟨ji38, hji38⟩ : ∃ j_ : Int, (wrap64 (1 + t142)) = j_ := ⟨_, rfl⟩
                                      replace H : (if 0 ≤ (ji38) then (orchestratorref01_unsigned.j2 kj18 t141 (sx16.extract ((ji38) : Int).toNat sx16.size) t143) else (none)) = some (r1, r2) := by first | (rw [hji38] at H; exact H) | (simp only [hji38] at H ⊢; exact H)
                                      (try rw [hji38] at c30b0)
                                      (try rw [hji38] at c30b1)
                                      (try rw [hji38] at c30)
                                      (try rw [hji38] at c31b0)
                                      (try rw [hji38] at c31b1)
                                      (try rw [hji38] at c31)
                                      (try rw [hji38] at hsx32)
                                      (try rw [hji38] at A27)
                                      (try rw [hji38] at A37)
                                      have hji38w : (IntKind.i64.wrap (1 + t142)) = ji38 := (i64_w _).trans hji38
                                      by_cases c39 : 0 ≤ (ji38)
                                      · rw [if_pos c39] at H
                                        have c39b0 := eq_true c39
                                        have c39b1 : decide (0 ≤ (ji38)) = true := decide_eq_true c39
                                        clear c39
                                        have c40b0 := eq_true (of_decide_eq_true (by first | (with_reducible assumption) | assumption) : (ji38) ≤ (sx16.size : Int))
                                        obtain ⟨sx41, hsx41⟩ : ∃ s_ : ByteArray, (sx16.extract ((ji38) : Int).toNat sx16.size) = s_ := ⟨_, rfl⟩
                                        replace H : (orchestratorref01_unsigned.j2 kj18 t141 sx41 t143) = some (r1, r2) := by first | (rw [hsx41] at H; exact H) | (simp only [hsx41] at H ⊢; exact H) | exact H
                                        (try rw [hsx41] at A27)
                                        (try rw [hsx41] at A37)
                                        have H' := Aside0.mk H
                                        clear H
                                        go_wp2_with (first | (go_at_call 30; (with_reducible refine (orchestratorref01_digits.calls kj18 sx26 t142 _ A27.out).mono ?_); rintro e w' ⟨rfl, ⟨nd, rfl⟩⟩; (try first | exact ⟨rfl, _, World.drewN_drewN _ _ _⟩ | exact ⟨rfl, _, Eq.trans (World.drewN_drewN _ _ _) (congrArg (World.drewN _) (Nat.add_assoc _ _ _))⟩)) | (go_at_call 31; (with_reducible refine (orchestratorref01_number.calls kj18 sx36 t143 _ A37.out).mono ?_); rintro e w' ⟨rfl, ⟨nd, rfl⟩⟩; (try first | exact ⟨rfl, _, World.drewN_drewN _ _ _⟩ | exact ⟨rfl, _, Eq.trans (World.drewN_drewN _ _ _) (congrArg (World.drewN _) (Nat.add_assoc _ _ _))⟩)))
                                        repeat (go_quiet (first | (go_at_call 30; (with_reducible refine (orchestratorref01_digits.calls kj18 sx26 t142 _ A27.out).mono ?_); rintro e w' ⟨rfl, ⟨nd, rfl⟩⟩; (try first | exact ⟨rfl, _, World.drewN_drewN _ _ _⟩ | exact ⟨rfl, _, Eq.trans (World.drewN_drewN _ _ _) (congrArg (World.drewN _) (Nat.add_assoc _ _ _))⟩)) | (go_at_call 31; (with_reducible refine (orchestratorref01_number.calls kj18 sx36 t143 _ A37.out).mono ?_); rintro e w' ⟨rfl, ⟨nd, rfl⟩⟩; (try first | exact ⟨rfl, _, World.drewN_drewN _ _ _⟩ | exact ⟨rfl, _, Eq.trans (World.drewN_drewN _ _ _) (congrArg (World.drewN _) (Nat.add_assoc _ _ _))⟩))); try go_wp2_with (first | (go_at_call 30; (with_reducible refine (orchestratorref01_digits.calls kj18 sx26 t142 _ A27.out).mono ?_); rintro e w' ⟨rfl, ⟨nd, rfl⟩⟩; (try first | exact ⟨rfl, _, World.drewN_drewN _ _ _⟩ | exact ⟨rfl, _, Eq.trans (World.drewN_drewN _ _ _) (congrArg (World.drewN _) (Nat.add_assoc _ _ _))⟩)) | (go_at_call 31; (with_reducible refine (orchestratorref01_number.calls kj18 sx36 t143 _ A37.out).mono ?_); rintro e w' ⟨rfl, ⟨nd, rfl⟩⟩; (try first | exact ⟨rfl, _, World.drewN_drewN _ _ _⟩ | exact ⟨rfl, _, Eq.trans (World.drewN_drewN _ _ _) (congrArg (World.drewN _) (Nat.add_assoc _ _ _))⟩))))
                                        go_meet
                                        case rel => exact ⟨_, (sx41), (t143), (by first | rfl | (simp; done) | (simp only [← hsx41] <;> (first | rfl | simp)) | (simp [*]; done)), (by first | rfl | (simp; done) | (simp [*]; done)), H', ⟨by have := HJ2.out; have := HJ18.out; first | omega | exact Nat.le_refl _⟩, by repeat (first | exact Drawn0.refl _ | apply Drawn0.step)⟩
                                      · rw [if_neg c39] at H
                                        exact absurd H (by simp)
                                    · rw [if_neg c35] at H
                                      exact absurd H (by simp)
                                  · rw [if_neg c34] at H
                                    exact absurd H (by simp)
                                · rw [if_neg c33] at H
                                  exact absurd H (by simp)
                              · rw [if_neg c31] at H
                                exact absurd H (by simp)
                            · rw [if_neg c30] at H
                              exact absurd H (by simp)
                      · rw [if_neg c25] at H
                        exact absurd H (by simp)
                    · replace c24 := Bool.eq_false_iff.mpr c24
                      subst c24
                      have H1 : (orchestratorref01_unsigned.j2 kj18 t141 sx16 0) = some (r1, r2) := by rw [if_neg (show ¬ (false = true) by decide)] at H; exact H
                      clear H
                      have H := H1
                      clear H1
                      have H' := Aside0.mk H
                      clear H
                      go_wp2
                      repeat (go_quiet (fail); try go_wp2)
                      go_meet
                      case rel => exact ⟨_, (sx16), (0), (by first | rfl | (simp; done) | (simp only [← hsx16] <;> (first | rfl | simp)) | (simp [*]; done)), (by first | rfl | (simp; done) | (simp [*]; done)), H', ⟨by have := HJ2.out; have := HJ18.out; first | omega | exact Nat.le_refl _⟩, by repeat (first | exact Drawn0.refl _ | apply Drawn0.step)⟩
                  case rest =>
                    clear HC23
                    try clear c1
                    try clear c2
                    try clear p2
                    try clear q2
                    try clear hx2
                    try clear qi2
                    try clear c3
                    try clear c4
                    try clear c4b0
                    try clear c5
                    try clear c5b0
                    try clear c6
                    try clear c6b0
                    try clear p6
                    try clear c7
                    try clear c7b0
                    try clear c7b1
                    try clear p8
                    try clear q8
                    try clear hx8
                    try clear qi8
                    try clear c9
                    try clear c10
                    try clear c10b0
                    try clear c10b1
                    try clear c11
                    try clear c11b0
                    try clear c11b1
                    try clear c14
                    try clear c14b0
                    try clear c15
                    try clear c15b0
                    try clear c17
                    try clear c17b0
                    try clear c17b1
                    try clear c18
                    try clear c18b0
                    try clear c20
                    try clear c20b0
                    try clear c20b1
                    try clear c21
                    try clear c21b0
                    try clear c21b1
                    try clear c22
                    try clear p22
                    try clear q22
                    try clear hx22
                    try clear qi22
                    try clear c24
                    try clear c25
                    try clear c25b0
                    try clear c25b1
                    try clear c28
                    try clear c28b0
                    try clear c29
                    try clear c29b0
                    try clear c30
                    try clear c30b0
                    try clear c30b1
                    try clear c31
                    try clear c31b0
                    try clear c31b1
                    try clear c33
                    try clear c33b0
                    try clear c33b1
                    try clear c33b2
                    try clear c34
                    try clear c34b0
                    try clear c34b1
                    try clear c35
                    try clear c35b0
                    try clear c35b1
                    try clear c39
                    try clear c39b0
                    try clear c39b1
                    try clear c40
                    try clear c40b0
                    try clear p2
                    try clear p22
                    try clear p8
                    try clear q2
                    try clear q22
                    try clear q8
                    obtain ⟨kq, x6_22, x7_22, rfl, rfl, HA, HJ22, ⟨mc22, rfl⟩⟩ := hcut
                    cases kq with
                    | zero => exact absurd HA.out (by simp [orchestratorref01_unsigned.j2])
                    | succ kj22 =>
                      have H := HA.out
                      clear HA
                      simp only [orchestratorref01_unsigned.j2] at H
                      replace H := Option.bind_eq_some_iff.mp H
                      obtain ⟨t144, A420, H⟩ := H
                      replace H : (if t144 = 0 then (some (0, 2)) else (if t141 > 1000000000000 then (some (0, 5)) else (if (wrap64 ((wrap64 (t141 * 1000)) + x7_22)) > (wrap64 (Int.tdiv (1000000000000000 : Int) t144)) then (some (0, 5)) else (some (wrap64 ((wrap64 ((wrap64 (t141 * 1000)) + x7_22)) * t144), 0))))) = some (r1, r2) := H
                      have A42 := Aside0.mk A420
                      clear A420
                      by_cases c43 : t144 = 0
                      · rw [if_pos c43] at H
                        have c43b0 : (t144 == 0) = true := beq_iff_eq.mpr c43
                        have c43b1 : (t144 != 0) = false := bne_eq_false_iff_eq.mpr c43
                        clear c43
                        simp only [Option.some.injEq, Prod.mk.injEq] at H
                        obtain ⟨rfl, rfl⟩ := H
                        go_wp2_with (first | (go_at_call 32; (with_reducible refine (orchestratorref01_factor.calls x6_22 t144 _ A42.out).mono ?_); rintro e w' ⟨rfl, ⟨nd, rfl⟩⟩; (try first | exact ⟨rfl, _, World.drewN_drewN _ _ _⟩ | exact ⟨rfl, _, Eq.trans (World.drewN_drewN _ _ _) (congrArg (World.drewN _) (Nat.add_assoc _ _ _))⟩)))
                        repeat (go_quiet (first | (go_at_call 32; (with_reducible refine (orchestratorref01_factor.calls x6_22 t144 _ A42.out).mono ?_); rintro e w' ⟨rfl, ⟨nd, rfl⟩⟩; (try first | exact ⟨rfl, _, World.drewN_drewN _ _ _⟩ | exact ⟨rfl, _, Eq.trans (World.drewN_drewN _ _ _) (congrArg (World.drewN _) (Nat.add_assoc _ _ _))⟩))); try go_wp2_with (first | (go_at_call 32; (with_reducible refine (orchestratorref01_factor.calls x6_22 t144 _ A42.out).mono ?_); rintro e w' ⟨rfl, ⟨nd, rfl⟩⟩; (try first | exact ⟨rfl, _, World.drewN_drewN _ _ _⟩ | exact ⟨rfl, _, Eq.trans (World.drewN_drewN _ _ _) (congrArg (World.drewN _) (Nat.add_assoc _ _ _))⟩))))
                        go_ret2
                        exact ⟨by first | rfl | (simp; done) | (simp only [← hsx12, ← hsx16] <;> (first | rfl | simp)) | (simp [*]; done), by repeat (first | exact Drawn0.refl _ | apply Drawn0.step)⟩
                      · rw [if_neg c43] at H
                        have c43b0 : (t144 == 0) = false := beq_eq_false_iff_ne.mpr c43
                        have c43b1 : (t144 != 0) = true := bne_iff_ne.mpr c43
                        by_cases c44 : t141 > 1000000000000
                        · rw [if_pos c44] at H
                          have c44b0 : decide (1000000000000 < t141) = true := decide_eq_true c44
                          clear c44
                          simp only [Option.some.injEq, Prod.mk.injEq] at H
                          obtain ⟨rfl, rfl⟩ := H
                          go_wp2_with (first | (go_at_call 32; (with_reducible refine (orchestratorref01_factor.calls x6_22 t144 _ A42.out).mono ?_); rintro e w' ⟨rfl, ⟨nd, rfl⟩⟩; (try first | exact ⟨rfl, _, World.drewN_drewN _ _ _⟩ | exact ⟨rfl, _, Eq.trans (World.drewN_drewN _ _ _) (congrArg (World.drewN _) (Nat.add_assoc _ _ _))⟩)))
                          repeat (go_quiet (first | (go_at_call 32; (with_reducible refine (orchestratorref01_factor.calls x6_22 t144 _ A42.out).mono ?_); rintro e w' ⟨rfl, ⟨nd, rfl⟩⟩; (try first | exact ⟨rfl, _, World.drewN_drewN _ _ _⟩ | exact ⟨rfl, _, Eq.trans (World.drewN_drewN _ _ _) (congrArg (World.drewN _) (Nat.add_assoc _ _ _))⟩))); try go_wp2_with (first | (go_at_call 32; (with_reducible refine (orchestratorref01_factor.calls x6_22 t144 _ A42.out).mono ?_); rintro e w' ⟨rfl, ⟨nd, rfl⟩⟩; (try first | exact ⟨rfl, _, World.drewN_drewN _ _ _⟩ | exact ⟨rfl, _, Eq.trans (World.drewN_drewN _ _ _) (congrArg (World.drewN _) (Nat.add_assoc _ _ _))⟩))))
                          go_ret2
                          exact ⟨by first | rfl | (simp; done) | (simp only [← hsx12, ← hsx16] <;> (first | rfl | simp)) | (simp [*]; done), by repeat (first | exact Drawn0.refl _ | apply Drawn0.step)⟩
                        · rw [if_neg c44] at H
                          have c44b0 : decide (1000000000000 < t141) = false := decide_eq_false c44
                          clear c44
                          by_cases c45 : (wrap64 ((wrap64 (t141 * 1000)) + x7_22)) > (wrap64 (Int.tdiv (1000000000000000 : Int) t144))
                          · rw [if_pos c45] at H
                            have c45b0 : decide ((wrap64 (Int.tdiv (1000000000000000 : Int) t144)) < (wrap64 ((wrap64 (t141 * 1000)) + x7_22))) = true := decide_eq_true c45
                            clear c45
                            simp only [Option.some.injEq, Prod.mk.injEq] at H
                            obtain ⟨rfl, rfl⟩ := H
                            go_wp2_with (first | (go_at_call 32; (with_reducible refine (orchestratorref01_factor.calls x6_22 t144 _ A42.out).mono ?_); rintro e w' ⟨rfl, ⟨nd, rfl⟩⟩; (try first | exact ⟨rfl, _, World.drewN_drewN _ _ _⟩ | exact ⟨rfl, _, Eq.trans (World.drewN_drewN _ _ _) (congrArg (World.drewN _) (Nat.add_assoc _ _ _))⟩)))
                            repeat (go_quiet (first | (go_at_call 32; (with_reducible refine (orchestratorref01_factor.calls x6_22 t144 _ A42.out).mono ?_); rintro e w' ⟨rfl, ⟨nd, rfl⟩⟩; (try first | exact ⟨rfl, _, World.drewN_drewN _ _ _⟩ | exact ⟨rfl, _, Eq.trans (World.drewN_drewN _ _ _) (congrArg (World.drewN _) (Nat.add_assoc _ _ _))⟩))); try go_wp2_with (first | (go_at_call 32; (with_reducible refine (orchestratorref01_factor.calls x6_22 t144 _ A42.out).mono ?_); rintro e w' ⟨rfl, ⟨nd, rfl⟩⟩; (try first | exact ⟨rfl, _, World.drewN_drewN _ _ _⟩ | exact ⟨rfl, _, Eq.trans (World.drewN_drewN _ _ _) (congrArg (World.drewN _) (Nat.add_assoc _ _ _))⟩))))
                            go_ret2
                            exact ⟨by first | rfl | (simp; done) | (simp only [← hsx12, ← hsx16] <;> (first | rfl | simp)) | (simp [*]; done), by repeat (first | exact Drawn0.refl _ | apply Drawn0.step)⟩
                          · rw [if_neg c45] at H
                            have c45b0 : decide ((wrap64 (Int.tdiv (1000000000000000 : Int) t144)) < (wrap64 ((wrap64 (t141 * 1000)) + x7_22))) = false := decide_eq_false c45
                            clear c45
                            simp only [Option.some.injEq, Prod.mk.injEq] at H
                            obtain ⟨rfl, rfl⟩ := H
                            go_wp2_with (first | (go_at_call 32; (with_reducible refine (orchestratorref01_factor.calls x6_22 t144 _ A42.out).mono ?_); rintro e w' ⟨rfl, ⟨nd, rfl⟩⟩; (try first | exact ⟨rfl, _, World.drewN_drewN _ _ _⟩ | exact ⟨rfl, _, Eq.trans (World.drewN_drewN _ _ _) (congrArg (World.drewN _) (Nat.add_assoc _ _ _))⟩)))
                            repeat (go_quiet (first | (go_at_call 32; (with_reducible refine (orchestratorref01_factor.calls x6_22 t144 _ A42.out).mono ?_); rintro e w' ⟨rfl, ⟨nd, rfl⟩⟩; (try first | exact ⟨rfl, _, World.drewN_drewN _ _ _⟩ | exact ⟨rfl, _, Eq.trans (World.drewN_drewN _ _ _) (congrArg (World.drewN _) (Nat.add_assoc _ _ _))⟩))); try go_wp2_with (first | (go_at_call 32; (with_reducible refine (orchestratorref01_factor.calls x6_22 t144 _ A42.out).mono ?_); rintro e w' ⟨rfl, ⟨nd, rfl⟩⟩; (try first | exact ⟨rfl, _, World.drewN_drewN _ _ _⟩ | exact ⟨rfl, _, Eq.trans (World.drewN_drewN _ _ _) (congrArg (World.drewN _) (Nat.add_assoc _ _ _))⟩))))
                            go_ret2
                            exact ⟨by first | rfl | (simp; done) | (simp only [← hsx12, ← hsx16] <;> (first | rfl | simp)) | (simp [*]; done), by repeat (first | exact Drawn0.refl _ | apply Drawn0.step)⟩
          · rw [if_neg c11] at H
            exact absurd H (by simp)
        · rw [if_neg c10] at H
          exact absurd H (by simp)

end Go.Proofs.YtjidhmklfkkckaaDoor.X
