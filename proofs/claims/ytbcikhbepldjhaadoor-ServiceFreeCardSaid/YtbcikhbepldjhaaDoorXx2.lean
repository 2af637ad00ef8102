-- Written by xprint.py, a program of this session's, over the kit's print of the translation. Not trusted: Lean checks it.
import Derived.Test.YtbcikhbepldjhaaDoorXx0
import Derived.Test.YtbcikhbepldjhaaDoorXx1
import Derived.Test.YtbcikhbepldjhaaDoorExtAl
import Derived.Test.YtbcikhbepldjhaaDoorExtAw
namespace Go.Proofs.YtbcikhbepldjhaaDoor.X
open Go.RowKit Go.Proofs.YtbcikhbepldjhaaDoorW.PrintWords Go.Proofs.YtbcikhbepldjhaaDoorW.PrintLast Go.Proofs.YtbcikhbepldjhaaDoorW.PrintMore
attribute [local go_sem] max2_int min2_int max_two min_two max_three min_three max_four min_four   -- for this text's walks alone
set_option linter.unusedVariables false
set_option linter.unusedSimpArgs false

/-! ### orchestratorlaw56_ServiceFree: function 7 -/
mutual
def orchestratorlaw56_ServiceFree.j0 : Nat → List (S33) → Int → Int → Bool → Option (Bool)
  | 0, _, _, _, _ => none
  | k + 1, x0, x1, x7, x63 => if x63 = true then (some false) else (orchestratorlaw56_ServiceFree.l0 k x0 x1 x7 0 0)
def orchestratorlaw56_ServiceFree.l0 : Nat → List (S33) → Int → Int → Int → Int → Option (Bool)
  | 0, _, _, _, _, _ => none
  | k + 1, x0, x1, x7, x9, x10 => if x10 < (x0.length : Int) then (if 0 ≤ x10 then (if ((rd_T33 x0 x10).f4) = x7 then (some false) else (orchestratorlaw56_ServiceFree.l1 k x0 x1 x7 x9 x10 false 0)) else (none)) else (if x9 = (wrap64 (x7 - x1)) then ((orchestratorlaw56_awake.f).bind fun t110 => (some t110)) else (some false))
def orchestratorlaw56_ServiceFree.l1 : Nat → List (S33) → Int → Int → Int → Int → Bool → Int → Option (Bool)
  | 0, _, _, _, _, _, _, _ => none
  | k + 1, x0, x1, x7, x9, x10, x11, x12 => if x12 < x10 then (if x11 = true then (orchestratorlaw56_ServiceFree.l1 k x0 x1 x7 x9 x10 true (wrap64 (x12 + 1))) else (if 0 ≤ x12 then (if x12 < (x0.length : Int) then (if 0 ≤ x10 then (if x10 < (x0.length : Int) then (orchestratorlaw56_ServiceFree.l1 k x0 x1 x7 x9 x10 (((rd_T33 x0 x12).f4) == ((rd_T33 x0 x10).f4)) (wrap64 (x12 + 1))) else (none)) else (none)) else (none)) else (none))) else (if 0 ≤ x10 then (if x10 < (x0.length : Int) then (if ((rd_T33 x0 x10).f4) ≥ x1 then (if ((rd_T33 x0 x10).f4) < x7 then (if x11 = true then (orchestratorlaw56_ServiceFree.l0 k x0 x1 x7 x9 (wrap64 (x10 + 1))) else (orchestratorlaw56_ServiceFree.l0 k x0 x1 x7 (wrap64 (x9 + 1)) (wrap64 (x10 + 1)))) else (orchestratorlaw56_ServiceFree.l0 k x0 x1 x7 x9 (wrap64 (x10 + 1)))) else (orchestratorlaw56_ServiceFree.l0 k x0 x1 x7 x9 (wrap64 (x10 + 1)))) else (none)) else (none))
end
def orchestratorlaw56_ServiceFree.f (k : Nat) (l0 : List (S33)) (a1 : Int) (a2 : Int) : Option (Bool) := (orchestratorlaw56_heavy.f k l0 (⟨#[]⟩ : ByteArray) (⟨#[]⟩ : ByteArray) (⟨#[]⟩ : ByteArray) 0 0 0 0 false 0 ([] : List (S69)) ([] : List (S72)) ([] : List ByteArray) ([] : List (S76)) ([] : List (S79)) ([] : List (S56)) false 0 (⟨#[]⟩ : ByteArray) (⟨#[]⟩ : ByteArray) (⟨#[]⟩ : ByteArray) 0 0 0 0 false 0 ([] : List (S69)) ([] : List (S72)) ([] : List ByteArray) ([] : List (S76)) ([] : List (S56)) ([] : List (S54))).bind fun t104 => (if t104 = true then ((orchestratorlaw56_awake.f).bind fun t105 => (some t105)) else ((service_Allocate.f l0 a1 a2).bind fun bt106 => (if bt106.2 = 0 then (if bt106.1 < a1 then (orchestratorlaw56_ServiceFree.j0 k l0 a1 bt106.1 true) else (if (wrap64 (bt106.1 - a1)) ≥ a2 then (orchestratorlaw56_ServiceFree.j0 k l0 a1 bt106.1 true) else (orchestratorlaw56_ServiceFree.j0 k l0 a1 bt106.1 (decide ((wrap64 (bt106.1 - a1)) > (l0.length : Int)))))) else (if bt106.1 = 0 then (if bt106.2 = 5 then ((orchestratorlaw56_awake.f).bind fun t108 => (some t108)) else (if bt106.2 = 15 then (if a2 ≤ (l0.length : Int) then ((orchestratorlaw56_awake.f).bind fun t109 => (some t109)) else (some false)) else (some false))) else (some false)))))
theorem orchestratorlaw56_ServiceFree.mono_l : ∀ k, (∀ y0 y1 y2 y3, LeO (orchestratorlaw56_ServiceFree.j0 k y0 y1 y2 y3) (orchestratorlaw56_ServiceFree.j0 (k + 1) y0 y1 y2 y3)) ∧ (∀ y0 y1 y2 y3 y4, LeO (orchestratorlaw56_ServiceFree.l0 k y0 y1 y2 y3 y4) (orchestratorlaw56_ServiceFree.l0 (k + 1) y0 y1 y2 y3 y4)) ∧ (∀ y0 y1 y2 y3 y4 y5 y6, LeO (orchestratorlaw56_ServiceFree.l1 k y0 y1 y2 y3 y4 y5 y6) (orchestratorlaw56_ServiceFree.l1 (k + 1) y0 y1 y2 y3 y4 y5 y6))
  | 0 => ⟨fun _ _ _ _ r h => by simp [orchestratorlaw56_ServiceFree.j0] at h, fun _ _ _ _ _ r h => by simp [orchestratorlaw56_ServiceFree.l0] at h, fun _ _ _ _ _ _ _ r h => by simp [orchestratorlaw56_ServiceFree.l1] at h⟩
  | k + 1 => by
    obtain ⟨ih0, ih1, ih2⟩ := orchestratorlaw56_ServiceFree.mono_l k
    refine ⟨?_, ?_, ?_⟩
    · intro y0 y1 y2 y3
      unfold orchestratorlaw56_ServiceFree.j0
      repeat' first
      | (with_reducible exact ih0 _ _ _ _)
      | (with_reducible exact ih1 _ _ _ _ _)
      | (with_reducible exact ih2 _ _ _ _ _ _ _)
      | (with_reducible exact orchestratorlaw56_heavy.mono _ _ _ _ _ _ _ _ _ _ _ _ _ _ _ _ _ _ _ _ _ _ _ _ _ _ _ _ _ _ _ _ _ _)
      | (with_reducible exact LeO.refl _)
      | (with_reducible exact LeO.none _)
      | (with_reducible refine LeO.ite ?_ ?_)
      | (with_reducible refine LeO.bind ?_ (fun _ => ?_))
      | exact ih0 _ _ _ _
      | exact ih1 _ _ _ _ _
      | exact ih2 _ _ _ _ _ _ _
      | exact orchestratorlaw56_heavy.mono _ _ _ _ _ _ _ _ _ _ _ _ _ _ _ _ _ _ _ _ _ _ _ _ _ _ _ _ _ _ _ _ _ _
      | exact LeO.none _
      | refine LeO.ite ?_ ?_
      | refine LeO.bind ?_ (fun _ => ?_)
    · intro y0 y1 y2 y3 y4
      unfold orchestratorlaw56_ServiceFree.l0
      repeat' first
      | (with_reducible exact ih0 _ _ _ _)
      | (with_reducible exact ih1 _ _ _ _ _)
      | (with_reducible exact ih2 _ _ _ _ _ _ _)
      | (with_reducible exact orchestratorlaw56_heavy.mono _ _ _ _ _ _ _ _ _ _ _ _ _ _ _ _ _ _ _ _ _ _ _ _ _ _ _ _ _ _ _ _ _ _)
      | (with_reducible exact LeO.refl _)
      | (with_reducible exact LeO.none _)
      | (with_reducible refine LeO.ite ?_ ?_)
      | (with_reducible refine LeO.bind ?_ (fun _ => ?_))
      | exact ih0 _ _ _ _
      | exact ih1 _ _ _ _ _
      | exact ih2 _ _ _ _ _ _ _
      | exact orchestratorlaw56_heavy.mono _ _ _ _ _ _ _ _ _ _ _ _ _ _ _ _ _ _ _ _ _ _ _ _ _ _ _ _ _ _ _ _ _ _
      | exact LeO.none _
      | refine LeO.ite ?_ ?_
      | refine LeO.bind ?_ (fun _ => ?_)
    · intro y0 y1 y2 y3 y4 y5 y6
      unfold orchestratorlaw56_ServiceFree.l1
      repeat' first
      | (with_reducible exact ih0 _ _ _ _)
      | (with_reducible exact ih1 _ _ _ _ _)
      | (with_reducible exact ih2 _ _ _ _ _ _ _)
      | (with_reducible exact orchestratorlaw56_heavy.mono _ _ _ _ _ _ _ _ _ _ _ _ _ _ _ _ _ _ _ _ _ _ _ _ _ _ _ _ _ _ _ _ _ _)
      | (with_reducible exact LeO.refl _)
      | (with_reducible exact LeO.none _)
      | (with_reducible refine LeO.ite ?_ ?_)
      | (with_reducible refine LeO.bind ?_ (fun _ => ?_))
      | exact ih0 _ _ _ _
      | exact ih1 _ _ _ _ _
      | exact ih2 _ _ _ _ _ _ _
      | exact orchestratorlaw56_heavy.mono _ _ _ _ _ _ _ _ _ _ _ _ _ _ _ _ _ _ _ _ _ _ _ _ _ _ _ _ _ _ _ _ _ _
      | exact LeO.none _
      | refine LeO.ite ?_ ?_
      | refine LeO.bind ?_ (fun _ => ?_)
theorem orchestratorlaw56_ServiceFree.mono : ∀ a0 a1 a2 k, LeO (orchestratorlaw56_ServiceFree.f k a0 a1 a2) (orchestratorlaw56_ServiceFree.f (k + 1) a0 a1 a2) := by
  intro a0 a1 a2 k
  obtain ⟨ih0, ih1, ih2⟩ := orchestratorlaw56_ServiceFree.mono_l k
  unfold orchestratorlaw56_ServiceFree.f
  repeat' first
      | (with_reducible exact ih0 _ _ _ _)
      | (with_reducible exact ih1 _ _ _ _ _)
      | (with_reducible exact ih2 _ _ _ _ _ _ _)
      | (with_reducible exact orchestratorlaw56_heavy.mono _ _ _ _ _ _ _ _ _ _ _ _ _ _ _ _ _ _ _ _ _ _ _ _ _ _ _ _ _ _ _ _ _ _)
      | (with_reducible exact LeO.refl _)
      | (with_reducible exact LeO.none _)
      | (with_reducible refine LeO.ite ?_ ?_)
      | (with_reducible refine LeO.bind ?_ (fun _ => ?_))
      | exact ih0 _ _ _ _
      | exact ih1 _ _ _ _ _
      | exact ih2 _ _ _ _ _ _ _
      | exact orchestratorlaw56_heavy.mono _ _ _ _ _ _ _ _ _ _ _ _ _ _ _ _ _ _ _ _ _ _ _ _ _ _ _ _ _ _ _ _ _ _
      | exact LeO.none _
      | refine LeO.ite ?_ ?_
      | refine LeO.bind ?_ (fun _ => ?_)
set_option maxHeartbeats 8000000 in
set_option maxRecDepth 100000 in
theorem orchestratorlaw56_ServiceFree.calls (k : Nat) (A0 : Option Addr) (c0 : Nat) (l0 : List (S33)) (a1 : Int) (a2 : Int) (r : Bool) (w : World) (HT : r = true) (hr0 : Kd.C k33 w A0 l0.length l0) (hc0 : l0.length ≤ c0) (h : orchestratorlaw56_ServiceFree.f k l0 a1 a2 = some r) :
    Calls Tryd.prog 7 #[.slice A0 l0.length c0, .int .i64 a1, .int .i64 a2] w fun e w' => e = .returned (.bool r) ∧ Below w.heap.size w w' := by
  have hu33 := Tryd.underlying33
  have hu36 := Tryd.underlying36
  have HR0 := Aside0.mk hr0
  have HC0 := Aside0.mk hc0
  clear hr0 hc0
  have HB := Aside0.mk (Below.refl w.heap.size w)
  have H : ((orchestratorlaw56_heavy.f k l0 (⟨#[]⟩ : ByteArray) (⟨#[]⟩ : ByteArray) (⟨#[]⟩ : ByteArray) 0 0 0 0 false 0 ([] : List (S69)) ([] : List (S72)) ([] : List ByteArray) ([] : List (S76)) ([] : List (S79)) ([] : List (S56)) false 0 (⟨#[]⟩ : ByteArray) (⟨#[]⟩ : ByteArray) (⟨#[]⟩ : ByteArray) 0 0 0 0 false 0 ([] : List (S69)) ([] : List (S72)) ([] : List ByteArray) ([] : List (S76)) ([] : List (S56)) ([] : List (S54))).bind fun t104 => (if t104 = true then ((orchestratorlaw56_awake.f).bind fun t105 => (some t105)) else ((service_Allocate.f l0 a1 a2).bind fun bt106 => (if bt106.2 = 0 then (if bt106.1 < a1 then (orchestratorlaw56_ServiceFree.j0 k l0 a1 bt106.1 true) else (if (wrap64 (bt106.1 - a1)) ≥ a2 then (orchestratorlaw56_ServiceFree.j0 k l0 a1 bt106.1 true) else (orchestratorlaw56_ServiceFree.j0 k l0 a1 bt106.1 (decide ((wrap64 (bt106.1 - a1)) > (l0.length : Int)))))) else (if bt106.1 = 0 then (if bt106.2 = 5 then ((orchestratorlaw56_awake.f).bind fun t108 => (some t108)) else (if bt106.2 = 15 then (if a2 ≤ (l0.length : Int) then ((orchestratorlaw56_awake.f).bind fun t109 => (some t109)) else (some false)) else (some false))) else (some false)))))) = some r := h
  clear h
  replace H := Option.bind_eq_some_iff.mp H
  obtain ⟨t104, A40, H⟩ := H
  replace H : (if t104 = true then ((orchestratorlaw56_awake.f).bind fun t105 => (some t105)) else ((service_Allocate.f l0 a1 a2).bind fun bt106 => (if bt106.2 = 0 then (if bt106.1 < a1 then (orchestratorlaw56_ServiceFree.j0 k l0 a1 bt106.1 true) else (if (wrap64 (bt106.1 - a1)) ≥ a2 then (orchestratorlaw56_ServiceFree.j0 k l0 a1 bt106.1 true) else (orchestratorlaw56_ServiceFree.j0 k l0 a1 bt106.1 (decide ((wrap64 (bt106.1 - a1)) > (l0.length : Int)))))) else (if bt106.1 = 0 then (if bt106.2 = 5 then ((orchestratorlaw56_awake.f).bind fun t108 => (some t108)) else (if bt106.2 = 15 then (if a2 ≤ (l0.length : Int) then ((orchestratorlaw56_awake.f).bind fun t109 => (some t109)) else (some false)) else (some false))) else (some false))))) = some r := H
  have A4 := Aside0.mk A40
  clear A40
  by_cases c5 : t104 = true
  · subst c5
    have H1 : ((orchestratorlaw56_awake.f).bind fun t105 => (some t105)) = some r := by rw [if_pos rfl] at H; exact H
    clear H
    have H := H1
    clear H1
    replace H := Option.bind_eq_some_iff.mp H
    obtain ⟨t105, A60, H⟩ := H
    replace H : (some t105) = some r := H
    have A6 := Aside0.mk A60
    clear A60
    obtain rfl := Option.some.inj H
    go_enter Tryd.func7, Tryd.ntmps7
    go_wp2_with (first | (go_at_call 8; (refine (orchestratorlaw56_heavy.calls k _ _ l0 (⟨#[]⟩ : ByteArray) (⟨#[]⟩ : ByteArray) (⟨#[]⟩ : ByteArray) 0 0 0 0 false 0 _ _ ([] : List (S69)) _ _ ([] : List (S72)) _ _ ([] : List ByteArray) _ _ ([] : List (S76)) _ _ ([] : List (S79)) _ _ ([] : List (S56)) false 0 (⟨#[]⟩ : ByteArray) (⟨#[]⟩ : ByteArray) (⟨#[]⟩ : ByteArray) 0 0 0 0 false 0 _ _ ([] : List (S69)) _ _ ([] : List (S72)) _ _ ([] : List ByteArray) _ _ ([] : List (S76)) _ _ ([] : List (S56)) _ _ ([] : List (S54)) true _ ?side1 ?side2 ?side3 ?side4 ?side5 ?side6 ?side7 ?side8 ?side9 ?side10 ?side11 ?side12 ?side13 ?side14 ?side15 ?side16 ?side17 ?side18 ?side19 ?side20 ?side21 ?side22 ?side23 ?side24 ?side25 ?side26 A4.out).mono ?_); (case side1 => repeat (first | exact HR0.out | (with_reducible refine Kd.C_alloc ?_ _) | (with_reducible refine Kd.C_drewN ?_ _) | (with_reducible refine Kd.C_drew ?_))); (case side2 => exact HC0.out); (case side3 => exact Kd.C_nil _ _); (case side4 => exact Nat.le_refl _); (case side5 => exact Kd.C_nil _ _); (case side6 => exact Nat.le_refl _); (case side7 => exact Kd.C_nil _ _); (case side8 => exact Nat.le_refl _); (case side9 => exact Kd.C_nil _ _); (case side10 => exact Nat.le_refl _); (case side11 => exact Kd.C_nil _ _); (case side12 => exact Nat.le_refl _); (case side13 => exact Kd.C_nil _ _); (case side14 => exact Nat.le_refl _); (case side15 => exact Kd.C_nil _ _); (case side16 => exact Nat.le_refl _); (case side17 => exact Kd.C_nil _ _); (case side18 => exact Nat.le_refl _); (case side19 => exact Kd.C_nil _ _); (case side20 => exact Nat.le_refl _); (case side21 => exact Kd.C_nil _ _); (case side22 => exact Nat.le_refl _); (case side23 => exact Kd.C_nil _ _); (case side24 => exact Nat.le_refl _); (case side25 => exact Kd.C_nil _ _); (case side26 => exact Nat.le_refl _); rintro e w7 ⟨rfl, hb⟩; have n0_ := Aside0.mk (below_step (by repeat (first | (with_reducible first | exact HB.out | apply below_alloc | apply pw_below_drewN | apply below_drew1) | exact HB.out)) hb); clear HB; have HB := n0_; clear n0_; (try clear hb); (try clear hb2); (try clear hk); (try clear hi)) | (go_at_call 9; (with_reducible refine (orchestratorlaw56_awake.calls  t105 _ A6.out).mono ?_); rintro e w8 ⟨rfl, hb⟩; have n0_ := Aside0.mk (below_step (by repeat (first | (with_reducible first | exact HB.out | apply below_alloc | apply pw_below_drewN | apply below_drew1) | exact HB.out)) hb); clear HB; have HB := n0_; clear n0_; (try clear hb); (try clear hb2); (try clear hk); (try clear hi)))
    repeat (go_quiet (first | (go_at_call 8; (refine (orchestratorlaw56_heavy.calls k _ _ l0 (⟨#[]⟩ : ByteArray) (⟨#[]⟩ : ByteArray) (⟨#[]⟩ : ByteArray) 0 0 0 0 false 0 _ _ ([] : List (S69)) _ _ ([] : List (S72)) _ _ ([] : List ByteArray) _ _ ([] : List (S76)) _ _ ([] : List (S79)) _ _ ([] : List (S56)) false 0 (⟨#[]⟩ : ByteArray) (⟨#[]⟩ : ByteArray) (⟨#[]⟩ : ByteArray) 0 0 0 0 false 0 _ _ ([] : List (S69)) _ _ ([] : List (S72)) _ _ ([] : List ByteArray) _ _ ([] : List (S76)) _ _ ([] : List (S56)) _ _ ([] : List (S54)) true _ ?side1 ?side2 ?side3 ?side4 ?side5 ?side6 ?side7 ?side8 ?side9 ?side10 ?side11 ?side12 ?side13 ?side14 ?side15 ?side16 ?side17 ?side18 ?side19 ?side20 ?side21 ?side22 ?side23 ?side24 ?side25 ?side26 A4.out).mono ?_); (case side1 => repeat (first | exact HR0.out | (with_reducible refine Kd.C_alloc ?_ _) | (with_reducible refine Kd.C_drewN ?_ _) | (with_reducible refine Kd.C_drew ?_))); (case side2 => exact HC0.out); (case side3 => exact Kd.C_nil _ _); (case side4 => exact Nat.le_refl _); (case side5 => exact Kd.C_nil _ _); (case side6 => exact Nat.le_refl _); (case side7 => exact Kd.C_nil _ _); (case side8 => exact Nat.le_refl _); (case side9 => exact Kd.C_nil _ _); (case side10 => exact Nat.le_refl _); (case side11 => exact Kd.C_nil _ _); (case side12 => exact Nat.le_refl _); (case side13 => exact Kd.C_nil _ _); (case side14 => exact Nat.le_refl _); (case side15 => exact Kd.C_nil _ _); (case side16 => exact Nat.le_refl _); (case side17 => exact Kd.C_nil _ _); (case side18 => exact Nat.le_refl _); (case side19 => exact Kd.C_nil _ _); (case side20 => exact Nat.le_refl _); (case side21 => exact Kd.C_nil _ _); (case side22 => exact Nat.le_refl _); (case side23 => exact Kd.C_nil _ _); (case side24 => exact Nat.le_refl _); (case side25 => exact Kd.C_nil _ _); (case side26 => exact Nat.le_refl _); rintro e w7 ⟨rfl, hb⟩; have n0_ := Aside0.mk (below_step (by repeat (first | (with_reducible first | exact HB.out | apply below_alloc | apply pw_below_drewN | apply below_drew1) | exact HB.out)) hb); clear HB; have HB := n0_; clear n0_; (try clear hb); (try clear hb2); (try clear hk); (try clear hi)) | (go_at_call 9; (with_reducible refine (orchestratorlaw56_awake.calls  t105 _ A6.out).mono ?_); rintro e w8 ⟨rfl, hb⟩; have n0_ := Aside0.mk (below_step (by repeat (first | (with_reducible first | exact HB.out | apply below_alloc | apply pw_below_drewN | apply below_drew1) | exact HB.out)) hb); clear HB; have HB := n0_; clear n0_; (try clear hb); (try clear hb2); (try clear hk); (try clear hi))); try go_wp2_with (first | (go_at_call 8; (refine (orchestratorlaw56_heavy.calls k _ _ l0 (⟨#[]⟩ : ByteArray) (⟨#[]⟩ : ByteArray) (⟨#[]⟩ : ByteArray) 0 0 0 0 false 0 _ _ ([] : List (S69)) _ _ ([] : List (S72)) _ _ ([] : List ByteArray) _ _ ([] : List (S76)) _ _ ([] : List (S79)) _ _ ([] : List (S56)) false 0 (⟨#[]⟩ : ByteArray) (⟨#[]⟩ : ByteArray) (⟨#[]⟩ : ByteArray) 0 0 0 0 false 0 _ _ ([] : List (S69)) _ _ ([] : List (S72)) _ _ ([] : List ByteArray) _ _ ([] : List (S76)) _ _ ([] : List (S56)) _ _ ([] : List (S54)) true _ ?side1 ?side2 ?side3 ?side4 ?side5 ?side6 ?side7 ?side8 ?side9 ?side10 ?side11 ?side12 ?side13 ?side14 ?side15 ?side16 ?side17 ?side18 ?side19 ?side20 ?side21 ?side22 ?side23 ?side24 ?side25 ?side26 A4.out).mono ?_); (case side1 => repeat (first | exact HR0.out | (with_reducible refine Kd.C_alloc ?_ _) | (with_reducible refine Kd.C_drewN ?_ _) | (with_reducible refine Kd.C_drew ?_))); (case side2 => exact HC0.out); (case side3 => exact Kd.C_nil _ _); (case side4 => exact Nat.le_refl _); (case side5 => exact Kd.C_nil _ _); (case side6 => exact Nat.le_refl _); (case side7 => exact Kd.C_nil _ _); (case side8 => exact Nat.le_refl _); (case side9 => exact Kd.C_nil _ _); (case side10 => exact Nat.le_refl _); (case side11 => exact Kd.C_nil _ _); (case side12 => exact Nat.le_refl _); (case side13 => exact Kd.C_nil _ _); (case side14 => exact Nat.le_refl _); (case side15 => exact Kd.C_nil _ _); (case side16 => exact Nat.le_refl _); (case side17 => exact Kd.C_nil _ _); (case side18 => exact Nat.le_refl _); (case side19 => exact Kd.C_nil _ _); (case side20 => exact Nat.le_refl _); (case side21 => exact Kd.C_nil _ _); (case side22 => exact Nat.le_refl _); (case side23 => exact Kd.C_nil _ _); (case side24 => exact Nat.le_refl _); (case side25 => exact Kd.C_nil _ _); (case side26 => exact Nat.le_refl _); rintro e w7 ⟨rfl, hb⟩; have n0_ := Aside0.mk (below_step (by repeat (first | (with_reducible first | exact HB.out | apply below_alloc | apply pw_below_drewN | apply below_drew1) | exact HB.out)) hb); clear HB; have HB := n0_; clear n0_; (try clear hb); (try clear hb2); (try clear hk); (try clear hi)) | (go_at_call 9; (with_reducible refine (orchestratorlaw56_awake.calls  t105 _ A6.out).mono ?_); rintro e w8 ⟨rfl, hb⟩; have n0_ := Aside0.mk (below_step (by repeat (first | (with_reducible first | exact HB.out | apply below_alloc | apply pw_below_drewN | apply below_drew1) | exact HB.out)) hb); clear HB; have HB := n0_; clear n0_; (try clear hb); (try clear hb2); (try clear hk); (try clear hi))))
    go_ret
    exact ⟨by first | rfl | (simp [errW_none, errW_some] <;> rfl) | (simp [*, errW_none, errW_some] <;> rfl), by repeat (first | (with_reducible first | exact HB.out | apply below_alloc | apply pw_below_drewN | apply below_drew1) | exact HB.out)⟩
  · replace c5 := Bool.eq_false_iff.mpr c5
    subst c5
    have H1 : ((service_Allocate.f l0 a1 a2).bind fun bt106 => (if bt106.2 = 0 then (if bt106.1 < a1 then (orchestratorlaw56_ServiceFree.j0 k l0 a1 bt106.1 true) else (if (wrap64 (bt106.1 - a1)) ≥ a2 then (orchestratorlaw56_ServiceFree.j0 k l0 a1 bt106.1 true) else (orchestratorlaw56_ServiceFree.j0 k l0 a1 bt106.1 (decide ((wrap64 (bt106.1 - a1)) > (l0.length : Int)))))) else (if bt106.1 = 0 then (if bt106.2 = 5 then ((orchestratorlaw56_awake.f).bind fun t108 => (some t108)) else (if bt106.2 = 15 then (if a2 ≤ (l0.length : Int) then ((orchestratorlaw56_awake.f).bind fun t109 => (some t109)) else (some false)) else (some false))) else (some false)))) = some r := by rw [if_neg (show ¬ (false = true) by decide)] at H; exact H
    clear H
    have H := H1
    clear H1
    replace H := Option.bind_eq_some_iff.mp H
    obtain ⟨⟨t106, t107⟩, A90, H⟩ := H
    replace H : (if t107 = 0 then (if t106 < a1 then (orchestratorlaw56_ServiceFree.j0 k l0 a1 t106 true) else (if (wrap64 (t106 - a1)) ≥ a2 then (orchestratorlaw56_ServiceFree.j0 k l0 a1 t106 true) else (orchestratorlaw56_ServiceFree.j0 k l0 a1 t106 (decide ((wrap64 (t106 - a1)) > (l0.length : Int)))))) else (if t106 = 0 then (if t107 = 5 then ((orchestratorlaw56_awake.f).bind fun t108 => (some t108)) else (if t107 = 15 then (if a2 ≤ (l0.length : Int) then ((orchestratorlaw56_awake.f).bind fun t109 => (some t109)) else (some false)) else (some false))) else (some false))) = some r := H
    have A9 := Aside0.mk A90
    clear A90
    by_cases c10 : t107 = 0
    · rw [if_pos c10] at H
      have c10b0 : (t107 == 0) = true := beq_iff_eq.mpr c10
      have c10b1 : (t107 != 0) = false := bne_eq_false_iff_eq.mpr c10
      clear c10
      have HC11 := Aside0.mk H
      clear H
      go_enter Tryd.func7, Tryd.ntmps7
      go_upto_region 6 with (first | (go_at_call 8; (refine (orchestratorlaw56_heavy.calls k _ _ l0 (⟨#[]⟩ : ByteArray) (⟨#[]⟩ : ByteArray) (⟨#[]⟩ : ByteArray) 0 0 0 0 false 0 _ _ ([] : List (S69)) _ _ ([] : List (S72)) _ _ ([] : List ByteArray) _ _ ([] : List (S76)) _ _ ([] : List (S79)) _ _ ([] : List (S56)) false 0 (⟨#[]⟩ : ByteArray) (⟨#[]⟩ : ByteArray) (⟨#[]⟩ : ByteArray) 0 0 0 0 false 0 _ _ ([] : List (S69)) _ _ ([] : List (S72)) _ _ ([] : List ByteArray) _ _ ([] : List (S76)) _ _ ([] : List (S56)) _ _ ([] : List (S54)) false _ ?side1 ?side2 ?side3 ?side4 ?side5 ?side6 ?side7 ?side8 ?side9 ?side10 ?side11 ?side12 ?side13 ?side14 ?side15 ?side16 ?side17 ?side18 ?side19 ?side20 ?side21 ?side22 ?side23 ?side24 ?side25 ?side26 A4.out).mono ?_); (case side1 => repeat (first | exact HR0.out | (with_reducible refine Kd.C_alloc ?_ _) | (with_reducible refine Kd.C_drewN ?_ _) | (with_reducible refine Kd.C_drew ?_))); (case side2 => exact HC0.out); (case side3 => exact Kd.C_nil _ _); (case side4 => exact Nat.le_refl _); (case side5 => exact Kd.C_nil _ _); (case side6 => exact Nat.le_refl _); (case side7 => exact Kd.C_nil _ _); (case side8 => exact Nat.le_refl _); (case side9 => exact Kd.C_nil _ _); (case side10 => exact Nat.le_refl _); (case side11 => exact Kd.C_nil _ _); (case side12 => exact Nat.le_refl _); (case side13 => exact Kd.C_nil _ _); (case side14 => exact Nat.le_refl _); (case side15 => exact Kd.C_nil _ _); (case side16 => exact Nat.le_refl _); (case side17 => exact Kd.C_nil _ _); (case side18 => exact Nat.le_refl _); (case side19 => exact Kd.C_nil _ _); (case side20 => exact Nat.le_refl _); (case side21 => exact Kd.C_nil _ _); (case side22 => exact Nat.le_refl _); (case side23 => exact Kd.C_nil _ _); (case side24 => exact Nat.le_refl _); (case side25 => exact Kd.C_nil _ _); (case side26 => exact Nat.le_refl _); rintro e w12 ⟨rfl, hb⟩; have n0_ := Aside0.mk (below_step (by repeat (first | (with_reducible first | exact HB.out | apply below_alloc | apply pw_below_drewN | apply below_drew1) | exact HB.out)) hb); clear HB; have HB := n0_; clear n0_; (try clear hb); (try clear hb2); (try clear hk); (try clear hi)) | (go_at_call 10; (with_reducible refine (service_Allocate.calls _ _ l0 a1 a2 t106 t107 _ ?side1 ?side2 A9.out).mono ?_); (case side1 => repeat (first | exact (Kd.C_below HR0.out HB.out) | (with_reducible refine Kd.C_alloc ?_ _) | (with_reducible refine Kd.C_drewN ?_ _) | (with_reducible refine Kd.C_drew ?_))); (case side2 => exact HC0.out); rintro e w13 ⟨rfl, hb⟩; have n0_ := Aside0.mk (below_step (by repeat (first | (with_reducible first | exact HB.out | apply below_alloc | apply pw_below_drewN | apply below_drew1) | exact HB.out)) hb); clear HB; have HB := n0_; clear n0_; (try clear hb); (try clear hb2); (try clear hk); (try clear hi)))
      repeat (go_quiet (first | (go_at_call 8; (refine (orchestratorlaw56_heavy.calls k _ _ l0 (⟨#[]⟩ : ByteArray) (⟨#[]⟩ : ByteArray) (⟨#[]⟩ : ByteArray) 0 0 0 0 false 0 _ _ ([] : List (S69)) _ _ ([] : List (S72)) _ _ ([] : List ByteArray) _ _ ([] : List (S76)) _ _ ([] : List (S79)) _ _ ([] : List (S56)) false 0 (⟨#[]⟩ : ByteArray) (⟨#[]⟩ : ByteArray) (⟨#[]⟩ : ByteArray) 0 0 0 0 false 0 _ _ ([] : List (S69)) _ _ ([] : List (S72)) _ _ ([] : List ByteArray) _ _ ([] : List (S76)) _ _ ([] : List (S56)) _ _ ([] : List (S54)) false _ ?side1 ?side2 ?side3 ?side4 ?side5 ?side6 ?side7 ?side8 ?side9 ?side10 ?side11 ?side12 ?side13 ?side14 ?side15 ?side16 ?side17 ?side18 ?side19 ?side20 ?side21 ?side22 ?side23 ?side24 ?side25 ?side26 A4.out).mono ?_); (case side1 => repeat (first | exact HR0.out | (with_reducible refine Kd.C_alloc ?_ _) | (with_reducible refine Kd.C_drewN ?_ _) | (with_reducible refine Kd.C_drew ?_))); (case side2 => exact HC0.out); (case side3 => exact Kd.C_nil _ _); (case side4 => exact Nat.le_refl _); (case side5 => exact Kd.C_nil _ _); (case side6 => exact Nat.le_refl _); (case side7 => exact Kd.C_nil _ _); (case side8 => exact Nat.le_refl _); (case side9 => exact Kd.C_nil _ _); (case side10 => exact Nat.le_refl _); (case side11 => exact Kd.C_nil _ _); (case side12 => exact Nat.le_refl _); (case side13 => exact Kd.C_nil _ _); (case side14 => exact Nat.le_refl _); (case side15 => exact Kd.C_nil _ _); (case side16 => exact Nat.le_refl _); (case side17 => exact Kd.C_nil _ _); (case side18 => exact Nat.le_refl _); (case side19 => exact Kd.C_nil _ _); (case side20 => exact Nat.le_refl _); (case side21 => exact Kd.C_nil _ _); (case side22 => exact Nat.le_refl _); (case side23 => exact Kd.C_nil _ _); (case side24 => exact Nat.le_refl _); (case side25 => exact Kd.C_nil _ _); (case side26 => exact Nat.le_refl _); rintro e w12 ⟨rfl, hb⟩; have n0_ := Aside0.mk (below_step (by repeat (first | (with_reducible first | exact HB.out | apply below_alloc | apply pw_below_drewN | apply below_drew1) | exact HB.out)) hb); clear HB; have HB := n0_; clear n0_; (try clear hb); (try clear hb2); (try clear hk); (try clear hi)) | (go_at_call 10; (with_reducible refine (service_Allocate.calls _ _ l0 a1 a2 t106 t107 _ ?side1 ?side2 A9.out).mono ?_); (case side1 => repeat (first | exact (Kd.C_below HR0.out HB.out) | (with_reducible refine Kd.C_alloc ?_ _) | (with_reducible refine Kd.C_drewN ?_ _) | (with_reducible refine Kd.C_drew ?_))); (case side2 => exact HC0.out); rintro e w13 ⟨rfl, hb⟩; have n0_ := Aside0.mk (below_step (by repeat (first | (with_reducible first | exact HB.out | apply below_alloc | apply pw_below_drewN | apply below_drew1) | exact HB.out)) hb); clear HB; have HB := n0_; clear n0_; (try clear hb); (try clear hb2); (try clear hk); (try clear hi))); go_upto_region 6 with (first | (go_at_call 8; (refine (orchestratorlaw56_heavy.calls k _ _ l0 (⟨#[]⟩ : ByteArray) (⟨#[]⟩ : ByteArray) (⟨#[]⟩ : ByteArray) 0 0 0 0 false 0 _ _ ([] : List (S69)) _ _ ([] : List (S72)) _ _ ([] : List ByteArray) _ _ ([] : List (S76)) _ _ ([] : List (S79)) _ _ ([] : List (S56)) false 0 (⟨#[]⟩ : ByteArray) (⟨#[]⟩ : ByteArray) (⟨#[]⟩ : ByteArray) 0 0 0 0 false 0 _ _ ([] : List (S69)) _ _ ([] : List (S72)) _ _ ([] : List ByteArray) _ _ ([] : List (S76)) _ _ ([] : List (S56)) _ _ ([] : List (S54)) false _ ?side1 ?side2 ?side3 ?side4 ?side5 ?side6 ?side7 ?side8 ?side9 ?side10 ?side11 ?side12 ?side13 ?side14 ?side15 ?side16 ?side17 ?side18 ?side19 ?side20 ?side21 ?side22 ?side23 ?side24 ?side25 ?side26 A4.out).mono ?_); (case side1 => repeat (first | exact HR0.out | (with_reducible refine Kd.C_alloc ?_ _) | (with_reducible refine Kd.C_drewN ?_ _) | (with_reducible refine Kd.C_drew ?_))); (case side2 => exact HC0.out); (case side3 => exact Kd.C_nil _ _); (case side4 => exact Nat.le_refl _); (case side5 => exact Kd.C_nil _ _); (case side6 => exact Nat.le_refl _); (case side7 => exact Kd.C_nil _ _); (case side8 => exact Nat.le_refl _); (case side9 => exact Kd.C_nil _ _); (case side10 => exact Nat.le_refl _); (case side11 => exact Kd.C_nil _ _); (case side12 => exact Nat.le_refl _); (case side13 => exact Kd.C_nil _ _); (case side14 => exact Nat.le_refl _); (case side15 => exact Kd.C_nil _ _); (case side16 => exact Nat.le_refl _); (case side17 => exact Kd.C_nil _ _); (case side18 => exact Nat.le_refl _); (case side19 => exact Kd.C_nil _ _); (case side20 => exact Nat.le_refl _); (case side21 => exact Kd.C_nil _ _); (case side22 => exact Nat.le_refl _); (case side23 => exact Kd.C_nil _ _); (case side24 => exact Nat.le_refl _); (case side25 => exact Kd.C_nil _ _); (case side26 => exact Nat.le_refl _); rintro e w12 ⟨rfl, hb⟩; have n0_ := Aside0.mk (below_step (by repeat (first | (with_reducible first | exact HB.out | apply below_alloc | apply pw_below_drewN | apply below_drew1) | exact HB.out)) hb); clear HB; have HB := n0_; clear n0_; (try clear hb); (try clear hb2); (try clear hk); (try clear hi)) | (go_at_call 10; (with_reducible refine (service_Allocate.calls _ _ l0 a1 a2 t106 t107 _ ?side1 ?side2 A9.out).mono ?_); (case side1 => repeat (first | exact (Kd.C_below HR0.out HB.out) | (with_reducible refine Kd.C_alloc ?_ _) | (with_reducible refine Kd.C_drewN ?_ _) | (with_reducible refine Kd.C_drew ?_))); (case side2 => exact HC0.out); rintro e w13 ⟨rfl, hb⟩; have n0_ := Aside0.mk (below_step (by repeat (first | (with_reducible first | exact HB.out | apply below_alloc | apply pw_below_drewN | apply below_drew1) | exact HB.out)) hb); clear HB; have HB := n0_; clear n0_; (try clear hb); (try clear hb2); (try clear hk); (try clear hi))))
      (try simp only [Act.put, List.setIfInBounds_toArray, List.set_cons_zero, List.set_cons_succ])
      go_cut [63] (fun v63 wc => ∃ (kq : Nat) (x63_10 : Bool), v63 = .bool x63_10 ∧ Aside0 (orchestratorlaw56_ServiceFree.j0 kq l0 a1 t106 x63_10 = some r) ∧ Aside0 (kq ≤ k) ∧ Aside0 (Below w.heap.size w wc))
      case first =>
        have H := HC11.out
        clear HC11
        by_cases c14 : t106 < a1
        · rw [if_pos c14] at H
          have c14b0 : decide (t106 < a1) = true := decide_eq_true c14
          clear c14
          (first | rw [c14b0] | (simp only [i64_w, i32_w]; rw [c14b0]) | skip)
          have H' := Aside0.mk H
          clear H
          go_wp2
          repeat (go_quiet (fail); try go_wp2)
          go_meet
          case rel => exact ⟨_, (true), (by first | rfl | (simp; done) | (simp [*]; done)), H', ⟨by first | omega | exact Nat.le_refl _⟩, ⟨by repeat (first | (with_reducible first | exact HB.out | apply below_alloc | apply pw_below_drewN | apply below_drew1) | exact HB.out)⟩⟩
        · rw [if_neg c14] at H
          have c14b0 : decide (t106 < a1) = false := decide_eq_false c14
          clear c14
          (first | rw [c14b0] | (simp only [i64_w, i32_w]; rw [c14b0]) | skip)
          by_cases c15 : (wrap64 (t106 - a1)) ≥ a2
          · rw [if_pos c15] at H
            have c15b0 : decide (a2 ≤ (wrap64 (t106 - a1))) = true := decide_eq_true c15
            clear c15
            have H' := Aside0.mk H
            clear H
            go_wp2
            repeat (go_quiet (fail); try go_wp2)
            go_meet
            case rel => exact ⟨_, (true), (by first | rfl | (simp; done) | (simp [*]; done)), H', ⟨by first | omega | exact Nat.le_refl _⟩, ⟨by repeat (first | (with_reducible first | exact HB.out | apply below_alloc | apply pw_below_drewN | apply below_drew1) | exact HB.out)⟩⟩
          · rw [if_neg c15] at H
            have c15b0 : decide (a2 ≤ (wrap64 (t106 - a1))) = false := decide_eq_false c15
            clear c15
            have H' := Aside0.mk H
            clear H
            go_wp2
            repeat (go_quiet (fail); try go_wp2)
            go_meet
            case rel => exact ⟨_, (decide ((wrap64 (t106 - a1)) > (l0.length : Int))), (by first | rfl | (simp; done) | (simp [*]; done)), H', ⟨by first | omega | exact Nat.le_refl _⟩, ⟨by repeat (first | (with_reducible first | exact HB.out | apply below_alloc | apply pw_below_drewN | apply below_drew1) | exact HB.out)⟩⟩
      case rest =>
        clear HC11
        try clear c1
        try clear p2
        try clear c5
        try clear p6
        try clear c7
        try clear c10
        try clear c10b0
        try clear c10b1
        try clear c14
        try clear c14b0
        try clear c15
        try clear c15b0
        obtain ⟨kq, x63_10, rfl, HA, HJ10, HB⟩ := hcut
        cases kq with
        | zero => exact absurd HA.out (by simp [orchestratorlaw56_ServiceFree.j0])
        | succ kj10 =>
          have H := HA.out
          clear HA
          simp only [orchestratorlaw56_ServiceFree.j0] at H
          by_cases c16 : x63_10 = true
          · subst c16
            have H1 : (some false) = some r := by rw [if_pos rfl] at H; exact H
            clear H
            have H := H1
            clear H1
            exact absurd ((Option.some.inj H).trans HT) (by decide)
          · replace c16 := Bool.eq_false_iff.mpr c16
            subst c16
            have H1 : (orchestratorlaw56_ServiceFree.l0 kj10 l0 a1 t106 0 0) = some r := by rw [if_neg (show ¬ (false = true) by decide)] at H; exact H
            clear H
            have H := H1
            clear H1
            have H' := Aside0.mk H
            clear H
            go_wp2
            repeat (go_quiet (fail); try go_wp2)
            go_loopg [9, 10] kj10 (fun kq v9 v10 w' => ∃ (x9_2 : Int) (x10_2 : Int), v9 = .int .i64 x9_2 ∧ v10 = .int .i64 x10_2 ∧ Aside0 (orchestratorlaw56_ServiceFree.l0 kq l0 a1 t106 x9_2 x10_2 = some r) ∧ Aside0 (kq ≤ kj10) ∧ Aside0 (Below w.heap.size w w'))
            case atStart => exact ⟨(0), (0), (by first | rfl | (simp; done) | (simp [*]; done)), (by first | rfl | (simp; done) | (simp [*]; done)), H', ⟨Nat.le_refl _⟩, ⟨by repeat (first | (with_reducible first | exact HB.out | apply below_alloc | apply pw_below_drewN | apply below_drew1) | exact HB.out)⟩⟩
            case round =>
              clear H'
              try clear c1
              try clear p2
              try clear c5
              try clear p6
              try clear c7
              try clear c10
              try clear c10b0
              try clear c10b1
              try clear c14
              try clear c14b0
              try clear c15
              try clear c15b0
              try clear c16
              try clear p2
              try clear p6
              obtain ⟨x9_2, x10_2, rfl, rfl, HA, HK2, HB⟩ := hrel
              cases gk with
              | zero => exact absurd HA.out (by simp [orchestratorlaw56_ServiceFree.l0])
              | succ k2 =>
                have H := HA.out
                clear HA
                simp only [orchestratorlaw56_ServiceFree.l0] at H
                by_cases c17 : x10_2 < (l0.length : Int)
                · rw [if_pos c17] at H
                  have c17b0 : decide (x10_2 < (l0.length : Int)) = true := decide_eq_true c17
                  clear c17
                  by_cases c18 : 0 ≤ x10_2
                  · rw [if_pos c18] at H
                    have c18b0 : decide (0 ≤ x10_2) = true := decide_eq_true c18
                    clear c18
                    by_cases c19 : ((rd_T33 l0 x10_2).f4) = t106
                    · rw [if_pos c19] at H
                      have c19b0 : (((rd_T33 l0 x10_2).f4) == t106) = true := beq_iff_eq.mpr c19
                      have c19b1 : (((rd_T33 l0 x10_2).f4) != t106) = false := bne_eq_false_iff_eq.mpr c19
                      clear c19
                      exact absurd ((Option.some.inj H).trans HT) (by decide)
                    · rw [if_neg c19] at H
                      have c19b0 : (((rd_T33 l0 x10_2).f4) == t106) = false := beq_eq_false_iff_ne.mpr c19
                      have c19b1 : (((rd_T33 l0 x10_2).f4) != t106) = true := bne_iff_ne.mpr c19
                      have H' := Aside0.mk H
                      clear H
                      have p111 : 0 ≤ (x10_2 : Int) := of_decide_eq_true (by first | (with_reducible assumption) | assumption)
                      have q111 : x10_2 < (l0.length : Int) := of_decide_eq_true (by first | (with_reducible assumption) | assumption)
                      obtain ⟨ad111, A111_9, c111_9, A111_10, c111_10, A111_11, c111_11, A111_12, c111_12, A111_13, c111_13, A111_14, c111_14, e111, hx111_0, hx111_1, hx111_2, hx111_3, hx111_4, hx111_5, hx111_6, hx111_7, hx111_8, hx111_9, hx111_10, hx111_11, hx111_12, hx111_13, hx111_14, hx111_15, hx111_16, hl111_9, hi111_9, hl111_10, hi111_10, hl111_11, hi111_11, hl111_12, hi111_12, hl111_13, hi111_13, hl111_14, hi111_14⟩ := at_T33 HR0.out x10_2 p111 q111
                      cases e111
                      replace hx111_0 := (HB.out.cell (World.block_lt_of_cell? w _ hx111_0)).trans hx111_0
                      replace hx111_1 := (HB.out.cell (World.block_lt_of_cell? w _ hx111_1)).trans hx111_1
                      replace hx111_2 := (HB.out.cell (World.block_lt_of_cell? w _ hx111_2)).trans hx111_2
                      replace hx111_3 := (HB.out.cell (World.block_lt_of_cell? w _ hx111_3)).trans hx111_3
                      replace hx111_4 := (HB.out.cell (World.block_lt_of_cell? w _ hx111_4)).trans hx111_4
                      replace hx111_5 := (HB.out.cell (World.block_lt_of_cell? w _ hx111_5)).trans hx111_5
                      replace hx111_6 := (HB.out.cell (World.block_lt_of_cell? w _ hx111_6)).trans hx111_6
                      replace hx111_7 := (HB.out.cell (World.block_lt_of_cell? w _ hx111_7)).trans hx111_7
                      replace hx111_8 := (HB.out.cell (World.block_lt_of_cell? w _ hx111_8)).trans hx111_8
                      replace hx111_9 := (HB.out.cell (World.block_lt_of_cell? w _ hx111_9)).trans hx111_9
                      replace hx111_10 := (HB.out.cell (World.block_lt_of_cell? w _ hx111_10)).trans hx111_10
                      replace hx111_11 := (HB.out.cell (World.block_lt_of_cell? w _ hx111_11)).trans hx111_11
                      replace hx111_12 := (HB.out.cell (World.block_lt_of_cell? w _ hx111_12)).trans hx111_12
                      replace hx111_13 := (HB.out.cell (World.block_lt_of_cell? w _ hx111_13)).trans hx111_13
                      replace hx111_14 := (HB.out.cell (World.block_lt_of_cell? w _ hx111_14)).trans hx111_14
                      replace hx111_15 := (HB.out.cell (World.block_lt_of_cell? w _ hx111_15)).trans hx111_15
                      replace hx111_16 := (HB.out.cell (World.block_lt_of_cell? w _ hx111_16)).trans hx111_16
                      have HR111_9 := Aside0.mk hi111_9
                      have HC111_9 := Aside0.mk hl111_9
                      clear hi111_9 hl111_9
                      have HR111_10 := Aside0.mk hi111_10
                      have HC111_10 := Aside0.mk hl111_10
                      clear hi111_10 hl111_10
                      have HR111_11 := Aside0.mk hi111_11
                      have HC111_11 := Aside0.mk hl111_11
                      clear hi111_11 hl111_11
                      have HR111_12 := Aside0.mk hi111_12
                      have HC111_12 := Aside0.mk hl111_12
                      clear hi111_12 hl111_12
                      have HR111_13 := Aside0.mk hi111_13
                      have HC111_13 := Aside0.mk hl111_13
                      clear hi111_13 hl111_13
                      have HR111_14 := Aside0.mk hi111_14
                      have HC111_14 := Aside0.mk hl111_14
                      clear hi111_14 hl111_14
                      replace p111 := eq_true p111
                      replace q111 := eq_true q111
                      go_wp2
                      repeat (go_quiet (fail); try go_wp2)
                      go_loopg [11, 12] k2 (fun kq v11 v12 w' => ∃ (x11_3 : Bool) (x12_3 : Int), v11 = .bool x11_3 ∧ v12 = .int .i64 x12_3 ∧ Aside0 (orchestratorlaw56_ServiceFree.l1 kq l0 a1 t106 x9_2 x10_2 x11_3 x12_3 = some r) ∧ Aside0 (kq ≤ k2) ∧ Aside0 (Below w.heap.size w w'))
                      case atStart => exact ⟨(false), (0), (by first | rfl | (simp; done) | (simp [*]; done)), (by first | rfl | (simp; done) | (simp [*]; done)), H', ⟨Nat.le_refl _⟩, ⟨by repeat (first | (with_reducible first | exact HB.out | apply below_alloc | apply pw_below_drewN | apply below_drew1) | exact HB.out)⟩⟩
                      case round =>
                        clear H'
                        try clear c1
                        try clear p1
                        try clear q1
                        try clear hx1
                        try clear p2
                        try clear c5
                        try clear p6
                        try clear c7
                        try clear c10
                        try clear c10b0
                        try clear c10b1
                        try clear c11
                        try clear p11
                        try clear q11
                        try clear hx11
                        try clear c14
                        try clear c14b0
                        try clear c15
                        try clear c15b0
                        try clear c16
                        try clear c17
                        try clear c17b0
                        try clear c18
                        try clear c18b0
                        try clear c19
                        try clear c19b0
                        try clear c19b1
                        try clear hx111_0
                        try clear hx111_1
                        try clear hx111_10
                        try clear hx111_11
                        try clear hx111_12
                        try clear hx111_13
                        try clear hx111_14
                        try clear hx111_15
                        try clear hx111_16
                        try clear hx111_2
                        try clear hx111_3
                        try clear hx111_4
                        try clear hx111_5
                        try clear hx111_6
                        try clear hx111_7
                        try clear hx111_8
                        try clear hx111_9
                        try clear p111
                        try clear p2
                        try clear p6
                        try clear q111
                        obtain ⟨x11_3, x12_3, rfl, rfl, HA, HK3, HB⟩ := hrel
                        cases gk with
                        | zero => exact absurd HA.out (by simp [orchestratorlaw56_ServiceFree.l1])
                        | succ k3 =>
                          have H := HA.out
                          clear HA
                          simp only [orchestratorlaw56_ServiceFree.l1] at H
                          by_cases c20 : x12_3 < x10_2
                          · rw [if_pos c20] at H
                            have c20b0 : decide (x12_3 < x10_2) = true := decide_eq_true c20
                            clear c20
                            by_cases c21 : x11_3 = true
                            · subst c21
                              have H1 : (orchestratorlaw56_ServiceFree.l1 k3 l0 a1 t106 x9_2 x10_2 true (wrap64 (x12_3 + 1))) = some r := by rw [if_pos rfl] at H; exact H
                              clear H
                              have H := H1
                              clear H1
                              have H' := Aside0.mk H
                              clear H
                              go_wp2
                              repeat (go_quiet (fail); try go_wp2)
                              go_roundg k3
                              case measure => have := HJ10.out; have := HK2.out; have := HK3.out; omega
                              case rel => exact ⟨(true), (wrap64 (x12_3 + 1)), (by first | rfl | (simp; done) | (simp [*]; done)), (by first | rfl | (simp; done) | (simp [*]; done)), H', ⟨by have := HJ10.out; have := HK2.out; have := HK3.out; omega⟩, ⟨by repeat (first | (with_reducible first | exact HB.out | apply below_alloc | apply pw_below_drewN | apply below_drew1) | exact HB.out)⟩⟩
                            · replace c21 := Bool.eq_false_iff.mpr c21
                              subst c21
                              have H1 : (if 0 ≤ x12_3 then (if x12_3 < (l0.length : Int) then (if 0 ≤ x10_2 then (if x10_2 < (l0.length : Int) then (orchestratorlaw56_ServiceFree.l1 k3 l0 a1 t106 x9_2 x10_2 (((rd_T33 l0 x12_3).f4) == ((rd_T33 l0 x10_2).f4)) (wrap64 (x12_3 + 1))) else (none)) else (none)) else (none)) else (none)) = some r := by rw [if_neg (show ¬ (false = true) by decide)] at H; exact H
                              clear H
                              have H := H1
                              clear H1
                              by_cases c22 : 0 ≤ x12_3
                              · rw [if_pos c22] at H
                                have c22b0 : decide (0 ≤ x12_3) = true := decide_eq_true c22
                                clear c22
                                by_cases c23 : x12_3 < (l0.length : Int)
                                · rw [if_pos c23] at H
                                  have c23b0 : decide (x12_3 < (l0.length : Int)) = true := decide_eq_true c23
                                  clear c23
                                  by_cases c24 : 0 ≤ x10_2
                                  · rw [if_pos c24] at H
                                    have c24b0 : decide (0 ≤ x10_2) = true := decide_eq_true c24
                                    clear c24
                                    by_cases c25 : x10_2 < (l0.length : Int)
                                    · rw [if_pos c25] at H
                                      have c25b0 : decide (x10_2 < (l0.length : Int)) = true := decide_eq_true c25
                                      clear c25
                                      have H' := Aside0.mk H
                                      clear H
                                      have p112 : 0 ≤ (x12_3 : Int) := of_decide_eq_true (by first | (with_reducible assumption) | assumption)
                                      have q112 : x12_3 < (l0.length : Int) := of_decide_eq_true (by first | (with_reducible assumption) | assumption)
                                      obtain ⟨ad112, A112_9, c112_9, A112_10, c112_10, A112_11, c112_11, A112_12, c112_12, A112_13, c112_13, A112_14, c112_14, e112, hx112_0, hx112_1, hx112_2, hx112_3, hx112_4, hx112_5, hx112_6, hx112_7, hx112_8, hx112_9, hx112_10, hx112_11, hx112_12, hx112_13, hx112_14, hx112_15, hx112_16, hl112_9, hi112_9, hl112_10, hi112_10, hl112_11, hi112_11, hl112_12, hi112_12, hl112_13, hi112_13, hl112_14, hi112_14⟩ := at_T33 HR0.out x12_3 p112 q112
                                      obtain rfl : ad111 = ad112 := (by injection e112)
                                      replace hx112_0 := (HB.out.cell (World.block_lt_of_cell? w _ hx112_0)).trans hx112_0
                                      replace hx112_1 := (HB.out.cell (World.block_lt_of_cell? w _ hx112_1)).trans hx112_1
                                      replace hx112_2 := (HB.out.cell (World.block_lt_of_cell? w _ hx112_2)).trans hx112_2
                                      replace hx112_3 := (HB.out.cell (World.block_lt_of_cell? w _ hx112_3)).trans hx112_3
                                      replace hx112_4 := (HB.out.cell (World.block_lt_of_cell? w _ hx112_4)).trans hx112_4
                                      replace hx112_5 := (HB.out.cell (World.block_lt_of_cell? w _ hx112_5)).trans hx112_5
                                      replace hx112_6 := (HB.out.cell (World.block_lt_of_cell? w _ hx112_6)).trans hx112_6
                                      replace hx112_7 := (HB.out.cell (World.block_lt_of_cell? w _ hx112_7)).trans hx112_7
                                      replace hx112_8 := (HB.out.cell (World.block_lt_of_cell? w _ hx112_8)).trans hx112_8
                                      replace hx112_9 := (HB.out.cell (World.block_lt_of_cell? w _ hx112_9)).trans hx112_9
                                      replace hx112_10 := (HB.out.cell (World.block_lt_of_cell? w _ hx112_10)).trans hx112_10
                                      replace hx112_11 := (HB.out.cell (World.block_lt_of_cell? w _ hx112_11)).trans hx112_11
                                      replace hx112_12 := (HB.out.cell (World.block_lt_of_cell? w _ hx112_12)).trans hx112_12
                                      replace hx112_13 := (HB.out.cell (World.block_lt_of_cell? w _ hx112_13)).trans hx112_13
                                      replace hx112_14 := (HB.out.cell (World.block_lt_of_cell? w _ hx112_14)).trans hx112_14
                                      replace hx112_15 := (HB.out.cell (World.block_lt_of_cell? w _ hx112_15)).trans hx112_15
                                      replace hx112_16 := (HB.out.cell (World.block_lt_of_cell? w _ hx112_16)).trans hx112_16
                                      have HR112_9 := Aside0.mk hi112_9
                                      have HC112_9 := Aside0.mk hl112_9
                                      clear hi112_9 hl112_9
                                      have HR112_10 := Aside0.mk hi112_10
                                      have HC112_10 := Aside0.mk hl112_10
                                      clear hi112_10 hl112_10
                                      have HR112_11 := Aside0.mk hi112_11
                                      have HC112_11 := Aside0.mk hl112_11
                                      clear hi112_11 hl112_11
                                      have HR112_12 := Aside0.mk hi112_12
                                      have HC112_12 := Aside0.mk hl112_12
                                      clear hi112_12 hl112_12
                                      have HR112_13 := Aside0.mk hi112_13
                                      have HC112_13 := Aside0.mk hl112_13
                                      clear hi112_13 hl112_13
                                      have HR112_14 := Aside0.mk hi112_14
                                      have HC112_14 := Aside0.mk hl112_14
                                      clear hi112_14 hl112_14
                                      replace p112 := eq_true p112
                                      replace q112 := eq_true q112
                                      have p113 : 0 ≤ (x10_2 : Int) := of_decide_eq_true (by first | (with_reducible assumption) | assumption)
                                      have q113 : x10_2 < (l0.length : Int) := of_decide_eq_true (by first | (with_reducible assumption) | assumption)
                                      obtain ⟨ad113, A113_9, c113_9, A113_10, c113_10, A113_11, c113_11, A113_12, c113_12, A113_13, c113_13, A113_14, c113_14, e113, hx113_0, hx113_1, hx113_2, hx113_3, hx113_4, hx113_5, hx113_6, hx113_7, hx113_8, hx113_9, hx113_10, hx113_11, hx113_12, hx113_13, hx113_14, hx113_15, hx113_16, hl113_9, hi113_9, hl113_10, hi113_10, hl113_11, hi113_11, hl113_12, hi113_12, hl113_13, hi113_13, hl113_14, hi113_14⟩ := at_T33 HR0.out x10_2 p113 q113
                                      obtain rfl : ad111 = ad113 := (by injection e113)
                                      replace hx113_0 := (HB.out.cell (World.block_lt_of_cell? w _ hx113_0)).trans hx113_0
                                      replace hx113_1 := (HB.out.cell (World.block_lt_of_cell? w _ hx113_1)).trans hx113_1
                                      replace hx113_2 := (HB.out.cell (World.block_lt_of_cell? w _ hx113_2)).trans hx113_2
                                      replace hx113_3 := (HB.out.cell (World.block_lt_of_cell? w _ hx113_3)).trans hx113_3
                                      replace hx113_4 := (HB.out.cell (World.block_lt_of_cell? w _ hx113_4)).trans hx113_4
                                      replace hx113_5 := (HB.out.cell (World.block_lt_of_cell? w _ hx113_5)).trans hx113_5
                                      replace hx113_6 := (HB.out.cell (World.block_lt_of_cell? w _ hx113_6)).trans hx113_6
                                      replace hx113_7 := (HB.out.cell (World.block_lt_of_cell? w _ hx113_7)).trans hx113_7
                                      replace hx113_8 := (HB.out.cell (World.block_lt_of_cell? w _ hx113_8)).trans hx113_8
                                      replace hx113_9 := (HB.out.cell (World.block_lt_of_cell? w _ hx113_9)).trans hx113_9
                                      replace hx113_10 := (HB.out.cell (World.block_lt_of_cell? w _ hx113_10)).trans hx113_10
                                      replace hx113_11 := (HB.out.cell (World.block_lt_of_cell? w _ hx113_11)).trans hx113_11
                                      replace hx113_12 := (HB.out.cell (World.block_lt_of_cell? w _ hx113_12)).trans hx113_12
                                      replace hx113_13 := (HB.out.cell (World.block_lt_of_cell? w _ hx113_13)).trans hx113_13
                                      replace hx113_14 := (HB.out.cell (World.block_lt_of_cell? w _ hx113_14)).trans hx113_14
                                      replace hx113_15 := (HB.out.cell (World.block_lt_of_cell? w _ hx113_15)).trans hx113_15
                                      replace hx113_16 := (HB.out.cell (World.block_lt_of_cell? w _ hx113_16)).trans hx113_16
                                      have HR113_9 := Aside0.mk hi113_9
                                      have HC113_9 := Aside0.mk hl113_9
                                      clear hi113_9 hl113_9
                                      have HR113_10 := Aside0.mk hi113_10
                                      have HC113_10 := Aside0.mk hl113_10
                                      clear hi113_10 hl113_10
                                      have HR113_11 := Aside0.mk hi113_11
                                      have HC113_11 := Aside0.mk hl113_11
                                      clear hi113_11 hl113_11
                                      have HR113_12 := Aside0.mk hi113_12
                                      have HC113_12 := Aside0.mk hl113_12
                                      clear hi113_12 hl113_12
                                      have HR113_13 := Aside0.mk hi113_13
                                      have HC113_13 := Aside0.mk hl113_13
                                      clear hi113_13 hl113_13
                                      have HR113_14 := Aside0.mk hi113_14
                                      have HC113_14 := Aside0.mk hl113_14
                                      clear hi113_14 hl113_14
                                      replace p113 := eq_true p113
                                      replace q113 := eq_true q113
                                      go_wp2
                                      repeat (go_quiet (fail); try go_wp2)
                                      go_roundg k3
                                      case measure => have := HJ10.out; have := HK2.out; have := HK3.out; omega
                                      case rel => exact ⟨((((rd_T33 l0 x12_3).f4) == ((rd_T33 l0 x10_2).f4))), (wrap64 (x12_3 + 1)), (by first | rfl | (simp; done) | (simp [*]; done)), (by first | rfl | (simp; done) | (simp [*]; done)), H', ⟨by have := HJ10.out; have := HK2.out; have := HK3.out; omega⟩, ⟨by repeat (first | (with_reducible first | exact HB.out | apply below_alloc | apply pw_below_drewN | apply below_drew1) | exact HB.out)⟩⟩
                                    · rw [if_neg c25] at H
                                      exact absurd H (by simp)
                                  · rw [if_neg c24] at H
                                    exact absurd H (by simp)
                                · rw [if_neg c23] at H
                                  exact absurd H (by simp)
                              · rw [if_neg c22] at H
                                exact absurd H (by simp)
                          · rw [if_neg c20] at H
                            have c20b0 : decide (x12_3 < x10_2) = false := decide_eq_false c20
                            clear c20
                            by_cases c26 : 0 ≤ x10_2
                            · rw [if_pos c26] at H
                              have c26b0 : decide (0 ≤ x10_2) = true := decide_eq_true c26
                              clear c26
                              by_cases c27 : x10_2 < (l0.length : Int)
                              · rw [if_pos c27] at H
                                have c27b0 : decide (x10_2 < (l0.length : Int)) = true := decide_eq_true c27
                                clear c27
                                by_cases c28 : ((rd_T33 l0 x10_2).f4) ≥ a1
                                · rw [if_pos c28] at H
                                  have c28b0 : decide (a1 ≤ ((rd_T33 l0 x10_2).f4)) = true := decide_eq_true c28
                                  clear c28
                                  by_cases c29 : ((rd_T33 l0 x10_2).f4) < t106
                                  · rw [if_pos c29] at H
                                    have c29b0 : decide (((rd_T33 l0 x10_2).f4) < t106) = true := decide_eq_true c29
                                    clear c29
                                    by_cases c30 : x11_3 = true
                                    · subst c30
                                      have H1 : (orchestratorlaw56_ServiceFree.l0 k3 l0 a1 t106 x9_2 (wrap64 (x10_2 + 1))) = some r := by rw [if_pos rfl] at H; exact H
                                      clear H
                                      have H := H1
                                      clear H1
                                      have H' := Aside0.mk H
                                      clear H
                                      have p114 : 0 ≤ (x10_2 : Int) := of_decide_eq_true (by first | (with_reducible assumption) | assumption)
                                      have q114 : x10_2 < (l0.length : Int) := of_decide_eq_true (by first | (with_reducible assumption) | assumption)
                                      obtain ⟨ad114, A114_9, c114_9, A114_10, c114_10, A114_11, c114_11, A114_12, c114_12, A114_13, c114_13, A114_14, c114_14, e114, hx114_0, hx114_1, hx114_2, hx114_3, hx114_4, hx114_5, hx114_6, hx114_7, hx114_8, hx114_9, hx114_10, hx114_11, hx114_12, hx114_13, hx114_14, hx114_15, hx114_16, hl114_9, hi114_9, hl114_10, hi114_10, hl114_11, hi114_11, hl114_12, hi114_12, hl114_13, hi114_13, hl114_14, hi114_14⟩ := at_T33 HR0.out x10_2 p114 q114
                                      obtain rfl : ad111 = ad114 := (by injection e114)
                                      replace hx114_0 := (HB.out.cell (World.block_lt_of_cell? w _ hx114_0)).trans hx114_0
                                      replace hx114_1 := (HB.out.cell (World.block_lt_of_cell? w _ hx114_1)).trans hx114_1
                                      replace hx114_2 := (HB.out.cell (World.block_lt_of_cell? w _ hx114_2)).trans hx114_2
                                      replace hx114_3 := (HB.out.cell (World.block_lt_of_cell? w _ hx114_3)).trans hx114_3
                                      replace hx114_4 := (HB.out.cell (World.block_lt_of_cell? w _ hx114_4)).trans hx114_4
                                      replace hx114_5 := (HB.out.cell (World.block_lt_of_cell? w _ hx114_5)).trans hx114_5
                                      replace hx114_6 := (HB.out.cell (World.block_lt_of_cell? w _ hx114_6)).trans hx114_6
                                      replace hx114_7 := (HB.out.cell (World.block_lt_of_cell? w _ hx114_7)).trans hx114_7
                                      replace hx114_8 := (HB.out.cell (World.block_lt_of_cell? w _ hx114_8)).trans hx114_8
                                      replace hx114_9 := (HB.out.cell (World.block_lt_of_cell? w _ hx114_9)).trans hx114_9
                                      replace hx114_10 := (HB.out.cell (World.block_lt_of_cell? w _ hx114_10)).trans hx114_10
                                      replace hx114_11 := (HB.out.cell (World.block_lt_of_cell? w _ hx114_11)).trans hx114_11
                                      replace hx114_12 := (HB.out.cell (World.block_lt_of_cell? w _ hx114_12)).trans hx114_12
                                      replace hx114_13 := (HB.out.cell (World.block_lt_of_cell? w _ hx114_13)).trans hx114_13
                                      replace hx114_14 := (HB.out.cell (World.block_lt_of_cell? w _ hx114_14)).trans hx114_14
                                      replace hx114_15 := (HB.out.cell (World.block_lt_of_cell? w _ hx114_15)).trans hx114_15
                                      replace hx114_16 := (HB.out.cell (World.block_lt_of_cell? w _ hx114_16)).trans hx114_16
                                      have HR114_9 := Aside0.mk hi114_9
                                      have HC114_9 := Aside0.mk hl114_9
                                      clear hi114_9 hl114_9
                                      have HR114_10 := Aside0.mk hi114_10
                                      have HC114_10 := Aside0.mk hl114_10
                                      clear hi114_10 hl114_10
                                      have HR114_11 := Aside0.mk hi114_11
                                      have HC114_11 := Aside0.mk hl114_11
                                      clear hi114_11 hl114_11
                                      have HR114_12 := Aside0.mk hi114_12
                                      have HC114_12 := Aside0.mk hl114_12
                                      clear hi114_12 hl114_12
                                      have HR114_13 := Aside0.mk hi114_13
                                      have HC114_13 := Aside0.mk hl114_13
                                      clear hi114_13 hl114_13
                                      have HR114_14 := Aside0.mk hi114_14
                                      have HC114_14 := Aside0.mk hl114_14
                                      clear hi114_14 hl114_14
                                      replace p114 := eq_true p114
                                      replace q114 := eq_true q114
                                      have p115 : 0 ≤ (x10_2 : Int) := of_decide_eq_true (by first | (with_reducible assumption) | assumption)
                                      have q115 : x10_2 < (l0.length : Int) := of_decide_eq_true (by first | (with_reducible assumption) | assumption)
                                      obtain ⟨ad115, A115_9, c115_9, A115_10, c115_10, A115_11, c115_11, A115_12, c115_12, A115_13, c115_13, A115_14, c115_14, e115, hx115_0, hx115_1, hx115_2, hx115_3, hx115_4, hx115_5, hx115_6, hx115_7, hx115_8, hx115_9, hx115_10, hx115_11, hx115_12, hx115_13, hx115_14, hx115_15, hx115_16, hl115_9, hi115_9, hl115_10, hi115_10, hl115_11, hi115_11, hl115_12, hi115_12, hl115_13, hi115_13, hl115_14, hi115_14⟩ := at_T33 HR0.out x10_2 p115 q115
                                      obtain rfl : ad111 = ad115 := (by injection e115)
                                      replace hx115_0 := (HB.out.cell (World.block_lt_of_cell? w _ hx115_0)).trans hx115_0
                                      replace hx115_1 := (HB.out.cell (World.block_lt_of_cell? w _ hx115_1)).trans hx115_1
                                      replace hx115_2 := (HB.out.cell (World.block_lt_of_cell? w _ hx115_2)).trans hx115_2
                                      replace hx115_3 := (HB.out.cell (World.block_lt_of_cell? w _ hx115_3)).trans hx115_3
                                      replace hx115_4 := (HB.out.cell (World.block_lt_of_cell? w _ hx115_4)).trans hx115_4
                                      replace hx115_5 := (HB.out.cell (World.block_lt_of_cell? w _ hx115_5)).trans hx115_5
                                      replace hx115_6 := (HB.out.cell (World.block_lt_of_cell? w _ hx115_6)).trans hx115_6
                                      replace hx115_7 := (HB.out.cell (World.block_lt_of_cell? w _ hx115_7)).trans hx115_7
                                      replace hx115_8 := (HB.out.cell (World.block_lt_of_cell? w _ hx115_8)).trans hx115_8
                                      replace hx115_9 := (HB.out.cell (World.block_lt_of_cell? w _ hx115_9)).trans hx115_9
                                      replace hx115_10 := (HB.out.cell (World.block_lt_of_cell? w _ hx115_10)).trans hx115_10
                                      replace hx115_11 := (HB.out.cell (World.block_lt_of_cell? w _ hx115_11)).trans hx115_11
                                      replace hx115_12 := (HB.out.cell (World.block_lt_of_cell? w _ hx115_12)).trans hx115_12
                                      replace hx115_13 := (HB.out.cell (World.block_lt_of_cell? w _ hx115_13)).trans hx115_13
                                      replace hx115_14 := (HB.out.cell (World.block_lt_of_cell? w _ hx115_14)).trans hx115_14
                                      replace hx115_15 := (HB.out.cell (World.block_lt_of_cell? w _ hx115_15)).trans hx115_15
                                      replace hx115_16 := (HB.out.cell (World.block_lt_of_cell? w _ hx115_16)).trans hx115_16
                                      have HR115_9 := Aside0.mk hi115_9
                                      have HC115_9 := Aside0.mk hl115_9
                                      clear hi115_9 hl115_9
                                      have HR115_10 := Aside0.mk hi115_10
                                      have HC115_10 := Aside0.mk hl115_10
                                      clear hi115_10 hl115_10
                                      have HR115_11 := Aside0.mk hi115_11
                                      have HC115_11 := Aside0.mk hl115_11
                                      clear hi115_11 hl115_11
                                      have HR115_12 := Aside0.mk hi115_12
                                      have HC115_12 := Aside0.mk hl115_12
                                      clear hi115_12 hl115_12
                                      have HR115_13 := Aside0.mk hi115_13
                                      have HC115_13 := Aside0.mk hl115_13
                                      clear hi115_13 hl115_13
                                      have HR115_14 := Aside0.mk hi115_14
                                      have HC115_14 := Aside0.mk hl115_14
                                      clear hi115_14 hl115_14
                                      replace p115 := eq_true p115
                                      replace q115 := eq_true q115
                                      have ea_ := Option.some.inj (hx114_9.symm.trans hx115_9)
                                      injection ea_ with ea_ en_ ec_
                                      subst ea_
                                      subst ec_
                                      clear en_
                                      have ea_ := Option.some.inj (hx114_10.symm.trans hx115_10)
                                      injection ea_ with ea_ en_ ec_
                                      subst ea_
                                      subst ec_
                                      clear en_
                                      have ea_ := Option.some.inj (hx114_11.symm.trans hx115_11)
                                      injection ea_ with ea_ en_ ec_
                                      subst ea_
                                      subst ec_
                                      clear en_
                                      have ea_ := Option.some.inj (hx114_12.symm.trans hx115_12)
                                      injection ea_ with ea_ en_ ec_
                                      subst ea_
                                      subst ec_
                                      clear en_
                                      have ea_ := Option.some.inj (hx114_13.symm.trans hx115_13)
                                      injection ea_ with ea_ en_ ec_
                                      subst ea_
                                      subst ec_
                                      clear en_
                                      have ea_ := Option.some.inj (hx114_14.symm.trans hx115_14)
                                      injection ea_ with ea_ en_ ec_
                                      subst ea_
                                      subst ec_
                                      clear en_
                                      go_wp2
                                      repeat (go_quiet (fail); try go_wp2)
                                      go_roundg k3
                                      case measure => have := HJ10.out; have := HK2.out; have := HK3.out; omega
                                      case rel => exact ⟨(x9_2), (wrap64 (x10_2 + 1)), (by first | rfl | (simp; done) | (simp [*]; done)), (by first | rfl | (simp; done) | (simp [*]; done)), H', ⟨by have := HJ10.out; have := HK2.out; have := HK3.out; omega⟩, ⟨by repeat (first | (with_reducible first | exact HB.out | apply below_alloc | apply pw_below_drewN | apply below_drew1) | exact HB.out)⟩⟩
                                    · replace c30 := Bool.eq_false_iff.mpr c30
                                      subst c30
                                      have H1 : (orchestratorlaw56_ServiceFree.l0 k3 l0 a1 t106 (wrap64 (x9_2 + 1)) (wrap64 (x10_2 + 1))) = some r := by rw [if_neg (show ¬ (false = true) by decide)] at H; exact H
                                      clear H
                                      have H := H1
                                      clear H1
                                      have H' := Aside0.mk H
                                      clear H
                                      have p114 : 0 ≤ (x10_2 : Int) := of_decide_eq_true (by first | (with_reducible assumption) | assumption)
                                      have q114 : x10_2 < (l0.length : Int) := of_decide_eq_true (by first | (with_reducible assumption) | assumption)
                                      obtain ⟨ad114, A114_9, c114_9, A114_10, c114_10, A114_11, c114_11, A114_12, c114_12, A114_13, c114_13, A114_14, c114_14, e114, hx114_0, hx114_1, hx114_2, hx114_3, hx114_4, hx114_5, hx114_6, hx114_7, hx114_8, hx114_9, hx114_10, hx114_11, hx114_12, hx114_13, hx114_14, hx114_15, hx114_16, hl114_9, hi114_9, hl114_10, hi114_10, hl114_11, hi114_11, hl114_12, hi114_12, hl114_13, hi114_13, hl114_14, hi114_14⟩ := at_T33 HR0.out x10_2 p114 q114
                                      obtain rfl : ad111 = ad114 := (by injection e114)
                                      replace hx114_0 := (HB.out.cell (World.block_lt_of_cell? w _ hx114_0)).trans hx114_0
                                      replace hx114_1 := (HB.out.cell (World.block_lt_of_cell? w _ hx114_1)).trans hx114_1
                                      replace hx114_2 := (HB.out.cell (World.block_lt_of_cell? w _ hx114_2)).trans hx114_2
                                      replace hx114_3 := (HB.out.cell (World.block_lt_of_cell? w _ hx114_3)).trans hx114_3
                                      replace hx114_4 := (HB.out.cell (World.block_lt_of_cell? w _ hx114_4)).trans hx114_4
                                      replace hx114_5 := (HB.out.cell (World.block_lt_of_cell? w _ hx114_5)).trans hx114_5
                                      replace hx114_6 := (HB.out.cell (World.block_lt_of_cell? w _ hx114_6)).trans hx114_6
                                      replace hx114_7 := (HB.out.cell (World.block_lt_of_cell? w _ hx114_7)).trans hx114_7
                                      replace hx114_8 := (HB.out.cell (World.block_lt_of_cell? w _ hx114_8)).trans hx114_8
                                      replace hx114_9 := (HB.out.cell (World.block_lt_of_cell? w _ hx114_9)).trans hx114_9
                                      replace hx114_10 := (HB.out.cell (World.block_lt_of_cell? w _ hx114_10)).trans hx114_10
                                      replace hx114_11 := (HB.out.cell (World.block_lt_of_cell? w _ hx114_11)).trans hx114_11
                                      replace hx114_12 := (HB.out.cell (World.block_lt_of_cell? w _ hx114_12)).trans hx114_12
                                      replace hx114_13 := (HB.out.cell (World.block_lt_of_cell? w _ hx114_13)).trans hx114_13
                                      replace hx114_14 := (HB.out.cell (World.block_lt_of_cell? w _ hx114_14)).trans hx114_14
                                      replace hx114_15 := (HB.out.cell (World.block_lt_of_cell? w _ hx114_15)).trans hx114_15
                                      replace hx114_16 := (HB.out.cell (World.block_lt_of_cell? w _ hx114_16)).trans hx114_16
                                      have HR114_9 := Aside0.mk hi114_9
                                      have HC114_9 := Aside0.mk hl114_9
                                      clear hi114_9 hl114_9
                                      have HR114_10 := Aside0.mk hi114_10
                                      have HC114_10 := Aside0.mk hl114_10
                                      clear hi114_10 hl114_10
                                      have HR114_11 := Aside0.mk hi114_11
                                      have HC114_11 := Aside0.mk hl114_11
                                      clear hi114_11 hl114_11
                                      have HR114_12 := Aside0.mk hi114_12
                                      have HC114_12 := Aside0.mk hl114_12
                                      clear hi114_12 hl114_12
                                      have HR114_13 := Aside0.mk hi114_13
                                      have HC114_13 := Aside0.mk hl114_13
                                      clear hi114_13 hl114_13
                                      have HR114_14 := Aside0.mk hi114_14
                                      have HC114_14 := Aside0.mk hl114_14
                                      clear hi114_14 hl114_14
                                      replace p114 := eq_true p114
                                      replace q114 := eq_true q114
                                      have p115 : 0 ≤ (x10_2 : Int) := of_decide_eq_true (by first | (with_reducible assumption) | assumption)
                                      have q115 : x10_2 < (l0.length : Int) := of_decide_eq_true (by first | (with_reducible assumption) | assumption)
                                      obtain ⟨ad115, A115_9, c115_9, A115_10, c115_10, A115_11, c115_11, A115_12, c115_12, A115_13, c115_13, A115_14, c115_14, e115, hx115_0, hx115_1, hx115_2, hx115_3, hx115_4, hx115_5, hx115_6, hx115_7, hx115_8, hx115_9, hx115_10, hx115_11, hx115_12, hx115_13, hx115_14, hx115_15, hx115_16, hl115_9, hi115_9, hl115_10, hi115_10, hl115_11, hi115_11, hl115_12, hi115_12, hl115_13, hi115_13, hl115_14, hi115_14⟩ := at_T33 HR0.out x10_2 p115 q115
                                      obtain rfl : ad111 = ad115 := (by injection e115)
                                      replace hx115_0 := (HB.out.cell (World.block_lt_of_cell? w _ hx115_0)).trans hx115_0
                                      replace hx115_1 := (HB.out.cell (World.block_lt_of_cell? w _ hx115_1)).trans hx115_1
                                      replace hx115_2 := (HB.out.cell (World.block_lt_of_cell? w _ hx115_2)).trans hx115_2
                                      replace hx115_3 := (HB.out.cell (World.block_lt_of_cell? w _ hx115_3)).trans hx115_3
                                      replace hx115_4 := (HB.out.cell (World.block_lt_of_cell? w _ hx115_4)).trans hx115_4
                                      replace hx115_5 := (HB.out.cell (World.block_lt_of_cell? w _ hx115_5)).trans hx115_5
                                      replace hx115_6 := (HB.out.cell (World.block_lt_of_cell? w _ hx115_6)).trans hx115_6
                                      replace hx115_7 := (HB.out.cell (World.block_lt_of_cell? w _ hx115_7)).trans hx115_7
                                      replace hx115_8 := (HB.out.cell (World.block_lt_of_cell? w _ hx115_8)).trans hx115_8
                                      replace hx115_9 := (HB.out.cell (World.block_lt_of_cell? w _ hx115_9)).trans hx115_9
                                      replace hx115_10 := (HB.out.cell (World.block_lt_of_cell? w _ hx115_10)).trans hx115_10
                                      replace hx115_11 := (HB.out.cell (World.block_lt_of_cell? w _ hx115_11)).trans hx115_11
                                      replace hx115_12 := (HB.out.cell (World.block_lt_of_cell? w _ hx115_12)).trans hx115_12
                                      replace hx115_13 := (HB.out.cell (World.block_lt_of_cell? w _ hx115_13)).trans hx115_13
                                      replace hx115_14 := (HB.out.cell (World.block_lt_of_cell? w _ hx115_14)).trans hx115_14
                                      replace hx115_15 := (HB.out.cell (World.block_lt_of_cell? w _ hx115_15)).trans hx115_15
                                      replace hx115_16 := (HB.out.cell (World.block_lt_of_cell? w _ hx115_16)).trans hx115_16
                                      have HR115_9 := Aside0.mk hi115_9
                                      have HC115_9 := Aside0.mk hl115_9
                                      clear hi115_9 hl115_9
                                      have HR115_10 := Aside0.mk hi115_10
                                      have HC115_10 := Aside0.mk hl115_10
                                      clear hi115_10 hl115_10
                                      have HR115_11 := Aside0.mk hi115_11
                                      have HC115_11 := Aside0.mk hl115_11
                                      clear hi115_11 hl115_11
                                      have HR115_12 := Aside0.mk hi115_12
                                      have HC115_12 := Aside0.mk hl115_12
                                      clear hi115_12 hl115_12
                                      have HR115_13 := Aside0.mk hi115_13
                                      have HC115_13 := Aside0.mk hl115_13
                                      clear hi115_13 hl115_13
                                      have HR115_14 := Aside0.mk hi115_14
                                      have HC115_14 := Aside0.mk hl115_14
                                      clear hi115_14 hl115_14
                                      replace p115 := eq_true p115
                                      replace q115 := eq_true q115
                                      have ea_ := Option.some.inj (hx114_9.symm.trans hx115_9)
                                      injection ea_ with ea_ en_ ec_
                                      subst ea_
                                      subst ec_
                                      clear en_
                                      have ea_ := Option.some.inj (hx114_10.symm.trans hx115_10)
                                      injection ea_ with ea_ en_ ec_
                                      subst ea_
                                      subst ec_
                                      clear en_
                                      have ea_ := Option.some.inj (hx114_11.symm.trans hx115_11)
                                      injection ea_ with ea_ en_ ec_
                                      subst ea_
                                      subst ec_
                                      clear en_
                                      have ea_ := Option.some.inj (hx114_12.symm.trans hx115_12)
                                      injection ea_ with ea_ en_ ec_
                                      subst ea_
                                      subst ec_
                                      clear en_
                                      have ea_ := Option.some.inj (hx114_13.symm.trans hx115_13)
                                      injection ea_ with ea_ en_ ec_
                                      subst ea_
                                      subst ec_
                                      clear en_
                                      have ea_ := Option.some.inj (hx114_14.symm.trans hx115_14)
                                      injection ea_ with ea_ en_ ec_
                                      subst ea_
                                      subst ec_
                                      clear en_
                                      go_wp2
                                      repeat (go_quiet (fail); try go_wp2)
                                      go_roundg k3
                                      case measure => have := HJ10.out; have := HK2.out; have := HK3.out; omega
                                      case rel => exact ⟨(wrap64 (x9_2 + 1)), (wrap64 (x10_2 + 1)), (by first | rfl | (simp; done) | (simp [*]; done)), (by first | rfl | (simp; done) | (simp [*]; done)), H', ⟨by have := HJ10.out; have := HK2.out; have := HK3.out; omega⟩, ⟨by repeat (first | (with_reducible first | exact HB.out | apply below_alloc | apply pw_below_drewN | apply below_drew1) | exact HB.out)⟩⟩
                                  · rw [if_neg c29] at H
                                    have c29b0 : decide (((rd_T33 l0 x10_2).f4) < t106) = false := decide_eq_false c29
                                    clear c29
                                    have H' := Aside0.mk H
                                    clear H
                                    have p114 : 0 ≤ (x10_2 : Int) := of_decide_eq_true (by first | (with_reducible assumption) | assumption)
                                    have q114 : x10_2 < (l0.length : Int) := of_decide_eq_true (by first | (with_reducible assumption) | assumption)
                                    obtain ⟨ad114, A114_9, c114_9, A114_10, c114_10, A114_11, c114_11, A114_12, c114_12, A114_13, c114_13, A114_14, c114_14, e114, hx114_0, hx114_1, hx114_2, hx114_3, hx114_4, hx114_5, hx114_6, hx114_7, hx114_8, hx114_9, hx114_10, hx114_11, hx114_12, hx114_13, hx114_14, hx114_15, hx114_16, hl114_9, hi114_9, hl114_10, hi114_10, hl114_11, hi114_11, hl114_12, hi114_12, hl114_13, hi114_13, hl114_14, hi114_14⟩ := at_T33 HR0.out x10_2 p114 q114
                                    obtain rfl : ad111 = ad114 := (by injection e114)
                                    replace hx114_0 := (HB.out.cell (World.block_lt_of_cell? w _ hx114_0)).trans hx114_0
                                    replace hx114_1 := (HB.out.cell (World.block_lt_of_cell? w _ hx114_1)).trans hx114_1
                                    replace hx114_2 := (HB.out.cell (World.block_lt_of_cell? w _ hx114_2)).trans hx114_2
                                    replace hx114_3 := (HB.out.cell (World.block_lt_of_cell? w _ hx114_3)).trans hx114_3
                                    replace hx114_4 := (HB.out.cell (World.block_lt_of_cell? w _ hx114_4)).trans hx114_4
                                    replace hx114_5 := (HB.out.cell (World.block_lt_of_cell? w _ hx114_5)).trans hx114_5
                                    replace hx114_6 := (HB.out.cell (World.block_lt_of_cell? w _ hx114_6)).trans hx114_6
                                    replace hx114_7 := (HB.out.cell (World.block_lt_of_cell? w _ hx114_7)).trans hx114_7
                                    replace hx114_8 := (HB.out.cell (World.block_lt_of_cell? w _ hx114_8)).trans hx114_8
                                    replace hx114_9 := (HB.out.cell (World.block_lt_of_cell? w _ hx114_9)).trans hx114_9
                                    replace hx114_10 := (HB.out.cell (World.block_lt_of_cell? w _ hx114_10)).trans hx114_10
                                    replace hx114_11 := (HB.out.cell (World.block_lt_of_cell? w _ hx114_11)).trans hx114_11
                                    replace hx114_12 := (HB.out.cell (World.block_lt_of_cell? w _ hx114_12)).trans hx114_12
                                    replace hx114_13 := (HB.out.cell (World.block_lt_of_cell? w _ hx114_13)).trans hx114_13
                                    replace hx114_14 := (HB.out.cell (World.block_lt_of_cell? w _ hx114_14)).trans hx114_14
                                    replace hx114_15 := (HB.out.cell (World.block_lt_of_cell? w _ hx114_15)).trans hx114_15
                                    replace hx114_16 := (HB.out.cell (World.block_lt_of_cell? w _ hx114_16)).trans hx114_16
                                    have HR114_9 := Aside0.mk hi114_9
                                    have HC114_9 := Aside0.mk hl114_9
                                    clear hi114_9 hl114_9
                                    have HR114_10 := Aside0.mk hi114_10
                                    have HC114_10 := Aside0.mk hl114_10
                                    clear hi114_10 hl114_10
                                    have HR114_11 := Aside0.mk hi114_11
                                    have HC114_11 := Aside0.mk hl114_11
                                    clear hi114_11 hl114_11
                                    have HR114_12 := Aside0.mk hi114_12
                                    have HC114_12 := Aside0.mk hl114_12
                                    clear hi114_12 hl114_12
                                    have HR114_13 := Aside0.mk hi114_13
                                    have HC114_13 := Aside0.mk hl114_13
                                    clear hi114_13 hl114_13
                                    have HR114_14 := Aside0.mk hi114_14
                                    have HC114_14 := Aside0.mk hl114_14
                                    clear hi114_14 hl114_14
                                    replace p114 := eq_true p114
                                    replace q114 := eq_true q114
                                    have p115 : 0 ≤ (x10_2 : Int) := of_decide_eq_true (by first | (with_reducible assumption) | assumption)
                                    have q115 : x10_2 < (l0.length : Int) := of_decide_eq_true (by first | (with_reducible assumption) | assumption)
                                    obtain ⟨ad115, A115_9, c115_9, A115_10, c115_10, A115_11, c115_11, A115_12, c115_12, A115_13, c115_13, A115_14, c115_14, e115, hx115_0, hx115_1, hx115_2, hx115_3, hx115_4, hx115_5, hx115_6, hx115_7, hx115_8, hx115_9, hx115_10, hx115_11, hx115_12, hx115_13, hx115_14, hx115_15, hx115_16, hl115_9, hi115_9, hl115_10, hi115_10, hl115_11, hi115_11, hl115_12, hi115_12, hl115_13, hi115_13, hl115_14, hi115_14⟩ := at_T33 HR0.out x10_2 p115 q115
                                    obtain rfl : ad111 = ad115 := (by injection e115)
                                    replace hx115_0 := (HB.out.cell (World.block_lt_of_cell? w _ hx115_0)).trans hx115_0
                                    replace hx115_1 := (HB.out.cell (World.block_lt_of_cell? w _ hx115_1)).trans hx115_1
                                    replace hx115_2 := (HB.out.cell (World.block_lt_of_cell? w _ hx115_2)).trans hx115_2
                                    replace hx115_3 := (HB.out.cell (World.block_lt_of_cell? w _ hx115_3)).trans hx115_3
                                    replace hx115_4 := (HB.out.cell (World.block_lt_of_cell? w _ hx115_4)).trans hx115_4
                                    replace hx115_5 := (HB.out.cell (World.block_lt_of_cell? w _ hx115_5)).trans hx115_5
                                    replace hx115_6 := (HB.out.cell (World.block_lt_of_cell? w _ hx115_6)).trans hx115_6
                                    replace hx115_7 := (HB.out.cell (World.block_lt_of_cell? w _ hx115_7)).trans hx115_7
                                    replace hx115_8 := (HB.out.cell (World.block_lt_of_cell? w _ hx115_8)).trans hx115_8
                                    replace hx115_9 := (HB.out.cell (World.block_lt_of_cell? w _ hx115_9)).trans hx115_9
                                    replace hx115_10 := (HB.out.cell (World.block_lt_of_cell? w _ hx115_10)).trans hx115_10
                                    replace hx115_11 := (HB.out.cell (World.block_lt_of_cell? w _ hx115_11)).trans hx115_11
                                    replace hx115_12 := (HB.out.cell (World.block_lt_of_cell? w _ hx115_12)).trans hx115_12
                                    replace hx115_13 := (HB.out.cell (World.block_lt_of_cell? w _ hx115_13)).trans hx115_13
                                    replace hx115_14 := (HB.out.cell (World.block_lt_of_cell? w _ hx115_14)).trans hx115_14
                                    replace hx115_15 := (HB.out.cell (World.block_lt_of_cell? w _ hx115_15)).trans hx115_15
                                    replace hx115_16 := (HB.out.cell (World.block_lt_of_cell? w _ hx115_16)).trans hx115_16
                                    have HR115_9 := Aside0.mk hi115_9
                                    have HC115_9 := Aside0.mk hl115_9
                                    clear hi115_9 hl115_9
                                    have HR115_10 := Aside0.mk hi115_10
                                    have HC115_10 := Aside0.mk hl115_10
                                    clear hi115_10 hl115_10
                                    have HR115_11 := Aside0.mk hi115_11
                                    have HC115_11 := Aside0.mk hl115_11
                                    clear hi115_11 hl115_11
                                    have HR115_12 := Aside0.mk hi115_12
                                    have HC115_12 := Aside0.mk hl115_12
                                    clear hi115_12 hl115_12
                                    have HR115_13 := Aside0.mk hi115_13
                                    have HC115_13 := Aside0.mk hl115_13
                                    clear hi115_13 hl115_13
                                    have HR115_14 := Aside0.mk hi115_14
                                    have HC115_14 := Aside0.mk hl115_14
                                    clear hi115_14 hl115_14
                                    replace p115 := eq_true p115
                                    replace q115 := eq_true q115
                                    have ea_ := Option.some.inj (hx114_9.symm.trans hx115_9)
                                    injection ea_ with ea_ en_ ec_
                                    subst ea_
                                    subst ec_
                                    clear en_
                                    have ea_ := Option.some.inj (hx114_10.symm.trans hx115_10)
                                    injection ea_ with ea_ en_ ec_
                                    subst ea_
                                    subst ec_
                                    clear en_
                                    have ea_ := Option.some.inj (hx114_11.symm.trans hx115_11)
                                    injection ea_ with ea_ en_ ec_
                                    subst ea_
                                    subst ec_
                                    clear en_
                                    have ea_ := Option.some.inj (hx114_12.symm.trans hx115_12)
                                    injection ea_ with ea_ en_ ec_
                                    subst ea_
                                    subst ec_
                                    clear en_
                                    have ea_ := Option.some.inj (hx114_13.symm.trans hx115_13)
                                    injection ea_ with ea_ en_ ec_
                                    subst ea_
                                    subst ec_
                                    clear en_
                                    have ea_ := Option.some.inj (hx114_14.symm.trans hx115_14)
                                    injection ea_ with ea_ en_ ec_
                                    subst ea_
                                    subst ec_
                                    clear en_
                                    go_wp2
                                    repeat (go_quiet (fail); try go_wp2)
                                    go_roundg k3
                                    case measure => have := HJ10.out; have := HK2.out; have := HK3.out; omega
                                    case rel => exact ⟨(x9_2), (wrap64 (x10_2 + 1)), (by first | rfl | (simp; done) | (simp [*]; done)), (by first | rfl | (simp; done) | (simp [*]; done)), H', ⟨by have := HJ10.out; have := HK2.out; have := HK3.out; omega⟩, ⟨by repeat (first | (with_reducible first | exact HB.out | apply below_alloc | apply pw_below_drewN | apply below_drew1) | exact HB.out)⟩⟩
                                · rw [if_neg c28] at H
                                  have c28b0 : decide (a1 ≤ ((rd_T33 l0 x10_2).f4)) = false := decide_eq_false c28
                                  clear c28
                                  have H' := Aside0.mk H
                                  clear H
                                  have p114 : 0 ≤ (x10_2 : Int) := of_decide_eq_true (by first | (with_reducible assumption) | assumption)
                                  have q114 : x10_2 < (l0.length : Int) := of_decide_eq_true (by first | (with_reducible assumption) | assumption)
                                  obtain ⟨ad114, A114_9, c114_9, A114_10, c114_10, A114_11, c114_11, A114_12, c114_12, A114_13, c114_13, A114_14, c114_14, e114, hx114_0, hx114_1, hx114_2, hx114_3, hx114_4, hx114_5, hx114_6, hx114_7, hx114_8, hx114_9, hx114_10, hx114_11, hx114_12, hx114_13, hx114_14, hx114_15, hx114_16, hl114_9, hi114_9, hl114_10, hi114_10, hl114_11, hi114_11, hl114_12, hi114_12, hl114_13, hi114_13, hl114_14, hi114_14⟩ := at_T33 HR0.out x10_2 p114 q114
                                  obtain rfl : ad111 = ad114 := (by injection e114)
                                  replace hx114_0 := (HB.out.cell (World.block_lt_of_cell? w _ hx114_0)).trans hx114_0
                                  replace hx114_1 := (HB.out.cell (World.block_lt_of_cell? w _ hx114_1)).trans hx114_1
                                  replace hx114_2 := (HB.out.cell (World.block_lt_of_cell? w _ hx114_2)).trans hx114_2
                                  replace hx114_3 := (HB.out.cell (World.block_lt_of_cell? w _ hx114_3)).trans hx114_3
                                  replace hx114_4 := (HB.out.cell (World.block_lt_of_cell? w _ hx114_4)).trans hx114_4
                                  replace hx114_5 := (HB.out.cell (World.block_lt_of_cell? w _ hx114_5)).trans hx114_5
                                  replace hx114_6 := (HB.out.cell (World.block_lt_of_cell? w _ hx114_6)).trans hx114_6
                                  replace hx114_7 := (HB.out.cell (World.block_lt_of_cell? w _ hx114_7)).trans hx114_7
                                  replace hx114_8 := (HB.out.cell (World.block_lt_of_cell? w _ hx114_8)).trans hx114_8
                                  replace hx114_9 := (HB.out.cell (World.block_lt_of_cell? w _ hx114_9)).trans hx114_9
                                  replace hx114_10 := (HB.out.cell (World.block_lt_of_cell? w _ hx114_10)).trans hx114_10
                                  replace hx114_11 := (HB.out.cell (World.block_lt_of_cell? w _ hx114_11)).trans hx114_11
                                  replace hx114_12 := (HB.out.cell (World.block_lt_of_cell? w _ hx114_12)).trans hx114_12
                                  replace hx114_13 := (HB.out.cell (World.block_lt_of_cell? w _ hx114_13)).trans hx114_13
                                  replace hx114_14 := (HB.out.cell (World.block_lt_of_cell? w _ hx114_14)).trans hx114_14
                                  replace hx114_15 := (HB.out.cell (World.block_lt_of_cell? w _ hx114_15)).trans hx114_15
                                  replace hx114_16 := (HB.out.cell (World.block_lt_of_cell? w _ hx114_16)).trans hx114_16
                                  have HR114_9 := Aside0.mk hi114_9
                                  have HC114_9 := Aside0.mk hl114_9
                                  clear hi114_9 hl114_9
                                  have HR114_10 := Aside0.mk hi114_10
                                  have HC114_10 := Aside0.mk hl114_10
                                  clear hi114_10 hl114_10
                                  have HR114_11 := Aside0.mk hi114_11
                                  have HC114_11 := Aside0.mk hl114_11
                                  clear hi114_11 hl114_11
                                  have HR114_12 := Aside0.mk hi114_12
                                  have HC114_12 := Aside0.mk hl114_12
                                  clear hi114_12 hl114_12
                                  have HR114_13 := Aside0.mk hi114_13
                                  have HC114_13 := Aside0.mk hl114_13
                                  clear hi114_13 hl114_13
                                  have HR114_14 := Aside0.mk hi114_14
                                  have HC114_14 := Aside0.mk hl114_14
                                  clear hi114_14 hl114_14
                                  replace p114 := eq_true p114
                                  replace q114 := eq_true q114
                                  go_wp2
                                  repeat (go_quiet (fail); try go_wp2)
                                  go_roundg k3
                                  case measure => have := HJ10.out; have := HK2.out; have := HK3.out; omega
                                  case rel => exact ⟨(x9_2), (wrap64 (x10_2 + 1)), (by first | rfl | (simp; done) | (simp [*]; done)), (by first | rfl | (simp; done) | (simp [*]; done)), H', ⟨by have := HJ10.out; have := HK2.out; have := HK3.out; omega⟩, ⟨by repeat (first | (with_reducible first | exact HB.out | apply below_alloc | apply pw_below_drewN | apply below_drew1) | exact HB.out)⟩⟩
                              · rw [if_neg c27] at H
                                exact absurd H (by simp)
                            · rw [if_neg c26] at H
                              exact absurd H (by simp)
                  · rw [if_neg c18] at H
                    exact absurd H (by simp)
                · rw [if_neg c17] at H
                  have c17b0 : decide (x10_2 < (l0.length : Int)) = false := decide_eq_false c17
                  clear c17
                  by_cases c31 : x9_2 = (wrap64 (t106 - a1))
                  · rw [if_pos c31] at H
                    have c31b0 : (x9_2 == (wrap64 (t106 - a1))) = true := beq_iff_eq.mpr c31
                    have c31b1 : (x9_2 != (wrap64 (t106 - a1))) = false := bne_eq_false_iff_eq.mpr c31
                    clear c31
                    replace H := Option.bind_eq_some_iff.mp H
                    obtain ⟨t110, A320, H⟩ := H
                    replace H : (some t110) = some r := H
                    have A32 := Aside0.mk A320
                    clear A320
                    obtain rfl := Option.some.inj H
                    go_wp2_with (first | (go_at_call 9; (with_reducible refine (orchestratorlaw56_awake.calls  t110 _ A32.out).mono ?_); rintro e w33 ⟨rfl, hb⟩; have n0_ := Aside0.mk (below_step (by repeat (first | (with_reducible first | exact HB.out | apply below_alloc | apply pw_below_drewN | apply below_drew1) | exact HB.out)) hb); clear HB; have HB := n0_; clear n0_; (try clear hb); (try clear hb2); (try clear hk); (try clear hi)))
                    repeat (go_quiet (first | (go_at_call 9; (with_reducible refine (orchestratorlaw56_awake.calls  t110 _ A32.out).mono ?_); rintro e w33 ⟨rfl, hb⟩; have n0_ := Aside0.mk (below_step (by repeat (first | (with_reducible first | exact HB.out | apply below_alloc | apply pw_below_drewN | apply below_drew1) | exact HB.out)) hb); clear HB; have HB := n0_; clear n0_; (try clear hb); (try clear hb2); (try clear hk); (try clear hi))); try go_wp2_with (first | (go_at_call 9; (with_reducible refine (orchestratorlaw56_awake.calls  t110 _ A32.out).mono ?_); rintro e w33 ⟨rfl, hb⟩; have n0_ := Aside0.mk (below_step (by repeat (first | (with_reducible first | exact HB.out | apply below_alloc | apply pw_below_drewN | apply below_drew1) | exact HB.out)) hb); clear HB; have HB := n0_; clear n0_; (try clear hb); (try clear hb2); (try clear hk); (try clear hi))))
                    go_ret
                    exact ⟨by first | rfl | (simp [errW_none, errW_some] <;> rfl) | (simp [*, errW_none, errW_some] <;> rfl), by repeat (first | (with_reducible first | exact HB.out | apply below_alloc | apply pw_below_drewN | apply below_drew1) | exact HB.out)⟩
                  · rw [if_neg c31] at H
                    have c31b0 : (x9_2 == (wrap64 (t106 - a1))) = false := beq_eq_false_iff_ne.mpr c31
                    have c31b1 : (x9_2 != (wrap64 (t106 - a1))) = true := bne_iff_ne.mpr c31
                    exact absurd ((Option.some.inj H).trans HT) (by decide)
    · rw [if_neg c10] at H
      have c10b0 : (t107 == 0) = false := beq_eq_false_iff_ne.mpr c10
      have c10b1 : (t107 != 0) = true := bne_iff_ne.mpr c10
      by_cases c34 : t106 = 0
      · rw [if_pos c34] at H
        have c34b0 : (t106 == 0) = true := beq_iff_eq.mpr c34
        have c34b1 : (t106 != 0) = false := bne_eq_false_iff_eq.mpr c34
        clear c34
        by_cases c35 : t107 = 5
        · rw [if_pos c35] at H
          have c35b0 : (t107 == 5) = true := beq_iff_eq.mpr c35
          have c35b1 : (t107 != 5) = false := bne_eq_false_iff_eq.mpr c35
          clear c35
          replace H := Option.bind_eq_some_iff.mp H
          obtain ⟨t108, A360, H⟩ := H
          replace H : (some t108) = some r := H
          have A36 := Aside0.mk A360
          clear A360
          obtain rfl := Option.some.inj H
          go_enter Tryd.func7, Tryd.ntmps7
          go_wp2_with (first | (go_at_call 8; (refine (orchestratorlaw56_heavy.calls k _ _ l0 (⟨#[]⟩ : ByteArray) (⟨#[]⟩ : ByteArray) (⟨#[]⟩ : ByteArray) 0 0 0 0 false 0 _ _ ([] : List (S69)) _ _ ([] : List (S72)) _ _ ([] : List ByteArray) _ _ ([] : List (S76)) _ _ ([] : List (S79)) _ _ ([] : List (S56)) false 0 (⟨#[]⟩ : ByteArray) (⟨#[]⟩ : ByteArray) (⟨#[]⟩ : ByteArray) 0 0 0 0 false 0 _ _ ([] : List (S69)) _ _ ([] : List (S72)) _ _ ([] : List ByteArray) _ _ ([] : List (S76)) _ _ ([] : List (S56)) _ _ ([] : List (S54)) false _ ?side1 ?side2 ?side3 ?side4 ?side5 ?side6 ?side7 ?side8 ?side9 ?side10 ?side11 ?side12 ?side13 ?side14 ?side15 ?side16 ?side17 ?side18 ?side19 ?side20 ?side21 ?side22 ?side23 ?side24 ?side25 ?side26 A4.out).mono ?_); (case side1 => repeat (first | exact HR0.out | (with_reducible refine Kd.C_alloc ?_ _) | (with_reducible refine Kd.C_drewN ?_ _) | (with_reducible refine Kd.C_drew ?_))); (case side2 => exact HC0.out); (case side3 => exact Kd.C_nil _ _); (case side4 => exact Nat.le_refl _); (case side5 => exact Kd.C_nil _ _); (case side6 => exact Nat.le_refl _); (case side7 => exact Kd.C_nil _ _); (case side8 => exact Nat.le_refl _); (case side9 => exact Kd.C_nil _ _); (case side10 => exact Nat.le_refl _); (case side11 => exact Kd.C_nil _ _); (case side12 => exact Nat.le_refl _); (case side13 => exact Kd.C_nil _ _); (case side14 => exact Nat.le_refl _); (case side15 => exact Kd.C_nil _ _); (case side16 => exact Nat.le_refl _); (case side17 => exact Kd.C_nil _ _); (case side18 => exact Nat.le_refl _); (case side19 => exact Kd.C_nil _ _); (case side20 => exact Nat.le_refl _); (case side21 => exact Kd.C_nil _ _); (case side22 => exact Nat.le_refl _); (case side23 => exact Kd.C_nil _ _); (case side24 => exact Nat.le_refl _); (case side25 => exact Kd.C_nil _ _); (case side26 => exact Nat.le_refl _); rintro e w37 ⟨rfl, hb⟩; have n0_ := Aside0.mk (below_step (by repeat (first | (with_reducible first | exact HB.out | apply below_alloc | apply pw_below_drewN | apply below_drew1) | exact HB.out)) hb); clear HB; have HB := n0_; clear n0_; (try clear hb); (try clear hb2); (try clear hk); (try clear hi)) | (go_at_call 10; (with_reducible refine (service_Allocate.calls _ _ l0 a1 a2 t106 t107 _ ?side1 ?side2 A9.out).mono ?_); (case side1 => repeat (first | exact (Kd.C_below HR0.out HB.out) | (with_reducible refine Kd.C_alloc ?_ _) | (with_reducible refine Kd.C_drewN ?_ _) | (with_reducible refine Kd.C_drew ?_))); (case side2 => exact HC0.out); rintro e w38 ⟨rfl, hb⟩; have n0_ := Aside0.mk (below_step (by repeat (first | (with_reducible first | exact HB.out | apply below_alloc | apply pw_below_drewN | apply below_drew1) | exact HB.out)) hb); clear HB; have HB := n0_; clear n0_; (try clear hb); (try clear hb2); (try clear hk); (try clear hi)) | (go_at_call 9; (with_reducible refine (orchestratorlaw56_awake.calls  t108 _ A36.out).mono ?_); rintro e w39 ⟨rfl, hb⟩; have n0_ := Aside0.mk (below_step (by repeat (first | (with_reducible first | exact HB.out | apply below_alloc | apply pw_below_drewN | apply below_drew1) | exact HB.out)) hb); clear HB; have HB := n0_; clear n0_; (try clear hb); (try clear hb2); (try clear hk); (try clear hi)))
          repeat (go_quiet (first | (go_at_call 8; (refine (orchestratorlaw56_heavy.calls k _ _ l0 (⟨#[]⟩ : ByteArray) (⟨#[]⟩ : ByteArray) (⟨#[]⟩ : ByteArray) 0 0 0 0 false 0 _ _ ([] : List (S69)) _ _ ([] : List (S72)) _ _ ([] : List ByteArray) _ _ ([] : List (S76)) _ _ ([] : List (S79)) _ _ ([] : List (S56)) false 0 (⟨#[]⟩ : ByteArray) (⟨#[]⟩ : ByteArray) (⟨#[]⟩ : ByteArray) 0 0 0 0 false 0 _ _ ([] : List (S69)) _ _ ([] : List (S72)) _ _ ([] : List ByteArray) _ _ ([] : List (S76)) _ _ ([] : List (S56)) _ _ ([] : List (S54)) false _ ?side1 ?side2 ?side3 ?side4 ?side5 ?side6 ?side7 ?side8 ?side9 ?side10 ?side11 ?side12 ?side13 ?side14 ?side15 ?side16 ?side17 ?side18 ?side19 ?side20 ?side21 ?side22 ?side23 ?side24 ?side25 ?side26 A4.out).mono ?_); (case side1 => repeat (first | exact HR0.out | (with_reducible refine Kd.C_alloc ?_ _) | (with_reducible refine Kd.C_drewN ?_ _) | (with_reducible refine Kd.C_drew ?_))); (case side2 => exact HC0.out); (case side3 => exact Kd.C_nil _ _); (case side4 => exact Nat.le_refl _); (case side5 => exact Kd.C_nil _ _); (case side6 => exact Nat.le_refl _); (case side7 => exact Kd.C_nil _ _); (case side8 => exact Nat.le_refl _); (case side9 => exact Kd.C_nil _ _); (case side10 => exact Nat.le_refl _); (case side11 => exact Kd.C_nil _ _); (case side12 => exact Nat.le_refl _); (case side13 => exact Kd.C_nil _ _); (case side14 => exact Nat.le_refl _); (case side15 => exact Kd.C_nil _ _); (case side16 => exact Nat.le_refl _); (case side17 => exact Kd.C_nil _ _); (case side18 => exact Nat.le_refl _); (case side19 => exact Kd.C_nil _ _); (case side20 => exact Nat.le_refl _); (case side21 => exact Kd.C_nil _ _); (case side22 => exact Nat.le_refl _); (case side23 => exact Kd.C_nil _ _); (case side24 => exact Nat.le_refl _); (case side25 => exact Kd.C_nil _ _); (case side26 => exact Nat.le_refl _); rintro e w37 ⟨rfl, hb⟩; have n0_ := Aside0.mk (below_step (by repeat (first | (with_reducible first | exact HB.out | apply below_alloc | apply pw_below_drewN | apply below_drew1) | exact HB.out)) hb); clear HB; have HB := n0_; clear n0_; (try clear hb); (try clear hb2); (try clear hk); (try clear hi)) | (go_at_call 10; (with_reducible refine (service_Allocate.calls _ _ l0 a1 a2 t106 t107 _ ?side1 ?side2 A9.out).mono ?_); (case side1 => repeat (first | exact (Kd.C_below HR0.out HB.out) | (with_reducible refine Kd.C_alloc ?_ _) | (with_reducible refine Kd.C_drewN ?_ _) | (with_reducible refine Kd.C_drew ?_))); (case side2 => exact HC0.out); rintro e w38 ⟨rfl, hb⟩; have n0_ := Aside0.mk (below_step (by repeat (first | (with_reducible first | exact HB.out | apply below_alloc | apply pw_below_drewN | apply below_drew1) | exact HB.out)) hb); clear HB; have HB := n0_; clear n0_; (try clear hb); (try clear hb2); (try clear hk); (try clear hi)) | (go_at_call 9; (with_reducible refine (orchestratorlaw56_awake.calls  t108 _ A36.out).mono ?_); rintro e w39 ⟨rfl, hb⟩; have n0_ := Aside0.mk (below_step (by repeat (first | (with_reducible first | exact HB.out | apply below_alloc | apply pw_below_drewN | apply below_drew1) | exact HB.out)) hb); clear HB; have HB := n0_; clear n0_; (try clear hb); (try clear hb2); (try clear hk); (try clear hi))); try go_wp2_with (first | (go_at_call 8; (refine (orchestratorlaw56_heavy.calls k _ _ l0 (⟨#[]⟩ : ByteArray) (⟨#[]⟩ : ByteArray) (⟨#[]⟩ : ByteArray) 0 0 0 0 false 0 _ _ ([] : List (S69)) _ _ ([] : List (S72)) _ _ ([] : List ByteArray) _ _ ([] : List (S76)) _ _ ([] : List (S79)) _ _ ([] : List (S56)) false 0 (⟨#[]⟩ : ByteArray) (⟨#[]⟩ : ByteArray) (⟨#[]⟩ : ByteArray) 0 0 0 0 false 0 _ _ ([] : List (S69)) _ _ ([] : List (S72)) _ _ ([] : List ByteArray) _ _ ([] : List (S76)) _ _ ([] : List (S56)) _ _ ([] : List (S54)) false _ ?side1 ?side2 ?side3 ?side4 ?side5 ?side6 ?side7 ?side8 ?side9 ?side10 ?side11 ?side12 ?side13 ?side14 ?side15 ?side16 ?side17 ?side18 ?side19 ?side20 ?side21 ?side22 ?side23 ?side24 ?side25 ?side26 A4.out).mono ?_); (case side1 => repeat (first | exact HR0.out | (with_reducible refine Kd.C_alloc ?_ _) | (with_reducible refine Kd.C_drewN ?_ _) | (with_reducible refine Kd.C_drew ?_))); (case side2 => exact HC0.out); (case side3 => exact Kd.C_nil _ _); (case side4 => exact Nat.le_refl _); (case side5 => exact Kd.C_nil _ _); (case side6 => exact Nat.le_refl _); (case side7 => exact Kd.C_nil _ _); (case side8 => exact Nat.le_refl _); (case side9 => exact Kd.C_nil _ _); (case side10 => exact Nat.le_refl _); (case side11 => exact Kd.C_nil _ _); (case side12 => exact Nat.le_refl _); (case side13 => exact Kd.C_nil _ _); (case side14 => exact Nat.le_refl _); (case side15 => exact Kd.C_nil _ _); (case side16 => exact Nat.le_refl _); (case side17 => exact Kd.C_nil _ _); (case side18 => exact Nat.le_refl _); (case side19 => exact Kd.C_nil _ _); (case side20 => exact Nat.le_refl _); (case side21 => exact Kd.C_nil _ _); (case side22 => exact Nat.le_refl _); (case side23 => exact Kd.C_nil _ _); (case side24 => exact Nat.le_refl _); (case side25 => exact Kd.C_nil _ _); (case side26 => exact Nat.le_refl _); rintro e w37 ⟨rfl, hb⟩; have n0_ := Aside0.mk (below_step (by repeat (first | (with_reducible first | exact HB.out | apply below_alloc | apply pw_below_drewN | apply below_drew1) | exact HB.out)) hb); clear HB; have HB := n0_; clear n0_; (try clear hb); (try clear hb2); (try clear hk); (try clear hi)) | (go_at_call 10; (with_reducible refine (service_Allocate.calls _ _ l0 a1 a2 t106 t107 _ ?side1 ?side2 A9.out).mono ?_); (case side1 => repeat (first | exact (Kd.C_below HR0.out HB.out) | (with_reducible refine Kd.C_alloc ?_ _) | (with_reducible refine Kd.C_drewN ?_ _) | (with_reducible refine Kd.C_drew ?_))); (case side2 => exact HC0.out); rintro e w38 ⟨rfl, hb⟩; have n0_ := Aside0.mk (below_step (by repeat (first | (with_reducible first | exact HB.out | apply below_alloc | apply pw_below_drewN | apply below_drew1) | exact HB.out)) hb); clear HB; have HB := n0_; clear n0_; (try clear hb); (try clear hb2); (try clear hk); (try clear hi)) | (go_at_call 9; (with_reducible refine (orchestratorlaw56_awake.calls  t108 _ A36.out).mono ?_); rintro e w39 ⟨rfl, hb⟩; have n0_ := Aside0.mk (below_step (by repeat (first | (with_reducible first | exact HB.out | apply below_alloc | apply pw_below_drewN | apply below_drew1) | exact HB.out)) hb); clear HB; have HB := n0_; clear n0_; (try clear hb); (try clear hb2); (try clear hk); (try clear hi))))
          go_ret
          exact ⟨by first | rfl | (simp [errW_none, errW_some] <;> rfl) | (simp [*, errW_none, errW_some] <;> rfl), by repeat (first | (with_reducible first | exact HB.out | apply below_alloc | apply pw_below_drewN | apply below_drew1) | exact HB.out)⟩
        · rw [if_neg c35] at H
          have c35b0 : (t107 == 5) = false := beq_eq_false_iff_ne.mpr c35
          have c35b1 : (t107 != 5) = true := bne_iff_ne.mpr c35
          by_cases c40 : t107 = 15
          · rw [if_pos c40] at H
            have c40b0 : (t107 == 15) = true := beq_iff_eq.mpr c40
            have c40b1 : (t107 != 15) = false := bne_eq_false_iff_eq.mpr c40
            clear c40
            by_cases c41 : a2 ≤ (l0.length : Int)
            · rw [if_pos c41] at H
              have c41b0 : decide (a2 ≤ (l0.length : Int)) = true := decide_eq_true c41
              clear c41
              replace H := Option.bind_eq_some_iff.mp H
              obtain ⟨t109, A420, H⟩ := H
              replace H : (some t109) = some r := H
              have A42 := Aside0.mk A420
              clear A420
              obtain rfl := Option.some.inj H
              go_enter Tryd.func7, Tryd.ntmps7
              go_wp2_with (first | (go_at_call 8; (refine (orchestratorlaw56_heavy.calls k _ _ l0 (⟨#[]⟩ : ByteArray) (⟨#[]⟩ : ByteArray) (⟨#[]⟩ : ByteArray) 0 0 0 0 false 0 _ _ ([] : List (S69)) _ _ ([] : List (S72)) _ _ ([] : List ByteArray) _ _ ([] : List (S76)) _ _ ([] : List (S79)) _ _ ([] : List (S56)) false 0 (⟨#[]⟩ : ByteArray) (⟨#[]⟩ : ByteArray) (⟨#[]⟩ : ByteArray) 0 0 0 0 false 0 _ _ ([] : List (S69)) _ _ ([] : List (S72)) _ _ ([] : List ByteArray) _ _ ([] : List (S76)) _ _ ([] : List (S56)) _ _ ([] : List (S54)) false _ ?side1 ?side2 ?side3 ?side4 ?side5 ?side6 ?side7 ?side8 ?side9 ?side10 ?side11 ?side12 ?side13 ?side14 ?side15 ?side16 ?side17 ?side18 ?side19 ?side20 ?side21 ?side22 ?side23 ?side24 ?side25 ?side26 A4.out).mono ?_); (case side1 => repeat (first | exact HR0.out | (with_reducible refine Kd.C_alloc ?_ _) | (with_reducible refine Kd.C_drewN ?_ _) | (with_reducible refine Kd.C_drew ?_))); (case side2 => exact HC0.out); (case side3 => exact Kd.C_nil _ _); (case side4 => exact Nat.le_refl _); (case side5 => exact Kd.C_nil _ _); (case side6 => exact Nat.le_refl _); (case side7 => exact Kd.C_nil _ _); (case side8 => exact Nat.le_refl _); (case side9 => exact Kd.C_nil _ _); (case side10 => exact Nat.le_refl _); (case side11 => exact Kd.C_nil _ _); (case side12 => exact Nat.le_refl _); (case side13 => exact Kd.C_nil _ _); (case side14 => exact Nat.le_refl _); (case side15 => exact Kd.C_nil _ _); (case side16 => exact Nat.le_refl _); (case side17 => exact Kd.C_nil _ _); (case side18 => exact Nat.le_refl _); (case side19 => exact Kd.C_nil _ _); (case side20 => exact Nat.le_refl _); (case side21 => exact Kd.C_nil _ _); (case side22 => exact Nat.le_refl _); (case side23 => exact Kd.C_nil _ _); (case side24 => exact Nat.le_refl _); (case side25 => exact Kd.C_nil _ _); (case side26 => exact Nat.le_refl _); rintro e w43 ⟨rfl, hb⟩; have n0_ := Aside0.mk (below_step (by repeat (first | (with_reducible first | exact HB.out | apply below_alloc | apply pw_below_drewN | apply below_drew1) | exact HB.out)) hb); clear HB; have HB := n0_; clear n0_; (try clear hb); (try clear hb2); (try clear hk); (try clear hi)) | (go_at_call 10; (with_reducible refine (service_Allocate.calls _ _ l0 a1 a2 t106 t107 _ ?side1 ?side2 A9.out).mono ?_); (case side1 => repeat (first | exact (Kd.C_below HR0.out HB.out) | (with_reducible refine Kd.C_alloc ?_ _) | (with_reducible refine Kd.C_drewN ?_ _) | (with_reducible refine Kd.C_drew ?_))); (case side2 => exact HC0.out); rintro e w44 ⟨rfl, hb⟩; have n0_ := Aside0.mk (below_step (by repeat (first | (with_reducible first | exact HB.out | apply below_alloc | apply pw_below_drewN | apply below_drew1) | exact HB.out)) hb); clear HB; have HB := n0_; clear n0_; (try clear hb); (try clear hb2); (try clear hk); (try clear hi)) | (go_at_call 9; (with_reducible refine (orchestratorlaw56_awake.calls  t109 _ A42.out).mono ?_); rintro e w45 ⟨rfl, hb⟩; have n0_ := Aside0.mk (below_step (by repeat (first | (with_reducible first | exact HB.out | apply below_alloc | apply pw_below_drewN | apply below_drew1) | exact HB.out)) hb); clear HB; have HB := n0_; clear n0_; (try clear hb); (try clear hb2); (try clear hk); (try clear hi)))
              repeat (go_quiet (first | (go_at_call 8; (refine (orchestratorlaw56_heavy.calls k _ _ l0 (⟨#[]⟩ : ByteArray) (⟨#[]⟩ : ByteArray) (⟨#[]⟩ : ByteArray) 0 0 0 0 false 0 _ _ ([] : List (S69)) _ _ ([] : List (S72)) _ _ ([] : List ByteArray) _ _ ([] : List (S76)) _ _ ([] : List (S79)) _ _ ([] : List (S56)) false 0 (⟨#[]⟩ : ByteArray) (⟨#[]⟩ : ByteArray) (⟨#[]⟩ : ByteArray) 0 0 0 0 false 0 _ _ ([] : List (S69)) _ _ ([] : List (S72)) _ _ ([] : List ByteArray) _ _ ([] : List (S76)) _ _ ([] : List (S56)) _ _ ([] : List (S54)) false _ ?side1 ?side2 ?side3 ?side4 ?side5 ?side6 ?side7 ?side8 ?side9 ?side10 ?side11 ?side12 ?side13 ?side14 ?side15 ?side16 ?side17 ?side18 ?side19 ?side20 ?side21 ?side22 ?side23 ?side24 ?side25 ?side26 A4.out).mono ?_); (case side1 => repeat (first | exact HR0.out | (with_reducible refine Kd.C_alloc ?_ _) | (with_reducible refine Kd.C_drewN ?_ _) | (with_reducible refine Kd.C_drew ?_))); (case side2 => exact HC0.out); (case side3 => exact Kd.C_nil _ _); (case side4 => exact Nat.le_refl _); (case side5 => exact Kd.C_nil _ _); (case side6 => exact Nat.le_refl _); (case side7 => exact Kd.C_nil _ _); (case side8 => exact Nat.le_refl _); (case side9 => exact Kd.C_nil _ _); (case side10 => exact Nat.le_refl _); (case side11 => exact Kd.C_nil _ _); (case side12 => exact Nat.le_refl _); (case side13 => exact Kd.C_nil _ _); (case side14 => exact Nat.le_refl _); (case side15 => exact Kd.C_nil _ _); (case side16 => exact Nat.le_refl _); (case side17 => exact Kd.C_nil _ _); (case side18 => exact Nat.le_refl _); (case side19 => exact Kd.C_nil _ _); (case side20 => exact Nat.le_refl _); (case side21 => exact Kd.C_nil _ _); (case side22 => exact Nat.le_refl _); (case side23 => exact Kd.C_nil _ _); (case side24 => exact Nat.le_refl _); (case side25 => exact Kd.C_nil _ _); (case side26 => exact Nat.le_refl _); rintro e w43 ⟨rfl, hb⟩; have n0_ := Aside0.mk (below_step (by repeat (first | (with_reducible first | exact HB.out | apply below_alloc | apply pw_below_drewN | apply below_drew1) | exact HB.out)) hb); clear HB; have HB := n0_; clear n0_; (try clear hb); (try clear hb2); (try clear hk); (try clear hi)) | (go_at_call 10; (with_reducible refine (service_Allocate.calls _ _ l0 a1 a2 t106 t107 _ ?side1 ?side2 A9.out).mono ?_); (case side1 => repeat (first | exact (Kd.C_below HR0.out HB.out) | (with_reducible refine Kd.C_alloc ?_ _) | (with_reducible refine Kd.C_drewN ?_ _) | (with_reducible refine Kd.C_drew ?_))); (case side2 => exact HC0.out); rintro e w44 ⟨rfl, hb⟩; have n0_ := Aside0.mk (below_step (by repeat (first | (with_reducible first | exact HB.out | apply below_alloc | apply pw_below_drewN | apply below_drew1) | exact HB.out)) hb); clear HB; have HB := n0_; clear n0_; (try clear hb); (try clear hb2); (try clear hk); (try clear hi)) | (go_at_call 9; (with_reducible refine (orchestratorlaw56_awake.calls  t109 _ A42.out).mono ?_); rintro e w45 ⟨rfl, hb⟩; have n0_ := Aside0.mk (below_step (by repeat (first | (with_reducible first | exact HB.out | apply below_alloc | apply pw_below_drewN | apply below_drew1) | exact HB.out)) hb); clear HB; have HB := n0_; clear n0_; (try clear hb); (try clear hb2); (try clear hk); (try clear hi))); try go_wp2_with (first | (go_at_call 8; (refine (orchestratorlaw56_heavy.calls k _ _ l0 (⟨#[]⟩ : ByteArray) (⟨#[]⟩ : ByteArray) (⟨#[]⟩ : ByteArray) 0 0 0 0 false 0 _ _ ([] : List (S69)) _ _ ([] : List (S72)) _ _ ([] : List ByteArray) _ _ ([] : List (S76)) _ _ ([] : List (S79)) _ _ ([] : List (S56)) false 0 (⟨#[]⟩ : ByteArray) (⟨#[]⟩ : ByteArray) (⟨#[]⟩ : ByteArray) 0 0 0 0 false 0 _ _ ([] : List (S69)) _ _ ([] : List (S72)) _ _ ([] : List ByteArray) _ _ ([] : List (S76)) _ _ ([] : List (S56)) _ _ ([] : List (S54)) false _ ?side1 ?side2 ?side3 ?side4 ?side5 ?side6 ?side7 ?side8 ?side9 ?side10 ?side11 ?side12 ?side13 ?side14 ?side15 ?side16 ?side17 ?side18 ?side19 ?side20 ?side21 ?side22 ?side23 ?side24 ?side25 ?side26 A4.out).mono ?_); (case side1 => repeat (first | exact HR0.out | (with_reducible refine Kd.C_alloc ?_ _) | (with_reducible refine Kd.C_drewN ?_ _) | (with_reducible refine Kd.C_drew ?_))); (case side2 => exact HC0.out); (case side3 => exact Kd.C_nil _ _); (case side4 => exact Nat.le_refl _); (case side5 => exact Kd.C_nil _ _); (case side6 => exact Nat.le_refl _); (case side7 => exact Kd.C_nil _ _); (case side8 => exact Nat.le_refl _); (case side9 => exact Kd.C_nil _ _); (case side10 => exact Nat.le_refl _); (case side11 => exact Kd.C_nil _ _); (case side12 => exact Nat.le_refl _); (case side13 => exact Kd.C_nil _ _); (case side14 => exact Nat.le_refl _); (case side15 => exact Kd.C_nil _ _); (case side16 => exact Nat.le_refl _); (case side17 => exact Kd.C_nil _ _); (case side18 => exact Nat.le_refl _); (case side19 => exact Kd.C_nil _ _); (case side20 => exact Nat.le_refl _); (case side21 => exact Kd.C_nil _ _); (case side22 => exact Nat.le_refl _); (case side23 => exact Kd.C_nil _ _); (case side24 => exact Nat.le_refl _); (case side25 => exact Kd.C_nil _ _); (case side26 => exact Nat.le_refl _); rintro e w43 ⟨rfl, hb⟩; have n0_ := Aside0.mk (below_step (by repeat (first | (with_reducible first | exact HB.out | apply below_alloc | apply pw_below_drewN | apply below_drew1) | exact HB.out)) hb); clear HB; have HB := n0_; clear n0_; (try clear hb); (try clear hb2); (try clear hk); (try clear hi)) | (go_at_call 10; (with_reducible refine (service_Allocate.calls _ _ l0 a1 a2 t106 t107 _ ?side1 ?side2 A9.out).mono ?_); (case side1 => repeat (first | exact (Kd.C_below HR0.out HB.out) | (with_reducible refine Kd.C_alloc ?_ _) | (with_reducible refine Kd.C_drewN ?_ _) | (with_reducible refine Kd.C_drew ?_))); (case side2 => exact HC0.out); rintro e w44 ⟨rfl, hb⟩; have n0_ := Aside0.mk (below_step (by repeat (first | (with_reducible first | exact HB.out | apply below_alloc | apply pw_below_drewN | apply below_drew1) | exact HB.out)) hb); clear HB; have HB := n0_; clear n0_; (try clear hb); (try clear hb2); (try clear hk); (try clear hi)) | (go_at_call 9; (with_reducible refine (orchestratorlaw56_awake.calls  t109 _ A42.out).mono ?_); rintro e w45 ⟨rfl, hb⟩; have n0_ := Aside0.mk (below_step (by repeat (first | (with_reducible first | exact HB.out | apply below_alloc | apply pw_below_drewN | apply below_drew1) | exact HB.out)) hb); clear HB; have HB := n0_; clear n0_; (try clear hb); (try clear hb2); (try clear hk); (try clear hi))))
              go_ret
              exact ⟨by first | rfl | (simp [errW_none, errW_some] <;> rfl) | (simp [*, errW_none, errW_some] <;> rfl), by repeat (first | (with_reducible first | exact HB.out | apply below_alloc | apply pw_below_drewN | apply below_drew1) | exact HB.out)⟩
            · rw [if_neg c41] at H
              have c41b0 : decide (a2 ≤ (l0.length : Int)) = false := decide_eq_false c41
              clear c41
              exact absurd ((Option.some.inj H).trans HT) (by decide)
          · rw [if_neg c40] at H
            have c40b0 : (t107 == 15) = false := beq_eq_false_iff_ne.mpr c40
            have c40b1 : (t107 != 15) = true := bne_iff_ne.mpr c40
            exact absurd ((Option.some.inj H).trans HT) (by decide)
      · rw [if_neg c34] at H
        have c34b0 : (t106 == 0) = false := beq_eq_false_iff_ne.mpr c34
        have c34b1 : (t106 != 0) = true := bne_iff_ne.mpr c34
        exact absurd ((Option.some.inj H).trans HT) (by decide)

end Go.Proofs.YtbcikhbepldjhaaDoor.X
