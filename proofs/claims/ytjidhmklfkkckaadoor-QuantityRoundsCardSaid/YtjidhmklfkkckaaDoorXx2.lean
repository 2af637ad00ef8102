-- Written by xprint.py, a program of this session's, over the kit's print of the translation. Not trusted: Lean checks it.
import Derived.Test.YtjidhmklfkkckaaDoorXx0
import Derived.Test.YtjidhmklfkkckaaDoorXx1
import Derived.Test.YtjidhmklfkkckaaDoorExtA
namespace Go.Proofs.YtjidhmklfkkckaaDoor.X
open Go.RowKit Go.Proofs.YtjidhmklfkkckaaDoorW.PrintWords Go.Proofs.YtjidhmklfkkckaaDoorW.PrintLast Go.Proofs.YtjidhmklfkkckaaDoorW.PrintMore
attribute [local go_sem] max2_int min2_int max_two min_two max_three min_three max_four min_four   -- for this text's walks alone
set_option linter.unusedVariables false
set_option linter.unusedSimpArgs false

/-! ### quantity_Parse: function 11 -/
mutual
def quantity_Parse.j1 : Nat → Bool → Bool → Int → Int → Option (Int × Int)
  | 0, _, _, _, _ => none
  | k + 1, x5, x9, x10, x12 => if x9 = true then (if x12 = 0 then (none) else (if x10 > (wrap64 (Int.tdiv (1000000000000000 : Int) x12)) then (some (0, 5)) else (if x5 = true then (some (wrap64 ((wrap64 (-x10)) * x12), 0)) else (some (wrap64 (x10 * x12), 0))))) else (some (0, 2))
def quantity_Parse.l0 : Nat → Bool → ByteArray → Bool → Int → Int → List (S47) → Int → Int → Option (Int × Int)
  | 0, _, _, _, _, _, _, _, _ => none
  | k + 1, x5, x8, x9, x10, x12, x53, x54, x55 => if x55 < x54 then (if 0 ≤ x55 then (if x55 < (x53.length : Int) then (if ((rd_T47 x53 x55).f0).toList = x8.toList then (quantity_Parse.l0 k x5 x8 true x10 ((rd_T47 x53 x55).f1) x53 x54 (wrap64 (x55 + 1))) else (quantity_Parse.l0 k x5 x8 x9 x10 x12 x53 x54 (wrap64 (x55 + 1)))) else (none)) else (none)) else (quantity_Parse.j1 k x5 x9 x10 x12)
end
def quantity_Parse.f (k : Nat) (a0 : ByteArray) : Option (Int × Int) := (strings_CutPrefix.f a0 (⟨#[45]⟩ : ByteArray)).bind fun bt111 => ((quantity_split.f k bt111.1).bind fun bt113 => (if bt113.2.2.2 = true then ((strconv_Atoi.f bt113.1).bind fun bt117 => (if bt113.2.2.1.toList = ([109] : List UInt8) then (quantity_Parse.j1 k bt111.2 (bt113.2.1.toList == ([] : List UInt8)) bt117.1 1) else (if 0 ≤ (bt113.2.1.size : Int) then (if (bt113.2.1.size : Int) ≤ 3 then (if bt113.2.1.size + ((⟨#[48, 48, 48]⟩ : ByteArray).extract ((bt113.2.1.size : Int) : Int).toNat (⟨#[48, 48, 48]⟩ : ByteArray).size).size ≤ 9223372036854775807 then ((strconv_Atoi.f (bt113.2.1 ++ ((⟨#[48, 48, 48]⟩ : ByteArray).extract ((bt113.2.1.size : Int) : Int).toNat (⟨#[48, 48, 48]⟩ : ByteArray).size))).bind fun bt119 => ((quantity_units.f).bind fun t121 => (quantity_Parse.l0 k bt111.2 bt113.2.2.1 false (wrap64 ((wrap64 (bt117.1 * 1000)) + bt119.1)) 1 t121 (t121.length : Int) 0))) else (none)) else (none)) else (none)))) else (some (0, 2))))
theorem quantity_Parse.mono_l : ∀ k, (∀ y0 y1 y2 y3, LeO (quantity_Parse.j1 k y0 y1 y2 y3) (quantity_Parse.j1 (k + 1) y0 y1 y2 y3)) ∧ (∀ y0 y1 y2 y3 y4 y5 y6 y7, LeO (quantity_Parse.l0 k y0 y1 y2 y3 y4 y5 y6 y7) (quantity_Parse.l0 (k + 1) y0 y1 y2 y3 y4 y5 y6 y7))
  | 0 => ⟨fun _ _ _ _ r h => by simp [quantity_Parse.j1] at h, fun _ _ _ _ _ _ _ _ r h => by simp [quantity_Parse.l0] at h⟩
  | k + 1 => by
    obtain ⟨ih0, ih1⟩ := quantity_Parse.mono_l k
    refine ⟨?_, ?_⟩
    · intro y0 y1 y2 y3
      unfold quantity_Parse.j1
      repeat' first
      | (with_reducible exact ih0 _ _ _ _)
      | (with_reducible exact ih1 _ _ _ _ _ _ _ _)
      | (with_reducible exact quantity_split.mono _ _)
      | (with_reducible exact LeO.refl _)
      | (with_reducible exact LeO.none _)
      | (with_reducible refine LeO.ite ?_ ?_)
      | (with_reducible refine LeO.bind ?_ (fun _ => ?_))
      | exact ih0 _ _ _ _
      | exact ih1 _ _ _ _ _ _ _ _
      | exact quantity_split.mono _ _
      | exact LeO.none _
      | refine LeO.ite ?_ ?_
      | refine LeO.bind ?_ (fun _ => ?_)
    · intro y0 y1 y2 y3 y4 y5 y6 y7
      unfold quantity_Parse.l0
      repeat' first
      | (with_reducible exact ih0 _ _ _ _)
      | (with_reducible exact ih1 _ _ _ _ _ _ _ _)
      | (with_reducible exact quantity_split.mono _ _)
      | (with_reducible exact LeO.refl _)
      | (with_reducible exact LeO.none _)
      | (with_reducible refine LeO.ite ?_ ?_)
      | (with_reducible refine LeO.bind ?_ (fun _ => ?_))
      | exact ih0 _ _ _ _
      | exact ih1 _ _ _ _ _ _ _ _
      | exact quantity_split.mono _ _
      | exact LeO.none _
      | refine LeO.ite ?_ ?_
      | refine LeO.bind ?_ (fun _ => ?_)
theorem quantity_Parse.mono : ∀ a0 k, LeO (quantity_Parse.f k a0) (quantity_Parse.f (k + 1) a0) := by
  intro a0 k
  obtain ⟨ih0, ih1⟩ := quantity_Parse.mono_l k
  unfold quantity_Parse.f
  repeat' first
      | (with_reducible exact ih0 _ _ _ _)
      | (with_reducible exact ih1 _ _ _ _ _ _ _ _)
      | (with_reducible exact quantity_split.mono _ _)
      | (with_reducible exact LeO.refl _)
      | (with_reducible exact LeO.none _)
      | (with_reducible refine LeO.ite ?_ ?_)
      | (with_reducible refine LeO.bind ?_ (fun _ => ?_))
      | exact ih0 _ _ _ _
      | exact ih1 _ _ _ _ _ _ _ _
      | exact quantity_split.mono _ _
      | exact LeO.none _
      | refine LeO.ite ?_ ?_
      | refine LeO.bind ?_ (fun _ => ?_)
set_option maxHeartbeats 8000000 in
set_option maxRecDepth 100000 in
theorem quantity_Parse.calls (k : Nat) (a0 : ByteArray) (r1 : Int) (r2 : Int) (w : World) (h : quantity_Parse.f k a0 = some (r1, r2)) :
    Calls Tryd.prog 11 #[.string a0] w fun e w' => e = .returned (.tuple #[.int .i64 r1, .int .i64 r2]) ∧ Below w.heap.size w w' := by
  have hu47 := Tryd.underlying47
  have HB := Aside0.mk (Below.refl w.heap.size w)
  have H : ((strings_CutPrefix.f a0 (⟨#[45]⟩ : ByteArray)).bind fun bt111 => ((quantity_split.f k bt111.1).bind fun bt113 => (if bt113.2.2.2 = true then ((strconv_Atoi.f bt113.1).bind fun bt117 => (if bt113.2.2.1.toList = ([109] : List UInt8) then (quantity_Parse.j1 k bt111.2 (bt113.2.1.toList == ([] : List UInt8)) bt117.1 1) else (if 0 ≤ (bt113.2.1.size : Int) then (if (bt113.2.1.size : Int) ≤ 3 then (if bt113.2.1.size + ((⟨#[48, 48, 48]⟩ : ByteArray).extract ((bt113.2.1.size : Int) : Int).toNat (⟨#[48, 48, 48]⟩ : ByteArray).size).size ≤ 9223372036854775807 then ((strconv_Atoi.f (bt113.2.1 ++ ((⟨#[48, 48, 48]⟩ : ByteArray).extract ((bt113.2.1.size : Int) : Int).toNat (⟨#[48, 48, 48]⟩ : ByteArray).size))).bind fun bt119 => ((quantity_units.f).bind fun t121 => (quantity_Parse.l0 k bt111.2 bt113.2.2.1 false (wrap64 ((wrap64 (bt117.1 * 1000)) + bt119.1)) 1 t121 (t121.length : Int) 0))) else (none)) else (none)) else (none)))) else (some (0, 2))))) = some (r1, r2) := h
  clear h
  replace H := Option.bind_eq_some_iff.mp H
  obtain ⟨⟨t111, t112⟩, A20, H⟩ := H
  replace H : ((quantity_split.f k t111).bind fun bt113 => (if bt113.2.2.2 = true then ((strconv_Atoi.f bt113.1).bind fun bt117 => (if bt113.2.2.1.toList = ([109] : List UInt8) then (quantity_Parse.j1 k t112 (bt113.2.1.toList == ([] : List UInt8)) bt117.1 1) else (if 0 ≤ (bt113.2.1.size : Int) then (if (bt113.2.1.size : Int) ≤ 3 then (if bt113.2.1.size + ((⟨#[48, 48, 48]⟩ : ByteArray).extract ((bt113.2.1.size : Int) : Int).toNat (⟨#[48, 48, 48]⟩ : ByteArray).size).size ≤ 9223372036854775807 then ((strconv_Atoi.f (bt113.2.1 ++ ((⟨#[48, 48, 48]⟩ : ByteArray).extract ((bt113.2.1.size : Int) : Int).toNat (⟨#[48, 48, 48]⟩ : ByteArray).size))).bind fun bt119 => ((quantity_units.f).bind fun t121 => (quantity_Parse.l0 k t112 bt113.2.2.1 false (wrap64 ((wrap64 (bt117.1 * 1000)) + bt119.1)) 1 t121 (t121.length : Int) 0))) else (none)) else (none)) else (none)))) else (some (0, 2)))) = some (r1, r2) := H
  have A2 := Aside0.mk A20
  clear A20
  replace H := Option.bind_eq_some_iff.mp H
  obtain ⟨⟨t113, t114, t115, t116⟩, A30, H⟩ := H
  replace H : (if t116 = true then ((strconv_Atoi.f t113).bind fun bt117 => (if t115.toList = ([109] : List UInt8) then (quantity_Parse.j1 k t112 (t114.toList == ([] : List UInt8)) bt117.1 1) else (if 0 ≤ (t114.size : Int) then (if (t114.size : Int) ≤ 3 then (if t114.size + ((⟨#[48, 48, 48]⟩ : ByteArray).extract ((t114.size : Int) : Int).toNat (⟨#[48, 48, 48]⟩ : ByteArray).size).size ≤ 9223372036854775807 then ((strconv_Atoi.f (t114 ++ ((⟨#[48, 48, 48]⟩ : ByteArray).extract ((t114.size : Int) : Int).toNat (⟨#[48, 48, 48]⟩ : ByteArray).size))).bind fun bt119 => ((quantity_units.f).bind fun t121 => (quantity_Parse.l0 k t112 t115 false (wrap64 ((wrap64 (bt117.1 * 1000)) + bt119.1)) 1 t121 (t121.length : Int) 0))) else (none)) else (none)) else (none)))) else (some (0, 2))) = some (r1, r2) := H
  have A3 := Aside0.mk A30
  clear A30
  by_cases c4 : t116 = true
  · subst c4
    have H1 : ((strconv_Atoi.f t113).bind fun bt117 => (if t115.toList = ([109] : List UInt8) then (quantity_Parse.j1 k t112 (t114.toList == ([] : List UInt8)) bt117.1 1) else (if 0 ≤ (t114.size : Int) then (if (t114.size : Int) ≤ 3 then (if t114.size + ((⟨#[48, 48, 48]⟩ : ByteArray).extract ((t114.size : Int) : Int).toNat (⟨#[48, 48, 48]⟩ : ByteArray).size).size ≤ 9223372036854775807 then ((strconv_Atoi.f (t114 ++ ((⟨#[48, 48, 48]⟩ : ByteArray).extract ((t114.size : Int) : Int).toNat (⟨#[48, 48, 48]⟩ : ByteArray).size))).bind fun bt119 => ((quantity_units.f).bind fun t121 => (quantity_Parse.l0 k t112 t115 false (wrap64 ((wrap64 (bt117.1 * 1000)) + bt119.1)) 1 t121 (t121.length : Int) 0))) else (none)) else (none)) else (none)))) = some (r1, r2) := by rw [if_pos rfl] at H; exact H
    clear H
    have H := H1
    clear H1
    replace H := Option.bind_eq_some_iff.mp H
    obtain ⟨⟨t117, t118⟩, A50, H⟩ := H
    replace H : (if t115.toList = ([109] : List UInt8) then (quantity_Parse.j1 k t112 (t114.toList == ([] : List UInt8)) t117 1) else (if 0 ≤ (t114.size : Int) then (if (t114.size : Int) ≤ 3 then (if t114.size + ((⟨#[48, 48, 48]⟩ : ByteArray).extract ((t114.size : Int) : Int).toNat (⟨#[48, 48, 48]⟩ : ByteArray).size).size ≤ 9223372036854775807 then ((strconv_Atoi.f (t114 ++ ((⟨#[48, 48, 48]⟩ : ByteArray).extract ((t114.size : Int) : Int).toNat (⟨#[48, 48, 48]⟩ : ByteArray).size))).bind fun bt119 => ((quantity_units.f).bind fun t121 => (quantity_Parse.l0 k t112 t115 false (wrap64 ((wrap64 (t117 * 1000)) + bt119.1)) 1 t121 (t121.length : Int) 0))) else (none)) else (none)) else (none))) = some (r1, r2) := H
    have A5 := Aside0.mk A50
    clear A50
    have HC6 := Aside0.mk H
    clear H
    go_enter Tryd.func11, Tryd.ntmps11
    go_upto_if 37 with (first | ((with_reducible refine gate_callee (f := 18) rfl ?_); refine goesL_ (some 19) rfl rfl Tryd.func18 (by kernel_rfl) rfl #[.string a0, .string (⟨#[45]⟩ : ByteArray)] rfl (by (try simp only [List.map_toArray, List.map_cons, List.map_nil]); first | done | rfl | (simp only [List.length_drop, List.length_take]; rfl)) ?_; (with_reducible refine (strings_CutPrefix.calls a0 (⟨#[45]⟩ : ByteArray) t111 t112 _ A2.out).mono ?_); rintro e w' ⟨rfl, ⟨nd, rfl⟩⟩; refine ⟨_, rfl, ?_⟩) | ((with_reducible refine gate_callee (f := 19) rfl ?_); refine goesL_ (some 24) rfl rfl Tryd.func19 (by kernel_rfl) rfl #[.string t111] rfl (by (try simp only [List.map_toArray, List.map_cons, List.map_nil]); first | done | rfl | (simp only [List.length_drop, List.length_take]; rfl)) ?_; (with_reducible refine (quantity_split.calls k t111 t113 t114 t115 true _ A3.out).mono ?_); rintro e w' ⟨rfl, ⟨nd, rfl⟩⟩; refine ⟨_, rfl, ?_⟩) | ((with_reducible refine gate_callee (f := 20) rfl ?_); refine goesL_ (some 33) rfl rfl Tryd.func20 (by kernel_rfl) rfl #[.string t113] rfl (by (try simp only [List.map_toArray, List.map_cons, List.map_nil]); first | done | rfl | (simp only [List.length_drop, List.length_take]; rfl)) ?_; (with_reducible refine (strconv_Atoi.calls t113 t117 t118 _ A5.out).mono ?_); rintro e w7 ⟨rfl, hb⟩; refine ⟨_, rfl, ?_⟩; have n0_ := Aside0.mk (below_step (by repeat (first | (with_reducible first | exact HB.out | apply below_alloc | apply pw_below_drewN | apply below_drew1) | exact HB.out)) hb); clear HB; have HB := n0_; clear n0_; (try clear hb); (try clear hb2); (try clear hk); (try clear hi); (try simp only [errW_none, errW_some])))
    (try simp only [Act.put, List.setIfInBounds_toArray, List.set_cons_zero, List.set_cons_succ])
    go_cut [9, 10, 12] (fun v9 v10 v12 wc => ∃ (kq : Nat) (x9_5 : Bool) (x10_5 : Int) (x12_5 : Int), v9 = .bool x9_5 ∧ v10 = .int .i64 x10_5 ∧ v12 = .int .i64 x12_5 ∧ Aside0 (quantity_Parse.j1 kq t112 x9_5 x10_5 x12_5 = some (r1, r2)) ∧ Aside0 (kq ≤ k) ∧ Aside0 (Below w.heap.size w wc))
    case first =>
      have H := HC6.out
      clear HC6
      by_cases c8 : t115.toList = ([109] : List UInt8)
      · rw [if_pos c8] at H
        have c8b0 : (t115.toList == ([109] : List UInt8)) = true := beq_iff_eq.mpr c8
        have c8b1 : (t115.toList != ([109] : List UInt8)) = false := bne_eq_false_iff_eq.mpr c8
        clear c8
        (first | rw [c8b0] | (simp only [i64_w, i32_w]; rw [c8b0]) | skip)
        have H' := Aside0.mk H
        clear H
        go_wp2
        go_meet
        case rel => exact ⟨_, ((t114.toList == ([] : List UInt8))), (t117), (1), (by first | rfl | (simp; done) | (simp [*]; done)), (by first | rfl | (simp; done) | (simp [*]; done)), (by first | rfl | (simp; done) | (simp [*]; done)), H', ⟨by first | omega | exact Nat.le_refl _⟩, ⟨by repeat (first | (with_reducible first | exact HB.out | apply below_alloc | apply pw_below_drewN | apply below_drew1) | exact HB.out)⟩⟩
      · rw [if_neg c8] at H
        have c8b0 : (t115.toList == ([109] : List UInt8)) = false := beq_eq_false_iff_ne.mpr c8
        have c8b1 : (t115.toList != ([109] : List UInt8)) = true := bne_iff_ne.mpr c8
        (first | rw [c8b0] | (simp only [i64_w, i32_w]; rw [c8b0]) | skip)
        by_cases c9 : 0 ≤ (t114.size : Int)
        · rw [if_pos c9] at H
          have c9b0 := eq_true c9
          have c9b1 : decide (0 ≤ (t114.size : Int)) = true := decide_eq_true c9
          clear c9
          by_cases c10 : (t114.size : Int) ≤ 3
          · rw [if_pos c10] at H
            have c10b0 := eq_true c10
            have c10b1 : decide ((t114.size : Int) ≤ 3) = true := decide_eq_true c10
            clear c10
            by_cases c11 : t114.size + ((⟨#[48, 48, 48]⟩ : ByteArray).extract ((t114.size : Int) : Int).toNat (⟨#[48, 48, 48]⟩ : ByteArray).size).size ≤ 9223372036854775807
            · rw [if_pos c11] at H
              have c11b0 := eq_true c11
              have c11b1 : decide (t114.size + ((⟨#[48, 48, 48]⟩ : ByteArray).extract ((t114.size : Int) : Int).toNat (⟨#[48, 48, 48]⟩ : ByteArray).size).size ≤ 9223372036854775807) = true := decide_eq_true c11
              try have c11b2 : (9223372036854775807 < t114.size + ((⟨#[48, 48, 48]⟩ : ByteArray).extract ((t114.size : Int) : Int).toNat (⟨#[48, 48, 48]⟩ : ByteArray).size).size) = False := eq_false (Nat.not_lt.2 c11)
              replace H := Option.bind_eq_some_iff.mp H
              obtain ⟨⟨t119, t120⟩, A120, H⟩ := H
              replace H : ((quantity_units.f).bind fun t121 => (quantity_Parse.l0 k t112 t115 false (wrap64 ((wrap64 (t117 * 1000)) + t119)) 1 t121 (t121.length : Int) 0)) = some (r1, r2) := H
              have A12 := Aside0.mk A120
              clear A120
              replace H := Option.bind_eq_some_iff.mp H
              obtain ⟨t121, A130, H⟩ := H
              replace H : (quantity_Parse.l0 k t112 t115 false (wrap64 ((wrap64 (t117 * 1000)) + t119)) 1 t121 (t121.length : Int) 0) = some (r1, r2) := H
              have A13 := Aside0.mk A130
              clear A130
              have H' := Aside0.mk H
              clear H
              go_wp2_with (first | ((with_reducible refine gate_callee (f := 20) rfl ?_); refine goesL_ (some 46) rfl rfl Tryd.func20 (by kernel_rfl) rfl #[.string (t114 ++ ((⟨#[48, 48, 48]⟩ : ByteArray).extract ((t114.size : Int) : Int).toNat (⟨#[48, 48, 48]⟩ : ByteArray).size))] rfl (by (try simp only [List.map_toArray, List.map_cons, List.map_nil]); first | done | rfl | (simp only [List.length_drop, List.length_take]; rfl)) ?_; (with_reducible refine (strconv_Atoi.calls (t114 ++ ((⟨#[48, 48, 48]⟩ : ByteArray).extract ((t114.size : Int) : Int).toNat (⟨#[48, 48, 48]⟩ : ByteArray).size)) t119 t120 _ A12.out).mono ?_); rintro e w14 ⟨rfl, hb⟩; refine ⟨_, rfl, ?_⟩; have n0_ := Aside0.mk (below_step (by repeat (first | (with_reducible first | exact HB.out | apply below_alloc | apply pw_below_drewN | apply below_drew1) | exact HB.out)) hb); clear HB; have HB := n0_; clear n0_; (try clear hb); (try clear hb2); (try clear hk); (try clear hi); (try simp only [errW_none, errW_some])) | ((with_reducible refine gate_callee (f := 21) rfl ?_); refine goesL_ (some 53) rfl rfl Tryd.func21 (by kernel_rfl) rfl #[] rfl (by (try simp only [List.map_toArray, List.map_cons, List.map_nil]); first | done | rfl | (simp only [List.length_drop, List.length_take]; rfl)) ?_; (with_reducible refine (quantity_units.calls  t121 _ A13.out).mono ?_); rintro e w15 ⟨v122, rfl, ho0, hb⟩; refine ⟨_, rfl, ?_⟩; have n0_ := Aside0.mk (Kd.R_lower ho0 (below_size (by repeat (first | (with_reducible first | exact HB.out | apply below_alloc | apply pw_below_drewN | apply below_drew1) | exact HB.out)))); have n1_ := Aside0.mk (below_step (by repeat (first | (with_reducible first | exact HB.out | apply below_alloc | apply pw_below_drewN | apply below_drew1) | exact HB.out)) hb); clear HB; have HO123 := n0_; have HB := n1_; clear n0_ n1_; (try clear hb); (try clear hb2); (try clear hk); (try clear hi); (try clear ho0); obtain ⟨Ao16, co16, eo16⟩ := Kd.R_slice HO123.out; subst eo16))
              go_loopg [9, 12, 55] k (fun kq v9 v12 v55 w' => ∃ (x9_1 : Bool) (x12_1 : Int) (x55_1 : Int), v9 = .bool x9_1 ∧ v12 = .int .i64 x12_1 ∧ v55 = .int .i64 x55_1 ∧ Aside0 (quantity_Parse.l0 kq t112 t115 x9_1 (wrap64 ((wrap64 (t117 * 1000)) + t119)) x12_1 t121 (t121.length : Int) x55_1 = some (r1, r2)) ∧ Aside0 (kq ≤ k) ∧ Aside0 (Kd.R k47 47 w' w.heap.size (fun _ => True) (.slice Ao16 t121.length co16) t121) ∧ Aside0 (Below w.heap.size w w'))
              case atStart => exact ⟨(false), (1), (0), (by first | rfl | (simp; done) | (simp [*]; done)), (by first | rfl | (simp; done) | (simp [*]; done)), (by first | rfl | (simp; done) | (simp [*]; done)), H', ⟨Nat.le_refl _⟩, ⟨by (with_reducible repeat (first | apply Kd.R_alloc | apply Kd.R_drewN | apply Kd.R_drew)); exact HO123.out⟩, ⟨by repeat (first | (with_reducible first | exact HB.out | apply below_alloc | apply pw_below_drewN | apply below_drew1) | exact HB.out)⟩⟩
              case round =>
                clear H'
                try clear c1
                try clear c2
                try clear p2
                try clear c4
                try clear p6
                try clear c8
                try clear c8b0
                try clear c8b1
                try clear c9
                try clear c9b0
                try clear c9b1
                try clear c10
                try clear c10b0
                try clear c10b1
                try clear c11
                try clear c11b0
                try clear c11b1
                try clear c11b2
                obtain ⟨x9_1, x12_1, x55_1, rfl, rfl, rfl, HA, HK1, HO_53, HB⟩ := hrel
                cases gk with
                | zero => exact absurd HA.out (by simp [quantity_Parse.l0])
                | succ k1 =>
                  have H := HA.out
                  clear HA
                  simp only [quantity_Parse.l0] at H
                  by_cases c17 : x55_1 < (t121.length : Int)
                  · rw [if_pos c17] at H
                    have c17b0 : decide (x55_1 < (t121.length : Int)) = true := decide_eq_true c17
                    clear c17
                    by_cases c18 : 0 ≤ x55_1
                    · rw [if_pos c18] at H
                      have c18b0 : decide (0 ≤ x55_1) = true := decide_eq_true c18
                      clear c18
                      by_cases c19 : x55_1 < (t121.length : Int)
                      · rw [if_pos c19] at H
                        have c19b0 : decide (x55_1 < (t121.length : Int)) = true := decide_eq_true c19
                        clear c19
                        by_cases c20 : ((rd_T47 t121 x55_1).f0).toList = t115.toList
                        · rw [if_pos c20] at H
                          have c20b0 : (((rd_T47 t121 x55_1).f0).toList == t115.toList) = true := beq_iff_eq.mpr c20
                          have c20b1 : (((rd_T47 t121 x55_1).f0).toList != t115.toList) = false := bne_eq_false_iff_eq.mpr c20
                          clear c20
                          have H' := Aside0.mk H
                          clear H
                          have p124 : 0 ≤ (x55_1 : Int) := of_decide_eq_true (by first | (with_reducible assumption) | assumption)
                          have q124 : x55_1 < (t121.length : Int) := of_decide_eq_true (by first | (with_reducible assumption) | assumption)
                          obtain ⟨ad124, e124, hx124_0, hx124_1⟩ := at_T47 (Kd.R_reads' HO_53.out).2.2 x55_1 p124 q124
                          cases e124
                          replace p124 := eq_true p124
                          replace q124 := eq_true q124
                          go_wp2_with (first | ((with_reducible refine gate_dst (N := 16) rfl ?_); refine box_event ?hg (N := 16) ?hd (cs := #[.string (⟨#[]⟩ : ByteArray), .int .i64 0]) (t := 47) ?hr ?_; (case hd => rfl); (case hg => rfl); (case hr => first | (go_simp; done) | (go_simp; rfl)); intro gb125 hg w21 hbox hb; have n0_ := Aside0.mk (Kd.R_below (Kd.R_elderB (by (with_reducible repeat (first | apply Kd.R_alloc | apply Kd.R_drewN | apply Kd.R_drew)); exact HO_53.out) gb125 (Nat.le_of_eq hg.symm)) hb); have n1_ := Aside0.mk (below_step (by repeat (first | (with_reducible first | exact HB.out | apply below_alloc | apply pw_below_drewN | apply below_drew1) | exact HB.out)) hb); have n2_ := Aside0.mk (hbox); have n3_ := Aside0.mk ((by rw [hg]; exact (below_size (by repeat (first | (with_reducible first | exact HB.out | apply below_alloc | apply pw_below_drewN | apply below_drew1) | exact HB.out))) : w.heap.size ≤ gb125)); have n4_ := Aside0.mk ((by rw [hg]; exact (below_size (by repeat (first | (with_reducible first | exact HB.out | apply below_alloc | apply pw_below_drewN | apply below_drew1) | exact HB.out))) : w.heap.size ≤ gb125)); clear HO_53; clear HB; have HO_53 := n0_; have HB := n1_; have BK125 := n2_; have GW125 := n3_; have GE125 := n4_; clear n0_ n1_ n2_ n3_ n4_; clear hb hbox hg; have hcz22_0 : w21.cell? ⟨gb125, 0, none⟩ = some (.string (⟨#[]⟩ : ByteArray)) := (blk_cell BK125.out 0).trans rfl; have hcz22_1 : w21.cell? ⟨gb125, 1, none⟩ = some (.int .i64 0) := (blk_cell BK125.out 1).trans rfl; have hfz22_0 := blk_frozen BK125.out 0; have hfz22_1 := blk_frozen BK125.out 1))
                          go_roundg k1
                          case measure => have := HK1.out; omega
                          case rel => exact ⟨(true), ((rd_T47 t121 x55_1).f1), (wrap64 (x55_1 + 1)), (by first | rfl | (simp; done) | (simp [*]; done)), (by first | rfl | (simp; done) | (simp [*]; done)), (by first | rfl | (simp; done) | (simp [*]; done)), H', ⟨by have := HK1.out; omega⟩, ⟨by (with_reducible repeat (first | apply Kd.R_alloc | apply Kd.R_drewN | apply Kd.R_drew)); exact Kd.R_mono (Kd.R_far (p := ⟨gb125, 1, none⟩) (Kd.R_far (p := ⟨gb125, 0, none⟩) (Kd.R_mono HO_53.out (fun k_ hk => (⟨hk, hk.2⟩ : _ ∧ k_ ≠ gb125))) (fun _ hk => hk.2) (.string ((rd_T47 t121 x55_1).f0))) (fun _ hk => hk.2) (.int .i64 ((rd_T47 t121 x55_1).f1))) (fun _ hk => trivial)⟩, ⟨by repeat (first | (with_reducible first | exact HB.out | apply below_alloc | apply pw_below_drewN | apply below_drew1 | refine below_set ?_ GE125.out) | exact HB.out)⟩⟩
                        · rw [if_neg c20] at H
                          have c20b0 : (((rd_T47 t121 x55_1).f0).toList == t115.toList) = false := beq_eq_false_iff_ne.mpr c20
                          have c20b1 : (((rd_T47 t121 x55_1).f0).toList != t115.toList) = true := bne_iff_ne.mpr c20
                          have H' := Aside0.mk H
                          clear H
                          have p124 : 0 ≤ (x55_1 : Int) := of_decide_eq_true (by first | (with_reducible assumption) | assumption)
                          have q124 : x55_1 < (t121.length : Int) := of_decide_eq_true (by first | (with_reducible assumption) | assumption)
                          obtain ⟨ad124, e124, hx124_0, hx124_1⟩ := at_T47 (Kd.R_reads' HO_53.out).2.2 x55_1 p124 q124
                          cases e124
                          replace p124 := eq_true p124
                          replace q124 := eq_true q124
                          go_wp2_with (first | ((with_reducible refine gate_dst (N := 16) rfl ?_); refine box_event ?hg (N := 16) ?hd (cs := #[.string (⟨#[]⟩ : ByteArray), .int .i64 0]) (t := 47) ?hr ?_; (case hd => rfl); (case hg => rfl); (case hr => first | (go_simp; done) | (go_simp; rfl)); intro gb125 hg w23 hbox hb; have n0_ := Aside0.mk (Kd.R_below (Kd.R_elderB (by (with_reducible repeat (first | apply Kd.R_alloc | apply Kd.R_drewN | apply Kd.R_drew)); exact HO_53.out) gb125 (Nat.le_of_eq hg.symm)) hb); have n1_ := Aside0.mk (below_step (by repeat (first | (with_reducible first | exact HB.out | apply below_alloc | apply pw_below_drewN | apply below_drew1) | exact HB.out)) hb); have n2_ := Aside0.mk (hbox); have n3_ := Aside0.mk ((by rw [hg]; exact (below_size (by repeat (first | (with_reducible first | exact HB.out | apply below_alloc | apply pw_below_drewN | apply below_drew1) | exact HB.out))) : w.heap.size ≤ gb125)); have n4_ := Aside0.mk ((by rw [hg]; exact (below_size (by repeat (first | (with_reducible first | exact HB.out | apply below_alloc | apply pw_below_drewN | apply below_drew1) | exact HB.out))) : w.heap.size ≤ gb125)); clear HO_53; clear HB; have HO_53 := n0_; have HB := n1_; have BK125 := n2_; have GW125 := n3_; have GE125 := n4_; clear n0_ n1_ n2_ n3_ n4_; clear hb hbox hg; have hcz24_0 : w23.cell? ⟨gb125, 0, none⟩ = some (.string (⟨#[]⟩ : ByteArray)) := (blk_cell BK125.out 0).trans rfl; have hcz24_1 : w23.cell? ⟨gb125, 1, none⟩ = some (.int .i64 0) := (blk_cell BK125.out 1).trans rfl; have hfz24_0 := blk_frozen BK125.out 0; have hfz24_1 := blk_frozen BK125.out 1))
                          go_roundg k1
                          case measure => have := HK1.out; omega
                          case rel => exact ⟨(x9_1), (x12_1), (wrap64 (x55_1 + 1)), (by first | rfl | (simp; done) | (simp [*]; done)), (by first | rfl | (simp; done) | (simp [*]; done)), (by first | rfl | (simp; done) | (simp [*]; done)), H', ⟨by have := HK1.out; omega⟩, ⟨by (with_reducible repeat (first | apply Kd.R_alloc | apply Kd.R_drewN | apply Kd.R_drew)); exact Kd.R_mono (Kd.R_far (p := ⟨gb125, 1, none⟩) (Kd.R_far (p := ⟨gb125, 0, none⟩) (Kd.R_mono HO_53.out (fun k_ hk => (⟨hk, hk.2⟩ : _ ∧ k_ ≠ gb125))) (fun _ hk => hk.2) (.string ((rd_T47 t121 x55_1).f0))) (fun _ hk => hk.2) (.int .i64 ((rd_T47 t121 x55_1).f1))) (fun _ hk => trivial)⟩, ⟨by repeat (first | (with_reducible first | exact HB.out | apply below_alloc | apply pw_below_drewN | apply below_drew1 | refine below_set ?_ GE125.out) | exact HB.out)⟩⟩
                      · rw [if_neg c19] at H
                        exact absurd H (by simp)
                    · rw [if_neg c18] at H
                      exact absurd H (by simp)
                  · rw [if_neg c17] at H
                    have c17b0 : decide (x55_1 < (t121.length : Int)) = false := decide_eq_false c17
                    clear c17
                    have H' := Aside0.mk H
                    clear H
                    go_wp2
                    go_meet
                    case rel => exact ⟨_, (x9_1), ((wrap64 ((wrap64 (t117 * 1000)) + t119))), (x12_1), (by first | rfl | (simp; done) | (simp [*]; done)), (by first | rfl | (simp; done) | (simp [*]; done)), (by first | rfl | (simp; done) | (simp [*]; done)), H', ⟨by have := HK1.out; first | omega | exact Nat.le_refl _⟩, ⟨by repeat (first | (with_reducible first | exact HB.out | apply below_alloc | apply pw_below_drewN | apply below_drew1) | exact HB.out)⟩⟩
            · rw [if_neg c11] at H
              exact absurd H (by simp)
          · rw [if_neg c10] at H
            exact absurd H (by simp)
        · rw [if_neg c9] at H
          exact absurd H (by simp)
    case rest =>
      clear HC6
      try clear c1
      try clear p1
      try clear q1
      try clear hx1
      try clear c2
      try clear p2
      try clear c4
      try clear p6
      try clear c8
      try clear c8b0
      try clear c8b1
      try clear c9
      try clear c9b0
      try clear c9b1
      try clear c10
      try clear c10b0
      try clear c10b1
      try clear c11
      try clear c11b0
      try clear c11b1
      try clear c11b2
      try clear p12
      try clear q12
      try clear hx12
      try clear c17
      try clear c17b0
      try clear c18
      try clear c18b0
      try clear c19
      try clear c19b0
      try clear c20
      try clear c20b0
      try clear c20b1
      try clear c21
      try clear hcz22_0
      try clear hcz22_1
      try clear hcz24_0
      try clear hcz24_1
      try clear hfz22_0
      try clear hfz22_1
      try clear hfz24_0
      try clear hfz24_1
      try clear hx124_0
      try clear hx124_1
      try clear p124
      try clear p2
      try clear p6
      try clear q124
      obtain ⟨kq, x9_5, x10_5, x12_5, rfl, rfl, rfl, HA, HJ5, HB⟩ := hcut
      cases kq with
      | zero => exact absurd HA.out (by simp [quantity_Parse.j1])
      | succ kj5 =>
        have H := HA.out
        clear HA
        simp only [quantity_Parse.j1] at H
        by_cases c25 : x9_5 = true
        · subst c25
          have H1 : (if x12_5 = 0 then (none) else (if x10_5 > (wrap64 (Int.tdiv (1000000000000000 : Int) x12_5)) then (some (0, 5)) else (if t112 = true then (some (wrap64 ((wrap64 (-x10_5)) * x12_5), 0)) else (some (wrap64 (x10_5 * x12_5), 0))))) = some (r1, r2) := by rw [if_pos rfl] at H; exact H
          clear H
          have H := H1
          clear H1
          by_cases c26 : x12_5 = 0
          · rw [if_pos c26] at H
            exact absurd H (by simp)
          · rw [if_neg c26] at H
            have c26b0 : (x12_5 == 0) = false := beq_eq_false_iff_ne.mpr c26
            have c26b1 : (x12_5 != 0) = true := bne_iff_ne.mpr c26
            by_cases c27 : x10_5 > (wrap64 (Int.tdiv (1000000000000000 : Int) x12_5))
            · rw [if_pos c27] at H
              have c27b0 : decide ((wrap64 (Int.tdiv (1000000000000000 : Int) x12_5)) < x10_5) = true := decide_eq_true c27
              clear c27
              simp only [Option.some.injEq, Prod.mk.injEq] at H
              obtain ⟨rfl, rfl⟩ := H
              go_wp2
              go_ret2
              exact ⟨by first | rfl | (simp [errW_none, errW_some] <;> rfl) | (simp [*, errW_none, errW_some] <;> rfl), by repeat (first | (with_reducible first | exact HB.out | apply below_alloc | apply pw_below_drewN | apply below_drew1) | exact HB.out)⟩
            · rw [if_neg c27] at H
              have c27b0 : decide ((wrap64 (Int.tdiv (1000000000000000 : Int) x12_5)) < x10_5) = false := decide_eq_false c27
              clear c27
              by_cases c28 : t112 = true
              · subst c28
                have H1 : (some (wrap64 ((wrap64 (-x10_5)) * x12_5), 0)) = some (r1, r2) := by rw [if_pos rfl] at H; exact H
                clear H
                have H := H1
                clear H1
                simp only [Option.some.injEq, Prod.mk.injEq] at H
                obtain ⟨rfl, rfl⟩ := H
                go_wp2
                go_ret2
                exact ⟨by first | rfl | (simp [errW_none, errW_some] <;> rfl) | (simp [*, errW_none, errW_some] <;> rfl), by repeat (first | (with_reducible first | exact HB.out | apply below_alloc | apply pw_below_drewN | apply below_drew1) | exact HB.out)⟩
              · replace c28 := Bool.eq_false_iff.mpr c28
                subst c28
                have H1 : (some (wrap64 (x10_5 * x12_5), 0)) = some (r1, r2) := by rw [if_neg (show ¬ (false = true) by decide)] at H; exact H
                clear H
                have H := H1
                clear H1
                simp only [Option.some.injEq, Prod.mk.injEq] at H
                obtain ⟨rfl, rfl⟩ := H
                go_wp2
                go_ret2
                exact ⟨by first | rfl | (simp [errW_none, errW_some] <;> rfl) | (simp [*, errW_none, errW_some] <;> rfl), by repeat (first | (with_reducible first | exact HB.out | apply below_alloc | apply pw_below_drewN | apply below_drew1) | exact HB.out)⟩
        · replace c25 := Bool.eq_false_iff.mpr c25
          subst c25
          have H1 : (some (0, 2)) = some (r1, r2) := by rw [if_neg (show ¬ (false = true) by decide)] at H; exact H
          clear H
          have H := H1
          clear H1
          simp only [Option.some.injEq, Prod.mk.injEq] at H
          obtain ⟨rfl, rfl⟩ := H
          go_wp2
          go_ret2
          exact ⟨by first | rfl | (simp [errW_none, errW_some] <;> rfl) | (simp [*, errW_none, errW_some] <;> rfl), by repeat (first | (with_reducible first | exact HB.out | apply below_alloc | apply pw_below_drewN | apply below_drew1) | exact HB.out)⟩
  · replace c4 := Bool.eq_false_iff.mpr c4
    subst c4
    have H1 : (some (0, 2)) = some (r1, r2) := by rw [if_neg (show ¬ (false = true) by decide)] at H; exact H
    clear H
    have H := H1
    clear H1
    simp only [Option.some.injEq, Prod.mk.injEq] at H
    obtain ⟨rfl, rfl⟩ := H
    go_enter Tryd.func11, Tryd.ntmps11
    go_wp2_with (first | ((with_reducible refine gate_callee (f := 18) rfl ?_); refine goesL_ (some 19) rfl rfl Tryd.func18 (by kernel_rfl) rfl #[.string a0, .string (⟨#[45]⟩ : ByteArray)] rfl (by (try simp only [List.map_toArray, List.map_cons, List.map_nil]); first | done | rfl | (simp only [List.length_drop, List.length_take]; rfl)) ?_; (with_reducible refine (strings_CutPrefix.calls a0 (⟨#[45]⟩ : ByteArray) t111 t112 _ A2.out).mono ?_); rintro e w' ⟨rfl, ⟨nd, rfl⟩⟩; refine ⟨_, rfl, ?_⟩) | ((with_reducible refine gate_callee (f := 19) rfl ?_); refine goesL_ (some 24) rfl rfl Tryd.func19 (by kernel_rfl) rfl #[.string t111] rfl (by (try simp only [List.map_toArray, List.map_cons, List.map_nil]); first | done | rfl | (simp only [List.length_drop, List.length_take]; rfl)) ?_; (with_reducible refine (quantity_split.calls k t111 t113 t114 t115 false _ A3.out).mono ?_); rintro e w' ⟨rfl, ⟨nd, rfl⟩⟩; refine ⟨_, rfl, ?_⟩))
    go_ret2
    exact ⟨by first | rfl | (simp [errW_none, errW_some] <;> rfl) | (simp [*, errW_none, errW_some] <;> rfl), by repeat (first | (with_reducible first | exact HB.out | apply below_alloc | apply pw_below_drewN | apply below_drew1) | exact HB.out)⟩

/-! ### quantity_clamp: function 25 -/
def quantity_clamp.f (a0 : Int) : Option (Int) := some (mn (mx a0 0) 1000000000000000)
set_option maxHeartbeats 8000000 in
set_option maxRecDepth 100000 in
theorem quantity_clamp.calls (a0 : Int) (r : Int) (w : World) (h : quantity_clamp.f a0 = some r) :
    Calls Tryd.prog 25 #[.int .i64 a0] w fun e w' => e = .returned (.int .i64 r) ∧ Below w.heap.size w w' := by
  have HB := Aside0.mk (Below.refl w.heap.size w)
  have H : (some (mn (mx a0 0) 1000000000000000)) = some r := h
  clear h
  obtain ⟨ji2, hji2⟩ : ∃ j_ : Int, (mx a0 0) = j_ := ⟨_, rfl⟩
  replace H : (some (mn (ji2) 1000000000000000)) = some r := by first | (rw [hji2] at H; exact H) | (simp only [hji2] at H ⊢; exact H)
  (try (have hji2l : 0 ≤ ji2 := by (rw [← hji2]; unfold mx; (repeat' split) <;> omega)))
  (try (have hji2m : 0 ≤ ji2 := by omega))
  have hji2_ : (if a0 < 0 then 0 else a0) = ji2 := hji2
  obtain ⟨ji3, hji3⟩ : ∃ j_ : Int, (mn (ji2) 1000000000000000) = j_ := ⟨_, rfl⟩
  replace H : (some ji3) = some r := by first | (rw [hji3] at H; exact H) | (simp only [hji3] at H ⊢; exact H)
  have hji3_ : (if 1000000000000000 < (ji2) then 1000000000000000 else (ji2)) = ji3 := hji3
  obtain rfl := Option.some.inj H
  go_enter Tryd.func25, Tryd.ntmps25
  go_wp2
  go_ret
  exact ⟨by first | rfl | (simp [errW_none, errW_some] <;> rfl) | (simp only [← hji2, ← hji3]; first | rfl | (simp [errW_none, errW_some] <;> rfl)) | (simp [*, errW_none, errW_some] <;> rfl), by repeat (first | (with_reducible first | exact HB.out | apply below_alloc | apply pw_below_drewN | apply below_drew1) | exact HB.out)⟩

/-! ### quantity_Resolve: function 16 -/
def quantity_Resolve.j0 : Nat → Bool → Int → Int → Int → Bool → Option (Int)
  | 0, _, _, _, _, _ => none
  | k + 1, x2, x7, x9, x10, x32 => if x32 = true then (some 1000000000000000) else (if x2 = true then (some (mn (wrap64 ((wrap64 (x9 * x7)) + (wrap64 (Int.tdiv (wrap64 ((wrap64 (x10 * x7)) + 99)) 100)))) 1000000000000000)) else (some (mn (wrap64 ((wrap64 (x9 * x7)) + (wrap64 (Int.tdiv (wrap64 (x10 * x7)) 100)))) 1000000000000000)))
def quantity_Resolve.f (k : Nat) (a0_0 : Bool) (a0_1 : Int) (a1 : Int) (a2 : Bool) : Option (Int) := (quantity_clamp.f a0_1).bind fun t127 => ((quantity_clamp.f a1).bind fun t128 => (if a0_0 = true then (if (wrap64 (Int.tdiv t128 100)) > 0 then (if (wrap64 (Int.tdiv t128 100)) = 0 then (none) else (quantity_Resolve.j0 k a2 t127 (wrap64 (Int.tdiv t128 100)) (Int.tmod t128 100) (decide (t127 > (wrap64 (Int.tdiv (1000000000000000 : Int) (wrap64 (Int.tdiv t128 100)))))))) else (quantity_Resolve.j0 k a2 t127 (wrap64 (Int.tdiv t128 100)) (Int.tmod t128 100) false)) else (some t127)))
theorem quantity_Resolve.mono_l : ∀ k, (∀ y0 y1 y2 y3 y4, LeO (quantity_Resolve.j0 k y0 y1 y2 y3 y4) (quantity_Resolve.j0 (k + 1) y0 y1 y2 y3 y4))
  | 0 => fun _ _ _ _ _ r h => by simp [quantity_Resolve.j0] at h
  | k + 1 => by
    have ih0 := quantity_Resolve.mono_l k
    · intro y0 y1 y2 y3 y4
      unfold quantity_Resolve.j0
      repeat' first
      | (with_reducible exact ih0 _ _ _ _ _)
      | (with_reducible exact LeO.refl _)
      | (with_reducible exact LeO.none _)
      | (with_reducible refine LeO.ite ?_ ?_)
      | (with_reducible refine LeO.bind ?_ (fun _ => ?_))
      | exact ih0 _ _ _ _ _
      | exact LeO.none _
      | refine LeO.ite ?_ ?_
      | refine LeO.bind ?_ (fun _ => ?_)
theorem quantity_Resolve.mono : ∀ a0 a1 a2 a3 k, LeO (quantity_Resolve.f k a0 a1 a2 a3) (quantity_Resolve.f (k + 1) a0 a1 a2 a3) := by
  intro a0 a1 a2 a3 k
  have ih0 := quantity_Resolve.mono_l k
  unfold quantity_Resolve.f
  repeat' first
      | (with_reducible exact ih0 _ _ _ _ _)
      | (with_reducible exact LeO.refl _)
      | (with_reducible exact LeO.none _)
      | (with_reducible refine LeO.ite ?_ ?_)
      | (with_reducible refine LeO.bind ?_ (fun _ => ?_))
      | exact ih0 _ _ _ _ _
      | exact LeO.none _
      | refine LeO.ite ?_ ?_
      | refine LeO.bind ?_ (fun _ => ?_)
set_option maxHeartbeats 8000000 in
set_option maxRecDepth 100000 in
theorem quantity_Resolve.calls (k : Nat) (a0_0 : Bool) (a0_1 : Int) (a1 : Int) (a2 : Bool) (r : Int) (w : World) (h : quantity_Resolve.f k a0_0 a0_1 a1 a2 = some r) :
    Calls Tryd.prog 16 #[.agg #[.bool a0_0, .int .i64 a0_1], .int .i64 a1, .bool a2] w fun e w' => e = .returned (.int .i64 r) ∧ Below w.heap.size w w' := by
  have hu32 := Tryd.underlying32
  have HB := Aside0.mk (Below.refl w.heap.size w)
  have H : ((quantity_clamp.f a0_1).bind fun t127 => ((quantity_clamp.f a1).bind fun t128 => (if a0_0 = true then (if (wrap64 (Int.tdiv t128 100)) > 0 then (if (wrap64 (Int.tdiv t128 100)) = 0 then (none) else (quantity_Resolve.j0 k a2 t127 (wrap64 (Int.tdiv t128 100)) (Int.tmod t128 100) (decide (t127 > (wrap64 (Int.tdiv (1000000000000000 : Int) (wrap64 (Int.tdiv t128 100)))))))) else (quantity_Resolve.j0 k a2 t127 (wrap64 (Int.tdiv t128 100)) (Int.tmod t128 100) false)) else (some t127)))) = some r := h
  clear h
  replace H := Option.bind_eq_some_iff.mp H
  obtain ⟨t127, A40, H⟩ := H
  replace H : ((quantity_clamp.f a1).bind fun t128 => (if a0_0 = true then (if (wrap64 (Int.tdiv t128 100)) > 0 then (if (wrap64 (Int.tdiv t128 100)) = 0 then (none) else (quantity_Resolve.j0 k a2 t127 (wrap64 (Int.tdiv t128 100)) (Int.tmod t128 100) (decide (t127 > (wrap64 (Int.tdiv (1000000000000000 : Int) (wrap64 (Int.tdiv t128 100)))))))) else (quantity_Resolve.j0 k a2 t127 (wrap64 (Int.tdiv t128 100)) (Int.tmod t128 100) false)) else (some t127))) = some r := H
  have A4 := Aside0.mk A40
  clear A40
  replace H := Option.bind_eq_some_iff.mp H
  obtain ⟨t128, A50, H⟩ := H
  replace H : (if a0_0 = true then (if (wrap64 (Int.tdiv t128 100)) > 0 then (if (wrap64 (Int.tdiv t128 100)) = 0 then (none) else (quantity_Resolve.j0 k a2 t127 (wrap64 (Int.tdiv t128 100)) (Int.tmod t128 100) (decide (t127 > (wrap64 (Int.tdiv (1000000000000000 : Int) (wrap64 (Int.tdiv t128 100)))))))) else (quantity_Resolve.j0 k a2 t127 (wrap64 (Int.tdiv t128 100)) (Int.tmod t128 100) false)) else (some t127)) = some r := H
  have A5 := Aside0.mk A50
  clear A50
  by_cases c6 : a0_0 = true
  · subst c6
    have H1 : (if (wrap64 (Int.tdiv t128 100)) > 0 then (if (wrap64 (Int.tdiv t128 100)) = 0 then (none) else (quantity_Resolve.j0 k a2 t127 (wrap64 (Int.tdiv t128 100)) (Int.tmod t128 100) (decide (t127 > (wrap64 (Int.tdiv (1000000000000000 : Int) (wrap64 (Int.tdiv t128 100)))))))) else (quantity_Resolve.j0 k a2 t127 (wrap64 (Int.tdiv t128 100)) (Int.tmod t128 100) false)) = some r := by rw [if_pos rfl] at H; exact H
    clear H
    have H := H1
    clear H1
    have HC7 := Aside0.mk H
    clear H
    go_enter Tryd.func16, Tryd.ntmps16
    go_upto_region 5 with (first | ((with_reducible refine gate_dst (N := 3) rfl ?_); refine box_event ?hg (N := 3) ?hd (cs := #[.bool true, .int .i64 a0_1]) (t := 32) ?hr ?_; (case hd => rfl); (case hg => rfl); (case hr => first | (go_simp; done) | (go_simp; rfl)); intro gb126 hg w8 hbox hb; have n0_ := Aside0.mk (below_step (by repeat (first | (with_reducible first | exact HB.out | apply below_alloc | apply pw_below_drewN | apply below_drew1) | exact HB.out)) hb); have n1_ := Aside0.mk (hbox); have n2_ := Aside0.mk ((by rw [hg]; exact (below_size (by repeat (first | (with_reducible first | exact HB.out | apply below_alloc | apply pw_below_drewN | apply below_drew1) | exact HB.out))) : w.heap.size ≤ gb126)); have n3_ := Aside0.mk ((by rw [hg]; exact (below_size (by repeat (first | (with_reducible first | exact HB.out | apply below_alloc | apply pw_below_drewN | apply below_drew1) | exact HB.out))) : w.heap.size ≤ gb126)); clear HB; have HB := n0_; have BK126 := n1_; have GW126 := n2_; have GE126 := n3_; clear n0_ n1_ n2_ n3_; clear hb hbox hg; have hcz9_0 : w8.cell? ⟨gb126, 0, none⟩ = some (.bool true) := (blk_cell BK126.out 0).trans rfl; have hcz9_1 : w8.cell? ⟨gb126, 1, none⟩ = some (.int .i64 a0_1) := (blk_cell BK126.out 1).trans rfl; have hfz9_0 := blk_frozen BK126.out 0; have hfz9_1 := blk_frozen BK126.out 1) | ((with_reducible refine gate_callee (f := 25) rfl ?_); refine goesL_ (some 14) rfl rfl Tryd.func25 (by kernel_rfl) rfl #[.int .i64 a0_1] rfl (by (try simp only [List.map_toArray, List.map_cons, List.map_nil]); first | done | rfl | (simp only [List.length_drop, List.length_take]; rfl)) ?_; (with_reducible refine (quantity_clamp.calls a0_1 t127 _ A4.out).mono ?_); rintro e w10 ⟨rfl, hb⟩; refine ⟨_, rfl, ?_⟩; have n0_ := Aside0.mk (blk_below (g := gb126) (o := .cells #[.bool true, .int .i64 a0_1] 32 (0, 0)) (by (with_reducible repeat (first | refine blk_drewN ?_ _ | refine blk_drew ?_ | refine blk_alloc ?_ _)); exact BK126.out) hb); have n1_ := Aside0.mk (below_step (by repeat (first | (with_reducible first | exact HB.out | apply below_alloc | apply pw_below_drewN | apply below_drew1 | refine below_set ?_ GE126.out) | exact HB.out)) hb); clear BK126; clear HB; have BK126 := n0_; have HB := n1_; clear n0_ n1_; (try clear hb); (try clear hb2); (try clear hk); (try clear hi)) | ((with_reducible refine gate_callee (f := 25) rfl ?_); refine goesL_ (some 16) rfl rfl Tryd.func25 (by kernel_rfl) rfl #[.int .i64 a1] rfl (by (try simp only [List.map_toArray, List.map_cons, List.map_nil]); first | done | rfl | (simp only [List.length_drop, List.length_take]; rfl)) ?_; (with_reducible refine (quantity_clamp.calls a1 t128 _ A5.out).mono ?_); rintro e w11 ⟨rfl, hb⟩; refine ⟨_, rfl, ?_⟩; have n0_ := Aside0.mk (blk_below (g := gb126) (o := .cells #[.bool true, .int .i64 a0_1] 32 (0, 0)) (by (with_reducible repeat (first | refine blk_drewN ?_ _ | refine blk_drew ?_ | refine blk_alloc ?_ _)); exact BK126.out) hb); have n1_ := Aside0.mk (below_step (by repeat (first | (with_reducible first | exact HB.out | apply below_alloc | apply pw_below_drewN | apply below_drew1 | refine below_set ?_ GE126.out) | exact HB.out)) hb); clear BK126; clear HB; have BK126 := n0_; have HB := n1_; clear n0_ n1_; (try clear hb); (try clear hb2); (try clear hk); (try clear hi); have hcz12_0 : w11.cell? ⟨gb126, 0, none⟩ = some (.bool true) := (blk_cell BK126.out 0).trans rfl; have hcz12_1 : w11.cell? ⟨gb126, 1, none⟩ = some (.int .i64 a0_1) := (blk_cell BK126.out 1).trans rfl; have hfz12_0 := blk_frozen BK126.out 0; have hfz12_1 := blk_frozen BK126.out 1))
    (try simp only [Act.put, List.setIfInBounds_toArray, List.set_cons_zero, List.set_cons_succ])
    go_cut [32] (fun v32 wc => ∃ (kq : Nat) (x32_6 : Bool), v32 = .bool x32_6 ∧ Aside0 (quantity_Resolve.j0 kq a2 t127 (wrap64 (Int.tdiv t128 100)) (Int.tmod t128 100) x32_6 = some r) ∧ Aside0 (kq ≤ k) ∧ Aside0 (wc.heap[gb126]? = some (.cells #[.bool true, .int .i64 a0_1] 32 (0, 0))) ∧ Aside0 (Below w.heap.size w wc))
    case first =>
      have H := HC7.out
      clear HC7
      by_cases c13 : (wrap64 (Int.tdiv t128 100)) > 0
      · rw [if_pos c13] at H
        have c13b0 : decide (0 < (wrap64 (Int.tdiv t128 100))) = true := decide_eq_true c13
        clear c13
        (first | rw [c13b0] | (simp only [i64_w, i32_w]; rw [c13b0]) | skip)
        by_cases c14 : (wrap64 (Int.tdiv t128 100)) = 0
        · rw [if_pos c14] at H
          exact absurd H (by simp)
        · rw [if_neg c14] at H
          have c14b0 : ((wrap64 (Int.tdiv t128 100)) == 0) = false := beq_eq_false_iff_ne.mpr c14
          have c14b1 : ((wrap64 (Int.tdiv t128 100)) != 0) = true := bne_iff_ne.mpr c14
          have H' := Aside0.mk H
          clear H
          go_wp2
          go_meet
          case rel => exact ⟨_, (decide (t127 > (wrap64 (Int.tdiv (1000000000000000 : Int) (wrap64 (Int.tdiv t128 100)))))), (by first | rfl | (simp; done) | (simp [*]; done)), H', ⟨by first | omega | exact Nat.le_refl _⟩, ⟨by (with_reducible repeat (first | refine blk_drewN ?_ _ | refine blk_drew ?_ | refine blk_alloc ?_ _)); exact BK126.out⟩, ⟨by repeat (first | (with_reducible first | exact HB.out | apply below_alloc | apply pw_below_drewN | apply below_drew1 | refine below_set ?_ GE126.out) | exact HB.out)⟩⟩
      · rw [if_neg c13] at H
        have c13b0 : decide (0 < (wrap64 (Int.tdiv t128 100))) = false := decide_eq_false c13
        clear c13
        (first | rw [c13b0] | (simp only [i64_w, i32_w]; rw [c13b0]) | skip)
        have H' := Aside0.mk H
        clear H
        go_wp2
        go_meet
        case rel => exact ⟨_, (false), (by first | rfl | (simp; done) | (simp [*]; done)), H', ⟨by first | omega | exact Nat.le_refl _⟩, ⟨by (with_reducible repeat (first | refine blk_drewN ?_ _ | refine blk_drew ?_ | refine blk_alloc ?_ _)); exact BK126.out⟩, ⟨by repeat (first | (with_reducible first | exact HB.out | apply below_alloc | apply pw_below_drewN | apply below_drew1 | refine below_set ?_ GE126.out) | exact HB.out)⟩⟩
    case rest =>
      clear HC7
      try clear c1
      try clear c2
      try clear p2
      try clear c6
      try clear p6
      try clear c13
      try clear c13b0
      try clear c14
      try clear c14b0
      try clear c14b1
      try clear hcz12_0
      try clear hcz12_1
      try clear hcz9_0
      try clear hcz9_1
      try clear hfz12_0
      try clear hfz12_1
      try clear hfz9_0
      try clear hfz9_1
      obtain ⟨kq, x32_6, rfl, HA, HJ6, BK126, HB⟩ := hcut
      cases kq with
      | zero => exact absurd HA.out (by simp [quantity_Resolve.j0])
      | succ kj6 =>
        have H := HA.out
        clear HA
        simp only [quantity_Resolve.j0] at H
        by_cases c15 : x32_6 = true
        · subst c15
          have H1 : (some 1000000000000000) = some r := by rw [if_pos rfl] at H; exact H
          clear H
          have H := H1
          clear H1
          obtain rfl := Option.some.inj H
          go_wp2
          go_ret
          exact ⟨by first | rfl | (simp [errW_none, errW_some] <;> rfl) | (simp [*, errW_none, errW_some] <;> rfl), by repeat (first | (with_reducible first | exact HB.out | apply below_alloc | apply pw_below_drewN | apply below_drew1 | refine below_set ?_ GE126.out) | exact HB.out)⟩
        · replace c15 := Bool.eq_false_iff.mpr c15
          subst c15
          have H1 : (if a2 = true then (some (mn (wrap64 ((wrap64 ((wrap64 (Int.tdiv t128 100)) * t127)) + (wrap64 (Int.tdiv (wrap64 ((wrap64 ((Int.tmod t128 100) * t127)) + 99)) 100)))) 1000000000000000)) else (some (mn (wrap64 ((wrap64 ((wrap64 (Int.tdiv t128 100)) * t127)) + (wrap64 (Int.tdiv (wrap64 ((Int.tmod t128 100) * t127)) 100)))) 1000000000000000))) = some r := by rw [if_neg (show ¬ (false = true) by decide)] at H; exact H
          clear H
          have H := H1
          clear H1
          by_cases c16 : a2 = true
          · subst c16
            have H1 : (some (mn (wrap64 ((wrap64 ((wrap64 (Int.tdiv t128 100)) * t127)) + (wrap64 (Int.tdiv (wrap64 ((wrap64 ((Int.tmod t128 100) * t127)) + 99)) 100)))) 1000000000000000)) = some r := by rw [if_pos rfl] at H; exact H
            clear H
            have H := H1
            clear H1
            obtain ⟨ji17, hji17⟩ : ∃ j_ : Int, (mn (wrap64 ((wrap64 ((wrap64 (Int.tdiv t128 100)) * t127)) + (wrap64 (Int.tdiv (wrap64 ((wrap64 ((Int.tmod t128 100) * t127)) + 99)) 100)))) 1000000000000000) = j_ := ⟨_, rfl⟩
            replace H : (some ji17) = some r := by first | (rw [hji17] at H; exact H) | (simp only [hji17] at H ⊢; exact H)
            have hji17_ : (if 1000000000000000 < (wrap64 ((wrap64 ((wrap64 (Int.tdiv t128 100)) * t127)) + (wrap64 (Int.tdiv (wrap64 ((wrap64 ((Int.tmod t128 100) * t127)) + 99)) 100)))) then 1000000000000000 else (wrap64 ((wrap64 ((wrap64 (Int.tdiv t128 100)) * t127)) + (wrap64 (Int.tdiv (wrap64 ((wrap64 ((Int.tmod t128 100) * t127)) + 99)) 100))))) = ji17 := hji17
            obtain rfl := Option.some.inj H
            go_wp2
            go_ret
            exact ⟨by first | rfl | (simp [errW_none, errW_some] <;> rfl) | (simp only [← hji17]; first | rfl | (simp [errW_none, errW_some] <;> rfl)) | (simp [*, errW_none, errW_some] <;> rfl), by repeat (first | (with_reducible first | exact HB.out | apply below_alloc | apply pw_below_drewN | apply below_drew1 | refine below_set ?_ GE126.out) | exact HB.out)⟩
          · replace c16 := Bool.eq_false_iff.mpr c16
            subst c16
            have H1 : (some (mn (wrap64 ((wrap64 ((wrap64 (Int.tdiv t128 100)) * t127)) + (wrap64 (Int.tdiv (wrap64 ((Int.tmod t128 100) * t127)) 100)))) 1000000000000000)) = some r := by rw [if_neg (show ¬ (false = true) by decide)] at H; exact H
            clear H
            have H := H1
            clear H1
            obtain ⟨ji18, hji18⟩ : ∃ j_ : Int, (mn (wrap64 ((wrap64 ((wrap64 (Int.tdiv t128 100)) * t127)) + (wrap64 (Int.tdiv (wrap64 ((Int.tmod t128 100) * t127)) 100)))) 1000000000000000) = j_ := ⟨_, rfl⟩
            replace H : (some ji18) = some r := by first | (rw [hji18] at H; exact H) | (simp only [hji18] at H ⊢; exact H)
            have hji18_ : (if 1000000000000000 < (wrap64 ((wrap64 ((wrap64 (Int.tdiv t128 100)) * t127)) + (wrap64 (Int.tdiv (wrap64 ((Int.tmod t128 100) * t127)) 100)))) then 1000000000000000 else (wrap64 ((wrap64 ((wrap64 (Int.tdiv t128 100)) * t127)) + (wrap64 (Int.tdiv (wrap64 ((Int.tmod t128 100) * t127)) 100))))) = ji18 := hji18
            obtain rfl := Option.some.inj H
            go_wp2
            go_ret
            exact ⟨by first | rfl | (simp [errW_none, errW_some] <;> rfl) | (simp only [← hji18]; first | rfl | (simp [errW_none, errW_some] <;> rfl)) | (simp [*, errW_none, errW_some] <;> rfl), by repeat (first | (with_reducible first | exact HB.out | apply below_alloc | apply pw_below_drewN | apply below_drew1 | refine below_set ?_ GE126.out) | exact HB.out)⟩
  · replace c6 := Bool.eq_false_iff.mpr c6
    subst c6
    have H1 : (some t127) = some r := by rw [if_neg (show ¬ (false = true) by decide)] at H; exact H
    clear H
    have H := H1
    clear H1
    obtain rfl := Option.some.inj H
    go_enter Tryd.func16, Tryd.ntmps16
    go_wp2_with (first | ((with_reducible refine gate_dst (N := 3) rfl ?_); refine box_event ?hg (N := 3) ?hd (cs := #[.bool false, .int .i64 a0_1]) (t := 32) ?hr ?_; (case hd => rfl); (case hg => rfl); (case hr => first | (go_simp; done) | (go_simp; rfl)); intro gb126 hg w19 hbox hb; have n0_ := Aside0.mk (below_step (by repeat (first | (with_reducible first | exact HB.out | apply below_alloc | apply pw_below_drewN | apply below_drew1) | exact HB.out)) hb); have n1_ := Aside0.mk (hbox); have n2_ := Aside0.mk ((by rw [hg]; exact (below_size (by repeat (first | (with_reducible first | exact HB.out | apply below_alloc | apply pw_below_drewN | apply below_drew1) | exact HB.out))) : w.heap.size ≤ gb126)); have n3_ := Aside0.mk ((by rw [hg]; exact (below_size (by repeat (first | (with_reducible first | exact HB.out | apply below_alloc | apply pw_below_drewN | apply below_drew1) | exact HB.out))) : w.heap.size ≤ gb126)); clear HB; have HB := n0_; have BK126 := n1_; have GW126 := n2_; have GE126 := n3_; clear n0_ n1_ n2_ n3_; clear hb hbox hg; have hcz20_0 : w19.cell? ⟨gb126, 0, none⟩ = some (.bool false) := (blk_cell BK126.out 0).trans rfl; have hcz20_1 : w19.cell? ⟨gb126, 1, none⟩ = some (.int .i64 a0_1) := (blk_cell BK126.out 1).trans rfl; have hfz20_0 := blk_frozen BK126.out 0; have hfz20_1 := blk_frozen BK126.out 1) | ((with_reducible refine gate_callee (f := 25) rfl ?_); refine goesL_ (some 14) rfl rfl Tryd.func25 (by kernel_rfl) rfl #[.int .i64 a0_1] rfl (by (try simp only [List.map_toArray, List.map_cons, List.map_nil]); first | done | rfl | (simp only [List.length_drop, List.length_take]; rfl)) ?_; (with_reducible refine (quantity_clamp.calls a0_1 t127 _ A4.out).mono ?_); rintro e w21 ⟨rfl, hb⟩; refine ⟨_, rfl, ?_⟩; have n0_ := Aside0.mk (blk_below (g := gb126) (o := .cells #[.bool false, .int .i64 a0_1] 32 (0, 0)) (by (with_reducible repeat (first | refine blk_drewN ?_ _ | refine blk_drew ?_ | refine blk_alloc ?_ _)); exact BK126.out) hb); have n1_ := Aside0.mk (below_step (by repeat (first | (with_reducible first | exact HB.out | apply below_alloc | apply pw_below_drewN | apply below_drew1 | refine below_set ?_ GE126.out) | exact HB.out)) hb); clear BK126; clear HB; have BK126 := n0_; have HB := n1_; clear n0_ n1_; (try clear hb); (try clear hb2); (try clear hk); (try clear hi)) | ((with_reducible refine gate_callee (f := 25) rfl ?_); refine goesL_ (some 16) rfl rfl Tryd.func25 (by kernel_rfl) rfl #[.int .i64 a1] rfl (by (try simp only [List.map_toArray, List.map_cons, List.map_nil]); first | done | rfl | (simp only [List.length_drop, List.length_take]; rfl)) ?_; (with_reducible refine (quantity_clamp.calls a1 t128 _ A5.out).mono ?_); rintro e w22 ⟨rfl, hb⟩; refine ⟨_, rfl, ?_⟩; have n0_ := Aside0.mk (blk_below (g := gb126) (o := .cells #[.bool false, .int .i64 a0_1] 32 (0, 0)) (by (with_reducible repeat (first | refine blk_drewN ?_ _ | refine blk_drew ?_ | refine blk_alloc ?_ _)); exact BK126.out) hb); have n1_ := Aside0.mk (below_step (by repeat (first | (with_reducible first | exact HB.out | apply below_alloc | apply pw_below_drewN | apply below_drew1 | refine below_set ?_ GE126.out) | exact HB.out)) hb); clear BK126; clear HB; have BK126 := n0_; have HB := n1_; clear n0_ n1_; (try clear hb); (try clear hb2); (try clear hk); (try clear hi); have hcz23_0 : w22.cell? ⟨gb126, 0, none⟩ = some (.bool false) := (blk_cell BK126.out 0).trans rfl; have hcz23_1 : w22.cell? ⟨gb126, 1, none⟩ = some (.int .i64 a0_1) := (blk_cell BK126.out 1).trans rfl; have hfz23_0 := blk_frozen BK126.out 0; have hfz23_1 := blk_frozen BK126.out 1))
    go_ret
    exact ⟨by first | rfl | (simp [errW_none, errW_some] <;> rfl) | (simp [*, errW_none, errW_some] <;> rfl), by repeat (first | (with_reducible first | exact HB.out | apply below_alloc | apply pw_below_drewN | apply below_drew1 | refine below_set ?_ GE126.out) | exact HB.out)⟩

end Go.Proofs.YtjidhmklfkkckaaDoor.X
