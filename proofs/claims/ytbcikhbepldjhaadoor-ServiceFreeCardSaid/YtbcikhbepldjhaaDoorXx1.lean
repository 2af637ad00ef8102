-- Written by xprint.py, a program of this session's, over the kit's print of the translation. Not trusted: Lean checks it.
import Derived.Test.YtbcikhbepldjhaaDoorXx0
namespace Go.Proofs.YtbcikhbepldjhaaDoor.X
open Go.RowKit Go.Proofs.YtbcikhbepldjhaaDoorW.PrintWords Go.Proofs.YtbcikhbepldjhaaDoorW.PrintLast Go.Proofs.YtbcikhbepldjhaaDoorW.PrintMore
attribute [local go_sem] max2_int min2_int max_two min_two max_three min_three max_four min_four   -- for this text's walks alone
set_option linter.unusedVariables false
set_option linter.unusedSimpArgs false

/-! ### orchestratorlaw56_heavy: function 8 -/
def orchestratorlaw56_heavy.l0 : Nat → List (S33) → Int → ByteArray → ByteArray → ByteArray → Int → Int → Int → Int → Bool → Int → List (S69) → List (S72) → List ByteArray → List (S76) → List (S79) → List (S56) → Bool → Int → ByteArray → ByteArray → ByteArray → Int → Int → Int → Int → Bool → Int → List (S69) → List (S72) → List ByteArray → List (S76) → List (S56) → List (S54) → Option (Bool)
  | 0, _, _, _, _, _, _, _, _, _, _, _, _, _, _, _, _, _, _, _, _, _, _, _, _, _, _, _, _, _, _, _, _, _, _ => none
  | k + 1, x0, x7, x102000, x102001, x102002, x102003, x102004, x102005, x102006, x102007, x102008, x102009, x102010, x102011, x102012, x102013, x102014, x102015, x102016, x103000, x103001, x103002, x103003, x103004, x103005, x103006, x103007, x103008, x103009, x103010, x103011, x103012, x103013, x103014 => if x7 < (x103014.length : Int) then (if 0 ≤ x7 then (if (((rd_T54 x103014 x7).f0).size : Int) > 200 then (some true) else (orchestratorlaw56_heavy.l0 k x0 (wrap64 (x7 + 1)) x102000 x102001 x102002 x102003 x102004 x102005 x102006 x102007 x102008 x102009 x102010 x102011 x102012 x102013 x102014 x102015 x102016 x103000 x103001 x103002 x103003 x103004 x103005 x103006 x103007 x103008 x103009 x103010 x103011 x103012 x103013 x103014)) else (none)) else (if (x0.length : Int) > 60 then (some true) else (if (x102014.length : Int) > 30 then (some true) else (some (decide ((x103014.length : Int) > 30)))))
def orchestratorlaw56_heavy.f (k : Nat) (l0 : List (S33)) (a1_0 : ByteArray) (a1_1 : ByteArray) (a1_2 : ByteArray) (a1_3 : Int) (a1_4 : Int) (a1_5 : Int) (a1_6 : Int) (a1_7 : Bool) (a1_8 : Int) (l1_9 : List (S69)) (l1_10 : List (S72)) (l1_11 : List ByteArray) (l1_12 : List (S76)) (l1_13 : List (S79)) (l1_14 : List (S56)) (a1_15 : Bool) (a1_16 : Int) (a2_0 : ByteArray) (a2_1 : ByteArray) (a2_2 : ByteArray) (a2_3 : Int) (a2_4 : Int) (a2_5 : Int) (a2_6 : Int) (a2_7 : Bool) (a2_8 : Int) (l2_9 : List (S69)) (l2_10 : List (S72)) (l2_11 : List ByteArray) (l2_12 : List (S76)) (l2_13 : List (S56)) (l2_14 : List (S54)) : Option (Bool) := orchestratorlaw56_heavy.l0 k l0 0 a1_0 a1_1 a1_2 a1_3 a1_4 a1_5 a1_6 a1_7 a1_8 l1_9 l1_10 l1_11 l1_12 l1_13 l1_14 a1_15 a1_16 a2_0 a2_1 a2_2 a2_3 a2_4 a2_5 a2_6 a2_7 a2_8 l2_9 l2_10 l2_11 l2_12 l2_13 l2_14
theorem orchestratorlaw56_heavy.mono_l : ∀ k, (∀ y0 y1 y2 y3 y4 y5 y6 y7 y8 y9 y10 y11 y12 y13 y14 y15 y16 y17 y18 y19 y20 y21 y22 y23 y24 y25 y26 y27 y28 y29 y30 y31 y32 y33, LeO (orchestratorlaw56_heavy.l0 k y0 y1 y2 y3 y4 y5 y6 y7 y8 y9 y10 y11 y12 y13 y14 y15 y16 y17 y18 y19 y20 y21 y22 y23 y24 y25 y26 y27 y28 y29 y30 y31 y32 y33) (orchestratorlaw56_heavy.l0 (k + 1) y0 y1 y2 y3 y4 y5 y6 y7 y8 y9 y10 y11 y12 y13 y14 y15 y16 y17 y18 y19 y20 y21 y22 y23 y24 y25 y26 y27 y28 y29 y30 y31 y32 y33))
  | 0 => fun _ _ _ _ _ _ _ _ _ _ _ _ _ _ _ _ _ _ _ _ _ _ _ _ _ _ _ _ _ _ _ _ _ _ r h => by simp [orchestratorlaw56_heavy.l0] at h
  | k + 1 => by
    have ih0 := orchestratorlaw56_heavy.mono_l k
    · intro y0 y1 y2 y3 y4 y5 y6 y7 y8 y9 y10 y11 y12 y13 y14 y15 y16 y17 y18 y19 y20 y21 y22 y23 y24 y25 y26 y27 y28 y29 y30 y31 y32 y33
      unfold orchestratorlaw56_heavy.l0
      repeat' first
      | (with_reducible exact ih0 _ _ _ _ _ _ _ _ _ _ _ _ _ _ _ _ _ _ _ _ _ _ _ _ _ _ _ _ _ _ _ _ _ _)
      | (with_reducible exact LeO.refl _)
      | (with_reducible exact LeO.none _)
      | (with_reducible refine LeO.ite ?_ ?_)
      | (with_reducible refine LeO.bind ?_ (fun _ => ?_))
      | exact ih0 _ _ _ _ _ _ _ _ _ _ _ _ _ _ _ _ _ _ _ _ _ _ _ _ _ _ _ _ _ _ _ _ _ _
      | exact LeO.none _
      | refine LeO.ite ?_ ?_
      | refine LeO.bind ?_ (fun _ => ?_)
theorem orchestratorlaw56_heavy.mono : ∀ a0 a1 a2 a3 a4 a5 a6 a7 a8 a9 a10 a11 a12 a13 a14 a15 a16 a17 a18 a19 a20 a21 a22 a23 a24 a25 a26 a27 a28 a29 a30 a31 a32 k, LeO (orchestratorlaw56_heavy.f k a0 a1 a2 a3 a4 a5 a6 a7 a8 a9 a10 a11 a12 a13 a14 a15 a16 a17 a18 a19 a20 a21 a22 a23 a24 a25 a26 a27 a28 a29 a30 a31 a32) (orchestratorlaw56_heavy.f (k + 1) a0 a1 a2 a3 a4 a5 a6 a7 a8 a9 a10 a11 a12 a13 a14 a15 a16 a17 a18 a19 a20 a21 a22 a23 a24 a25 a26 a27 a28 a29 a30 a31 a32) := by
  intro a0 a1 a2 a3 a4 a5 a6 a7 a8 a9 a10 a11 a12 a13 a14 a15 a16 a17 a18 a19 a20 a21 a22 a23 a24 a25 a26 a27 a28 a29 a30 a31 a32 k
  have ih0 := orchestratorlaw56_heavy.mono_l k
  unfold orchestratorlaw56_heavy.f
  repeat' first
      | (with_reducible exact ih0 _ _ _ _ _ _ _ _ _ _ _ _ _ _ _ _ _ _ _ _ _ _ _ _ _ _ _ _ _ _ _ _ _ _)
      | (with_reducible exact LeO.refl _)
      | (with_reducible exact LeO.none _)
      | (with_reducible refine LeO.ite ?_ ?_)
      | (with_reducible refine LeO.bind ?_ (fun _ => ?_))
      | exact ih0 _ _ _ _ _ _ _ _ _ _ _ _ _ _ _ _ _ _ _ _ _ _ _ _ _ _ _ _ _ _ _ _ _ _
      | exact LeO.none _
      | refine LeO.ite ?_ ?_
      | refine LeO.bind ?_ (fun _ => ?_)
set_option maxHeartbeats 8000000 in
set_option maxRecDepth 100000 in
theorem orchestratorlaw56_heavy.calls (k : Nat) (A0 : Option Addr) (c0 : Nat) (l0 : List (S33)) (a1_0 : ByteArray) (a1_1 : ByteArray) (a1_2 : ByteArray) (a1_3 : Int) (a1_4 : Int) (a1_5 : Int) (a1_6 : Int) (a1_7 : Bool) (a1_8 : Int) (A1_9 : Option Addr) (c1_9 : Nat) (l1_9 : List (S69)) (A1_10 : Option Addr) (c1_10 : Nat) (l1_10 : List (S72)) (A1_11 : Option Addr) (c1_11 : Nat) (l1_11 : List ByteArray) (A1_12 : Option Addr) (c1_12 : Nat) (l1_12 : List (S76)) (A1_13 : Option Addr) (c1_13 : Nat) (l1_13 : List (S79)) (A1_14 : Option Addr) (c1_14 : Nat) (l1_14 : List (S56)) (a1_15 : Bool) (a1_16 : Int) (a2_0 : ByteArray) (a2_1 : ByteArray) (a2_2 : ByteArray) (a2_3 : Int) (a2_4 : Int) (a2_5 : Int) (a2_6 : Int) (a2_7 : Bool) (a2_8 : Int) (A2_9 : Option Addr) (c2_9 : Nat) (l2_9 : List (S69)) (A2_10 : Option Addr) (c2_10 : Nat) (l2_10 : List (S72)) (A2_11 : Option Addr) (c2_11 : Nat) (l2_11 : List ByteArray) (A2_12 : Option Addr) (c2_12 : Nat) (l2_12 : List (S76)) (A2_13 : Option Addr) (c2_13 : Nat) (l2_13 : List (S56)) (A2_14 : Option Addr) (c2_14 : Nat) (l2_14 : List (S54)) (r : Bool) (w : World) (hr0 : Kd.C k33 w A0 l0.length l0) (hc0 : l0.length ≤ c0) (hr1_9 : Kd.C k69 w A1_9 l1_9.length l1_9) (hc1_9 : l1_9.length ≤ c1_9) (hr1_10 : Kd.C k72 w A1_10 l1_10.length l1_10) (hc1_10 : l1_10.length ≤ c1_10) (hr1_11 : Kd.C Kd.string w A1_11 l1_11.length l1_11) (hc1_11 : l1_11.length ≤ c1_11) (hr1_12 : Kd.C k76 w A1_12 l1_12.length l1_12) (hc1_12 : l1_12.length ≤ c1_12) (hr1_13 : Kd.C k79 w A1_13 l1_13.length l1_13) (hc1_13 : l1_13.length ≤ c1_13) (hr1_14 : Kd.C k56 w A1_14 l1_14.length l1_14) (hc1_14 : l1_14.length ≤ c1_14) (hr2_9 : Kd.C k69 w A2_9 l2_9.length l2_9) (hc2_9 : l2_9.length ≤ c2_9) (hr2_10 : Kd.C k72 w A2_10 l2_10.length l2_10) (hc2_10 : l2_10.length ≤ c2_10) (hr2_11 : Kd.C Kd.string w A2_11 l2_11.length l2_11) (hc2_11 : l2_11.length ≤ c2_11) (hr2_12 : Kd.C k76 w A2_12 l2_12.length l2_12) (hc2_12 : l2_12.length ≤ c2_12) (hr2_13 : Kd.C k56 w A2_13 l2_13.length l2_13) (hc2_13 : l2_13.length ≤ c2_13) (hr2_14 : Kd.C k54 w A2_14 l2_14.length l2_14) (hc2_14 : l2_14.length ≤ c2_14) (h : orchestratorlaw56_heavy.f k l0 a1_0 a1_1 a1_2 a1_3 a1_4 a1_5 a1_6 a1_7 a1_8 l1_9 l1_10 l1_11 l1_12 l1_13 l1_14 a1_15 a1_16 a2_0 a2_1 a2_2 a2_3 a2_4 a2_5 a2_6 a2_7 a2_8 l2_9 l2_10 l2_11 l2_12 l2_13 l2_14 = some r) :
    Calls Tryd.prog 8 #[.slice A0 l0.length c0, .agg #[.string a1_0, .string a1_1, .string a1_2, .int .i64 a1_3, .int .i64 a1_4, .int .i64 a1_5, .int .i64 a1_6, .bool a1_7, .int .i64 a1_8, .slice A1_9 l1_9.length c1_9, .slice A1_10 l1_10.length c1_10, .slice A1_11 l1_11.length c1_11, .slice A1_12 l1_12.length c1_12, .slice A1_13 l1_13.length c1_13, .slice A1_14 l1_14.length c1_14, .bool a1_15, .int .i64 a1_16], .agg #[.string a2_0, .string a2_1, .string a2_2, .int .i64 a2_3, .int .i64 a2_4, .int .i64 a2_5, .int .i64 a2_6, .bool a2_7, .int .i64 a2_8, .slice A2_9 l2_9.length c2_9, .slice A2_10 l2_10.length c2_10, .slice A2_11 l2_11.length c2_11, .slice A2_12 l2_12.length c2_12, .slice A2_13 l2_13.length c2_13, .slice A2_14 l2_14.length c2_14]] w fun e w' => e = .returned (.bool r) ∧ Below w.heap.size w w' := by
  have hu33 := Tryd.underlying33
  have hu36 := Tryd.underlying36
  have HR0 := Aside0.mk hr0
  have HC0 := Aside0.mk hc0
  clear hr0 hc0
  have HR1_9 := Aside0.mk hr1_9
  have HC1_9 := Aside0.mk hc1_9
  clear hr1_9 hc1_9
  have HR1_10 := Aside0.mk hr1_10
  have HC1_10 := Aside0.mk hc1_10
  clear hr1_10 hc1_10
  have HR1_11 := Aside0.mk hr1_11
  have HC1_11 := Aside0.mk hc1_11
  clear hr1_11 hc1_11
  have HR1_12 := Aside0.mk hr1_12
  have HC1_12 := Aside0.mk hc1_12
  clear hr1_12 hc1_12
  have HR1_13 := Aside0.mk hr1_13
  have HC1_13 := Aside0.mk hc1_13
  clear hr1_13 hc1_13
  have HR1_14 := Aside0.mk hr1_14
  have HC1_14 := Aside0.mk hc1_14
  clear hr1_14 hc1_14
  have HR2_9 := Aside0.mk hr2_9
  have HC2_9 := Aside0.mk hc2_9
  clear hr2_9 hc2_9
  have HR2_10 := Aside0.mk hr2_10
  have HC2_10 := Aside0.mk hc2_10
  clear hr2_10 hc2_10
  have HR2_11 := Aside0.mk hr2_11
  have HC2_11 := Aside0.mk hc2_11
  clear hr2_11 hc2_11
  have HR2_12 := Aside0.mk hr2_12
  have HC2_12 := Aside0.mk hc2_12
  clear hr2_12 hc2_12
  have HR2_13 := Aside0.mk hr2_13
  have HC2_13 := Aside0.mk hc2_13
  clear hr2_13 hc2_13
  have HR2_14 := Aside0.mk hr2_14
  have HC2_14 := Aside0.mk hc2_14
  clear hr2_14 hc2_14
  have HB := Aside0.mk (Below.refl w.heap.size w)
  have H : (orchestratorlaw56_heavy.l0 k l0 0 a1_0 a1_1 a1_2 a1_3 a1_4 a1_5 a1_6 a1_7 a1_8 l1_9 l1_10 l1_11 l1_12 l1_13 l1_14 a1_15 a1_16 a2_0 a2_1 a2_2 a2_3 a2_4 a2_5 a2_6 a2_7 a2_8 l2_9 l2_10 l2_11 l2_12 l2_13 l2_14) = some r := h
  clear h
  have H' := Aside0.mk H
  clear H
  go_enter Tryd.func8, Tryd.ntmps8
  go_wp2_with (first | ((with_reducible refine gate_dst (N := 4) rfl ?_); (try (refine gate_guard (by rfl) ?_; dsimp only)); refine box_event ?hg (N := 4) ?hd (cs := #[.string a1_0, .string a1_1, .string a1_2, .int .i64 a1_3, .int .i64 a1_4, .int .i64 a1_5, .int .i64 a1_6, .bool a1_7, .int .i64 a1_8, .slice A1_9 l1_9.length c1_9, .slice A1_10 l1_10.length c1_10, .slice A1_11 l1_11.length c1_11, .slice A1_12 l1_12.length c1_12, .slice A1_13 l1_13.length c1_13, .slice A1_14 l1_14.length c1_14, .bool a1_15, .int .i64 a1_16]) (t := 33) ?hr ?_; (case hd => rfl); (case hg => rfl); (case hr => first | (go_simp; done) | (go_simp; rfl)); intro gb101 hg w4 hbox hb; have n0_ := Aside0.mk (below_step (by repeat (first | (with_reducible first | exact HB.out | apply below_alloc | apply pw_below_drewN | apply below_drew1) | exact HB.out)) hb); have n1_ := Aside0.mk (hbox); have n2_ := Aside0.mk ((by rw [hg]; exact (below_size (by repeat (first | (with_reducible first | exact HB.out | apply below_alloc | apply pw_below_drewN | apply below_drew1) | exact HB.out))) : w.heap.size ≤ gb101)); have n3_ := Aside0.mk ((by rw [hg]; exact (below_size (by repeat (first | (with_reducible first | exact HB.out | apply below_alloc | apply pw_below_drewN | apply below_drew1) | exact HB.out))) : w.heap.size ≤ gb101)); clear HB; have HB := n0_; have BK101 := n1_; have GW101 := n2_; have GE101 := n3_; clear n0_ n1_ n2_ n3_; clear hb hbox hg) | ((with_reducible refine gate_dst (N := 5) rfl ?_); (try (refine gate_guard (by rfl) ?_; dsimp only)); refine box_event ?hg (N := 5) ?hd (cs := #[.string a2_0, .string a2_1, .string a2_2, .int .i64 a2_3, .int .i64 a2_4, .int .i64 a2_5, .int .i64 a2_6, .bool a2_7, .int .i64 a2_8, .slice A2_9 l2_9.length c2_9, .slice A2_10 l2_10.length c2_10, .slice A2_11 l2_11.length c2_11, .slice A2_12 l2_12.length c2_12, .slice A2_13 l2_13.length c2_13, .slice A2_14 l2_14.length c2_14]) (t := 36) ?hr ?_; (case hd => rfl); (case hg => rfl); (case hr => first | (go_simp; done) | (go_simp; rfl)); intro gb102 hg w5 hbox hb; have n0_ := Aside0.mk (blk_below (g := gb101) (o := .cells #[.string a1_0, .string a1_1, .string a1_2, .int .i64 a1_3, .int .i64 a1_4, .int .i64 a1_5, .int .i64 a1_6, .bool a1_7, .int .i64 a1_8, .slice A1_9 l1_9.length c1_9, .slice A1_10 l1_10.length c1_10, .slice A1_11 l1_11.length c1_11, .slice A1_12 l1_12.length c1_12, .slice A1_13 l1_13.length c1_13, .slice A1_14 l1_14.length c1_14, .bool a1_15, .int .i64 a1_16] 33 (0, 0)) (by (with_reducible repeat (first | refine blk_drewN ?_ _ | refine blk_drew ?_ | refine blk_alloc ?_ _)); exact BK101.out) hb); have n1_ := Aside0.mk (below_step (by repeat (first | (with_reducible first | exact HB.out | apply below_alloc | apply pw_below_drewN | apply below_drew1 | refine below_set ?_ GE101.out) | exact HB.out)) hb); have n2_ := Aside0.mk (hbox); have n3_ := Aside0.mk ((by rw [hg]; exact (below_size (by repeat (first | (with_reducible first | exact HB.out | apply below_alloc | apply pw_below_drewN | apply below_drew1 | refine below_set ?_ GE101.out) | exact HB.out))) : w.heap.size ≤ gb102)); have n4_ := Aside0.mk ((by rw [hg]; exact (below_size (by repeat (first | (with_reducible first | exact HB.out | apply below_alloc | apply pw_below_drewN | apply below_drew1 | refine below_set ?_ GE101.out) | exact HB.out))) : w.heap.size ≤ gb102)); have n5_ := Aside0.mk ((by rw [hg]; exact Nat.ne_of_lt (blk_lt (g := gb101) (o := .cells #[.string a1_0, .string a1_1, .string a1_2, .int .i64 a1_3, .int .i64 a1_4, .int .i64 a1_5, .int .i64 a1_6, .bool a1_7, .int .i64 a1_8, .slice A1_9 l1_9.length c1_9, .slice A1_10 l1_10.length c1_10, .slice A1_11 l1_11.length c1_11, .slice A1_12 l1_12.length c1_12, .slice A1_13 l1_13.length c1_13, .slice A1_14 l1_14.length c1_14, .bool a1_15, .int .i64 a1_16] 33 (0, 0)) (by (with_reducible repeat (first | refine blk_drewN ?_ _ | refine blk_drew ?_ | refine blk_alloc ?_ _)); exact BK101.out)) : gb101 ≠ gb102)); have n6_ := Aside0.mk ((by rw [hg]; exact Nat.ne_of_gt (blk_lt (g := gb101) (o := .cells #[.string a1_0, .string a1_1, .string a1_2, .int .i64 a1_3, .int .i64 a1_4, .int .i64 a1_5, .int .i64 a1_6, .bool a1_7, .int .i64 a1_8, .slice A1_9 l1_9.length c1_9, .slice A1_10 l1_10.length c1_10, .slice A1_11 l1_11.length c1_11, .slice A1_12 l1_12.length c1_12, .slice A1_13 l1_13.length c1_13, .slice A1_14 l1_14.length c1_14, .bool a1_15, .int .i64 a1_16] 33 (0, 0)) (by (with_reducible repeat (first | refine blk_drewN ?_ _ | refine blk_drew ?_ | refine blk_alloc ?_ _)); exact BK101.out)) : gb102 ≠ gb101)); clear BK101; clear HB; have BK101 := n0_; have HB := n1_; have BK102 := n2_; have GW102 := n3_; have GE102 := n4_; have NB101_102 := n5_; have NB102_101 := n6_; clear n0_ n1_ n2_ n3_ n4_ n5_ n6_; clear hb hbox hg))
  go_loopg [7] k (fun kq v7 w' => ∃ (x7_1 : Int), v7 = .int .i64 x7_1 ∧ Aside0 (orchestratorlaw56_heavy.l0 kq l0 x7_1 a1_0 a1_1 a1_2 a1_3 a1_4 a1_5 a1_6 a1_7 a1_8 l1_9 l1_10 l1_11 l1_12 l1_13 l1_14 a1_15 a1_16 a2_0 a2_1 a2_2 a2_3 a2_4 a2_5 a2_6 a2_7 a2_8 l2_9 l2_10 l2_11 l2_12 l2_13 l2_14 = some r) ∧ Aside0 (kq ≤ k) ∧ Aside0 (w'.heap[gb101]? = some (.cells #[.string a1_0, .string a1_1, .string a1_2, .int .i64 a1_3, .int .i64 a1_4, .int .i64 a1_5, .int .i64 a1_6, .bool a1_7, .int .i64 a1_8, (.slice A1_9 l1_9.length c1_9), (.slice A1_10 l1_10.length c1_10), (.slice A1_11 l1_11.length c1_11), (.slice A1_12 l1_12.length c1_12), (.slice A1_13 l1_13.length c1_13), (.slice A1_14 l1_14.length c1_14), .bool a1_15, .int .i64 a1_16] 33 (0, 0))) ∧ Aside0 (w'.heap[gb102]? = some (.cells #[.string a2_0, .string a2_1, .string a2_2, .int .i64 a2_3, .int .i64 a2_4, .int .i64 a2_5, .int .i64 a2_6, .bool a2_7, .int .i64 a2_8, (.slice A2_9 l2_9.length c2_9), (.slice A2_10 l2_10.length c2_10), (.slice A2_11 l2_11.length c2_11), (.slice A2_12 l2_12.length c2_12), (.slice A2_13 l2_13.length c2_13), (.slice A2_14 l2_14.length c2_14)] 36 (0, 0))) ∧ Aside0 (Below w.heap.size w w'))
  case atStart => exact ⟨(0), (by first | rfl | (simp; done) | (simp [*]; done)), H', ⟨Nat.le_refl _⟩, ⟨by (with_reducible repeat (first | refine blk_drewN ?_ _ | refine blk_drew ?_ | refine blk_alloc ?_ _)); exact BK101.out⟩, ⟨by (with_reducible repeat (first | refine blk_drewN ?_ _ | refine blk_drew ?_ | refine blk_alloc ?_ _)); exact BK102.out⟩, ⟨by repeat (first | (with_reducible first | exact HB.out | apply below_alloc | apply pw_below_drewN | apply below_drew1 | refine below_set ?_ GE101.out | refine below_set ?_ GE102.out) | exact HB.out)⟩⟩
  case round =>
    clear H'
    try clear c1
    try clear c2
    try clear p2
    obtain ⟨x7_1, rfl, HA, HK1, BK101, BK102, HB⟩ := hrel
    cases gk with
    | zero => exact absurd HA.out (by simp [orchestratorlaw56_heavy.l0])
    | succ k1 =>
      have H := HA.out
      clear HA
      simp only [orchestratorlaw56_heavy.l0] at H
      by_cases c6 : x7_1 < (l2_14.length : Int)
      · rw [if_pos c6] at H
        have c6b0 : decide (x7_1 < (l2_14.length : Int)) = true := decide_eq_true c6
        clear c6
        by_cases c7 : 0 ≤ x7_1
        · rw [if_pos c7] at H
          have c7b0 : decide (0 ≤ x7_1) = true := decide_eq_true c7
          clear c7
          by_cases c8 : (((rd_T54 l2_14 x7_1).f0).size : Int) > 200
          · rw [if_pos c8] at H
            have c8b0 : decide (200 < (((rd_T54 l2_14 x7_1).f0).size : Int)) = true := decide_eq_true c8
            have c8b1 : decide (200 < ((rd_T54 l2_14 x7_1).f0).size) = true := decide_eq_true (by omega)
            clear c8
            obtain rfl := Option.some.inj H
            have hnb9 := NB102_101.out
            have hnc9 := NB101_102.out
            have hcz10_0 : wr.cell? ⟨gb102, 0, none⟩ = some (.string a2_0) := (blk_cell BK102.out 0).trans rfl
            have hcz10_1 : wr.cell? ⟨gb102, 1, none⟩ = some (.string a2_1) := (blk_cell BK102.out 1).trans rfl
            have hcz10_2 : wr.cell? ⟨gb102, 2, none⟩ = some (.string a2_2) := (blk_cell BK102.out 2).trans rfl
            have hcz10_3 : wr.cell? ⟨gb102, 3, none⟩ = some (.int .i64 a2_3) := (blk_cell BK102.out 3).trans rfl
            have hcz10_4 : wr.cell? ⟨gb102, 4, none⟩ = some (.int .i64 a2_4) := (blk_cell BK102.out 4).trans rfl
            have hcz10_5 : wr.cell? ⟨gb102, 5, none⟩ = some (.int .i64 a2_5) := (blk_cell BK102.out 5).trans rfl
            have hcz10_6 : wr.cell? ⟨gb102, 6, none⟩ = some (.int .i64 a2_6) := (blk_cell BK102.out 6).trans rfl
            have hcz10_7 : wr.cell? ⟨gb102, 7, none⟩ = some (.bool a2_7) := (blk_cell BK102.out 7).trans rfl
            have hcz10_8 : wr.cell? ⟨gb102, 8, none⟩ = some (.int .i64 a2_8) := (blk_cell BK102.out 8).trans rfl
            have hcz10_9 : wr.cell? ⟨gb102, 9, none⟩ = some (.slice A2_9 l2_9.length c2_9) := (blk_cell BK102.out 9).trans rfl
            have hcz10_10 : wr.cell? ⟨gb102, 10, none⟩ = some (.slice A2_10 l2_10.length c2_10) := (blk_cell BK102.out 10).trans rfl
            have hcz10_11 : wr.cell? ⟨gb102, 11, none⟩ = some (.slice A2_11 l2_11.length c2_11) := (blk_cell BK102.out 11).trans rfl
            have hcz10_12 : wr.cell? ⟨gb102, 12, none⟩ = some (.slice A2_12 l2_12.length c2_12) := (blk_cell BK102.out 12).trans rfl
            have hcz10_13 : wr.cell? ⟨gb102, 13, none⟩ = some (.slice A2_13 l2_13.length c2_13) := (blk_cell BK102.out 13).trans rfl
            have hcz10_14 : wr.cell? ⟨gb102, 14, none⟩ = some (.slice A2_14 l2_14.length c2_14) := (blk_cell BK102.out 14).trans rfl
            have hfz10_0 := blk_frozen BK102.out 0
            have hfz10_1 := blk_frozen BK102.out 1
            have hfz10_2 := blk_frozen BK102.out 2
            have hfz10_3 := blk_frozen BK102.out 3
            have hfz10_4 := blk_frozen BK102.out 4
            have hfz10_5 := blk_frozen BK102.out 5
            have hfz10_6 := blk_frozen BK102.out 6
            have hfz10_7 := blk_frozen BK102.out 7
            have hfz10_8 := blk_frozen BK102.out 8
            have hfz10_9 := blk_frozen BK102.out 9
            have hfz10_10 := blk_frozen BK102.out 10
            have hfz10_11 := blk_frozen BK102.out 11
            have hfz10_12 := blk_frozen BK102.out 12
            have hfz10_13 := blk_frozen BK102.out 13
            have hfz10_14 := blk_frozen BK102.out 14
            have p103 : 0 ≤ (x7_1 : Int) := of_decide_eq_true (by first | (with_reducible assumption) | assumption)
            have q103 : x7_1 < (l2_14.length : Int) := of_decide_eq_true (by first | (with_reducible assumption) | assumption)
            obtain ⟨ad103, e103, hx103_0, hx103_1, hx103_2, hx103_3, hx103_4⟩ := at_T54 HR2_14.out x7_1 p103 q103
            cases e103
            replace hx103_0 := (HB.out.cell (World.block_lt_of_cell? w _ hx103_0)).trans hx103_0
            replace hx103_1 := (HB.out.cell (World.block_lt_of_cell? w _ hx103_1)).trans hx103_1
            replace hx103_2 := (HB.out.cell (World.block_lt_of_cell? w _ hx103_2)).trans hx103_2
            replace hx103_3 := (HB.out.cell (World.block_lt_of_cell? w _ hx103_3)).trans hx103_3
            replace hx103_4 := (HB.out.cell (World.block_lt_of_cell? w _ hx103_4)).trans hx103_4
            replace p103 := eq_true p103
            replace q103 := eq_true q103
            go_wp2
            go_ret
            exact ⟨by first | rfl | (simp [errW_none, errW_some] <;> rfl) | (simp [*, errW_none, errW_some] <;> rfl), by repeat (first | (with_reducible first | exact HB.out | apply below_alloc | apply pw_below_drewN | apply below_drew1 | refine below_set ?_ GE101.out | refine below_set ?_ GE102.out) | exact HB.out)⟩
          · rw [if_neg c8] at H
            have c8b0 : decide (200 < (((rd_T54 l2_14 x7_1).f0).size : Int)) = false := decide_eq_false c8
            have c8b1 : decide (200 < ((rd_T54 l2_14 x7_1).f0).size) = false := decide_eq_false (by omega)
            clear c8
            have H' := Aside0.mk H
            clear H
            have hnb11 := NB102_101.out
            have hnc11 := NB101_102.out
            have hcz12_0 : wr.cell? ⟨gb102, 0, none⟩ = some (.string a2_0) := (blk_cell BK102.out 0).trans rfl
            have hcz12_1 : wr.cell? ⟨gb102, 1, none⟩ = some (.string a2_1) := (blk_cell BK102.out 1).trans rfl
            have hcz12_2 : wr.cell? ⟨gb102, 2, none⟩ = some (.string a2_2) := (blk_cell BK102.out 2).trans rfl
            have hcz12_3 : wr.cell? ⟨gb102, 3, none⟩ = some (.int .i64 a2_3) := (blk_cell BK102.out 3).trans rfl
            have hcz12_4 : wr.cell? ⟨gb102, 4, none⟩ = some (.int .i64 a2_4) := (blk_cell BK102.out 4).trans rfl
            have hcz12_5 : wr.cell? ⟨gb102, 5, none⟩ = some (.int .i64 a2_5) := (blk_cell BK102.out 5).trans rfl
            have hcz12_6 : wr.cell? ⟨gb102, 6, none⟩ = some (.int .i64 a2_6) := (blk_cell BK102.out 6).trans rfl
            have hcz12_7 : wr.cell? ⟨gb102, 7, none⟩ = some (.bool a2_7) := (blk_cell BK102.out 7).trans rfl
            have hcz12_8 : wr.cell? ⟨gb102, 8, none⟩ = some (.int .i64 a2_8) := (blk_cell BK102.out 8).trans rfl
            have hcz12_9 : wr.cell? ⟨gb102, 9, none⟩ = some (.slice A2_9 l2_9.length c2_9) := (blk_cell BK102.out 9).trans rfl
            have hcz12_10 : wr.cell? ⟨gb102, 10, none⟩ = some (.slice A2_10 l2_10.length c2_10) := (blk_cell BK102.out 10).trans rfl
            have hcz12_11 : wr.cell? ⟨gb102, 11, none⟩ = some (.slice A2_11 l2_11.length c2_11) := (blk_cell BK102.out 11).trans rfl
            have hcz12_12 : wr.cell? ⟨gb102, 12, none⟩ = some (.slice A2_12 l2_12.length c2_12) := (blk_cell BK102.out 12).trans rfl
            have hcz12_13 : wr.cell? ⟨gb102, 13, none⟩ = some (.slice A2_13 l2_13.length c2_13) := (blk_cell BK102.out 13).trans rfl
            have hcz12_14 : wr.cell? ⟨gb102, 14, none⟩ = some (.slice A2_14 l2_14.length c2_14) := (blk_cell BK102.out 14).trans rfl
            have hfz12_0 := blk_frozen BK102.out 0
            have hfz12_1 := blk_frozen BK102.out 1
            have hfz12_2 := blk_frozen BK102.out 2
            have hfz12_3 := blk_frozen BK102.out 3
            have hfz12_4 := blk_frozen BK102.out 4
            have hfz12_5 := blk_frozen BK102.out 5
            have hfz12_6 := blk_frozen BK102.out 6
            have hfz12_7 := blk_frozen BK102.out 7
            have hfz12_8 := blk_frozen BK102.out 8
            have hfz12_9 := blk_frozen BK102.out 9
            have hfz12_10 := blk_frozen BK102.out 10
            have hfz12_11 := blk_frozen BK102.out 11
            have hfz12_12 := blk_frozen BK102.out 12
            have hfz12_13 := blk_frozen BK102.out 13
            have hfz12_14 := blk_frozen BK102.out 14
            have p103 : 0 ≤ (x7_1 : Int) := of_decide_eq_true (by first | (with_reducible assumption) | assumption)
            have q103 : x7_1 < (l2_14.length : Int) := of_decide_eq_true (by first | (with_reducible assumption) | assumption)
            obtain ⟨ad103, e103, hx103_0, hx103_1, hx103_2, hx103_3, hx103_4⟩ := at_T54 HR2_14.out x7_1 p103 q103
            cases e103
            replace hx103_0 := (HB.out.cell (World.block_lt_of_cell? w _ hx103_0)).trans hx103_0
            replace hx103_1 := (HB.out.cell (World.block_lt_of_cell? w _ hx103_1)).trans hx103_1
            replace hx103_2 := (HB.out.cell (World.block_lt_of_cell? w _ hx103_2)).trans hx103_2
            replace hx103_3 := (HB.out.cell (World.block_lt_of_cell? w _ hx103_3)).trans hx103_3
            replace hx103_4 := (HB.out.cell (World.block_lt_of_cell? w _ hx103_4)).trans hx103_4
            replace p103 := eq_true p103
            replace q103 := eq_true q103
            go_wp2
            go_roundg k1
            case measure => have := HK1.out; omega
            case rel => exact ⟨(wrap64 (x7_1 + 1)), (by first | rfl | (simp; done) | (simp [*]; done)), H', ⟨by have := HK1.out; omega⟩, ⟨by (with_reducible repeat (first | refine blk_drewN ?_ _ | refine blk_drew ?_ | refine blk_alloc ?_ _)); exact BK101.out⟩, ⟨by (with_reducible repeat (first | refine blk_drewN ?_ _ | refine blk_drew ?_ | refine blk_alloc ?_ _)); exact BK102.out⟩, ⟨by repeat (first | (with_reducible first | exact HB.out | apply below_alloc | apply pw_below_drewN | apply below_drew1 | refine below_set ?_ GE101.out | refine below_set ?_ GE102.out) | exact HB.out)⟩⟩
        · rw [if_neg c7] at H
          exact absurd H (by simp)
      · rw [if_neg c6] at H
        have c6b0 : decide (x7_1 < (l2_14.length : Int)) = false := decide_eq_false c6
        clear c6
        by_cases c13 : (l0.length : Int) > 60
        · rw [if_pos c13] at H
          have c13b0 : decide (60 < (l0.length : Int)) = true := decide_eq_true c13
          have c13b1 : decide (60 < l0.length) = true := decide_eq_true (by omega)
          clear c13
          obtain rfl := Option.some.inj H
          have hnb14 := NB102_101.out
          have hnc14 := NB101_102.out
          have hcz15_0 : wr.cell? ⟨gb102, 0, none⟩ = some (.string a2_0) := (blk_cell BK102.out 0).trans rfl
          have hcz15_1 : wr.cell? ⟨gb102, 1, none⟩ = some (.string a2_1) := (blk_cell BK102.out 1).trans rfl
          have hcz15_2 : wr.cell? ⟨gb102, 2, none⟩ = some (.string a2_2) := (blk_cell BK102.out 2).trans rfl
          have hcz15_3 : wr.cell? ⟨gb102, 3, none⟩ = some (.int .i64 a2_3) := (blk_cell BK102.out 3).trans rfl
          have hcz15_4 : wr.cell? ⟨gb102, 4, none⟩ = some (.int .i64 a2_4) := (blk_cell BK102.out 4).trans rfl
          have hcz15_5 : wr.cell? ⟨gb102, 5, none⟩ = some (.int .i64 a2_5) := (blk_cell BK102.out 5).trans rfl
          have hcz15_6 : wr.cell? ⟨gb102, 6, none⟩ = some (.int .i64 a2_6) := (blk_cell BK102.out 6).trans rfl
          have hcz15_7 : wr.cell? ⟨gb102, 7, none⟩ = some (.bool a2_7) := (blk_cell BK102.out 7).trans rfl
          have hcz15_8 : wr.cell? ⟨gb102, 8, none⟩ = some (.int .i64 a2_8) := (blk_cell BK102.out 8).trans rfl
          have hcz15_9 : wr.cell? ⟨gb102, 9, none⟩ = some (.slice A2_9 l2_9.length c2_9) := (blk_cell BK102.out 9).trans rfl
          have hcz15_10 : wr.cell? ⟨gb102, 10, none⟩ = some (.slice A2_10 l2_10.length c2_10) := (blk_cell BK102.out 10).trans rfl
          have hcz15_11 : wr.cell? ⟨gb102, 11, none⟩ = some (.slice A2_11 l2_11.length c2_11) := (blk_cell BK102.out 11).trans rfl
          have hcz15_12 : wr.cell? ⟨gb102, 12, none⟩ = some (.slice A2_12 l2_12.length c2_12) := (blk_cell BK102.out 12).trans rfl
          have hcz15_13 : wr.cell? ⟨gb102, 13, none⟩ = some (.slice A2_13 l2_13.length c2_13) := (blk_cell BK102.out 13).trans rfl
          have hcz15_14 : wr.cell? ⟨gb102, 14, none⟩ = some (.slice A2_14 l2_14.length c2_14) := (blk_cell BK102.out 14).trans rfl
          have hfz15_0 := blk_frozen BK102.out 0
          have hfz15_1 := blk_frozen BK102.out 1
          have hfz15_2 := blk_frozen BK102.out 2
          have hfz15_3 := blk_frozen BK102.out 3
          have hfz15_4 := blk_frozen BK102.out 4
          have hfz15_5 := blk_frozen BK102.out 5
          have hfz15_6 := blk_frozen BK102.out 6
          have hfz15_7 := blk_frozen BK102.out 7
          have hfz15_8 := blk_frozen BK102.out 8
          have hfz15_9 := blk_frozen BK102.out 9
          have hfz15_10 := blk_frozen BK102.out 10
          have hfz15_11 := blk_frozen BK102.out 11
          have hfz15_12 := blk_frozen BK102.out 12
          have hfz15_13 := blk_frozen BK102.out 13
          have hfz15_14 := blk_frozen BK102.out 14
          go_wp2
          go_ret
          exact ⟨by first | rfl | (simp [errW_none, errW_some] <;> rfl) | (simp [*, errW_none, errW_some] <;> rfl), by repeat (first | (with_reducible first | exact HB.out | apply below_alloc | apply pw_below_drewN | apply below_drew1 | refine below_set ?_ GE101.out | refine below_set ?_ GE102.out) | exact HB.out)⟩
        · rw [if_neg c13] at H
          have c13b0 : decide (60 < (l0.length : Int)) = false := decide_eq_false c13
          have c13b1 : decide (60 < l0.length) = false := decide_eq_false (by omega)
          clear c13
          by_cases c16 : (l1_14.length : Int) > 30
          · rw [if_pos c16] at H
            have c16b0 : decide (30 < (l1_14.length : Int)) = true := decide_eq_true c16
            have c16b1 : decide (30 < l1_14.length) = true := decide_eq_true (by omega)
            clear c16
            obtain rfl := Option.some.inj H
            have hnb17 := NB102_101.out
            have hnc17 := NB101_102.out
            have hcz18_0 : wr.cell? ⟨gb102, 0, none⟩ = some (.string a2_0) := (blk_cell BK102.out 0).trans rfl
            have hcz18_1 : wr.cell? ⟨gb102, 1, none⟩ = some (.string a2_1) := (blk_cell BK102.out 1).trans rfl
            have hcz18_2 : wr.cell? ⟨gb102, 2, none⟩ = some (.string a2_2) := (blk_cell BK102.out 2).trans rfl
            have hcz18_3 : wr.cell? ⟨gb102, 3, none⟩ = some (.int .i64 a2_3) := (blk_cell BK102.out 3).trans rfl
            have hcz18_4 : wr.cell? ⟨gb102, 4, none⟩ = some (.int .i64 a2_4) := (blk_cell BK102.out 4).trans rfl
            have hcz18_5 : wr.cell? ⟨gb102, 5, none⟩ = some (.int .i64 a2_5) := (blk_cell BK102.out 5).trans rfl
            have hcz18_6 : wr.cell? ⟨gb102, 6, none⟩ = some (.int .i64 a2_6) := (blk_cell BK102.out 6).trans rfl
            have hcz18_7 : wr.cell? ⟨gb102, 7, none⟩ = some (.bool a2_7) := (blk_cell BK102.out 7).trans rfl
            have hcz18_8 : wr.cell? ⟨gb102, 8, none⟩ = some (.int .i64 a2_8) := (blk_cell BK102.out 8).trans rfl
            have hcz18_9 : wr.cell? ⟨gb102, 9, none⟩ = some (.slice A2_9 l2_9.length c2_9) := (blk_cell BK102.out 9).trans rfl
            have hcz18_10 : wr.cell? ⟨gb102, 10, none⟩ = some (.slice A2_10 l2_10.length c2_10) := (blk_cell BK102.out 10).trans rfl
            have hcz18_11 : wr.cell? ⟨gb102, 11, none⟩ = some (.slice A2_11 l2_11.length c2_11) := (blk_cell BK102.out 11).trans rfl
            have hcz18_12 : wr.cell? ⟨gb102, 12, none⟩ = some (.slice A2_12 l2_12.length c2_12) := (blk_cell BK102.out 12).trans rfl
            have hcz18_13 : wr.cell? ⟨gb102, 13, none⟩ = some (.slice A2_13 l2_13.length c2_13) := (blk_cell BK102.out 13).trans rfl
            have hcz18_14 : wr.cell? ⟨gb102, 14, none⟩ = some (.slice A2_14 l2_14.length c2_14) := (blk_cell BK102.out 14).trans rfl
            have hfz18_0 := blk_frozen BK102.out 0
            have hfz18_1 := blk_frozen BK102.out 1
            have hfz18_2 := blk_frozen BK102.out 2
            have hfz18_3 := blk_frozen BK102.out 3
            have hfz18_4 := blk_frozen BK102.out 4
            have hfz18_5 := blk_frozen BK102.out 5
            have hfz18_6 := blk_frozen BK102.out 6
            have hfz18_7 := blk_frozen BK102.out 7
            have hfz18_8 := blk_frozen BK102.out 8
            have hfz18_9 := blk_frozen BK102.out 9
            have hfz18_10 := blk_frozen BK102.out 10
            have hfz18_11 := blk_frozen BK102.out 11
            have hfz18_12 := blk_frozen BK102.out 12
            have hfz18_13 := blk_frozen BK102.out 13
            have hfz18_14 := blk_frozen BK102.out 14
            have hcz19_0 : wr.cell? ⟨gb101, 0, none⟩ = some (.string a1_0) := (blk_cell BK101.out 0).trans rfl
            have hcz19_1 : wr.cell? ⟨gb101, 1, none⟩ = some (.string a1_1) := (blk_cell BK101.out 1).trans rfl
            have hcz19_2 : wr.cell? ⟨gb101, 2, none⟩ = some (.string a1_2) := (blk_cell BK101.out 2).trans rfl
            have hcz19_3 : wr.cell? ⟨gb101, 3, none⟩ = some (.int .i64 a1_3) := (blk_cell BK101.out 3).trans rfl
            have hcz19_4 : wr.cell? ⟨gb101, 4, none⟩ = some (.int .i64 a1_4) := (blk_cell BK101.out 4).trans rfl
            have hcz19_5 : wr.cell? ⟨gb101, 5, none⟩ = some (.int .i64 a1_5) := (blk_cell BK101.out 5).trans rfl
            have hcz19_6 : wr.cell? ⟨gb101, 6, none⟩ = some (.int .i64 a1_6) := (blk_cell BK101.out 6).trans rfl
            have hcz19_7 : wr.cell? ⟨gb101, 7, none⟩ = some (.bool a1_7) := (blk_cell BK101.out 7).trans rfl
            have hcz19_8 : wr.cell? ⟨gb101, 8, none⟩ = some (.int .i64 a1_8) := (blk_cell BK101.out 8).trans rfl
            have hcz19_9 : wr.cell? ⟨gb101, 9, none⟩ = some (.slice A1_9 l1_9.length c1_9) := (blk_cell BK101.out 9).trans rfl
            have hcz19_10 : wr.cell? ⟨gb101, 10, none⟩ = some (.slice A1_10 l1_10.length c1_10) := (blk_cell BK101.out 10).trans rfl
            have hcz19_11 : wr.cell? ⟨gb101, 11, none⟩ = some (.slice A1_11 l1_11.length c1_11) := (blk_cell BK101.out 11).trans rfl
            have hcz19_12 : wr.cell? ⟨gb101, 12, none⟩ = some (.slice A1_12 l1_12.length c1_12) := (blk_cell BK101.out 12).trans rfl
            have hcz19_13 : wr.cell? ⟨gb101, 13, none⟩ = some (.slice A1_13 l1_13.length c1_13) := (blk_cell BK101.out 13).trans rfl
            have hcz19_14 : wr.cell? ⟨gb101, 14, none⟩ = some (.slice A1_14 l1_14.length c1_14) := (blk_cell BK101.out 14).trans rfl
            have hcz19_15 : wr.cell? ⟨gb101, 15, none⟩ = some (.bool a1_15) := (blk_cell BK101.out 15).trans rfl
            have hcz19_16 : wr.cell? ⟨gb101, 16, none⟩ = some (.int .i64 a1_16) := (blk_cell BK101.out 16).trans rfl
            have hfz19_0 := blk_frozen BK101.out 0
            have hfz19_1 := blk_frozen BK101.out 1
            have hfz19_2 := blk_frozen BK101.out 2
            have hfz19_3 := blk_frozen BK101.out 3
            have hfz19_4 := blk_frozen BK101.out 4
            have hfz19_5 := blk_frozen BK101.out 5
            have hfz19_6 := blk_frozen BK101.out 6
            have hfz19_7 := blk_frozen BK101.out 7
            have hfz19_8 := blk_frozen BK101.out 8
            have hfz19_9 := blk_frozen BK101.out 9
            have hfz19_10 := blk_frozen BK101.out 10
            have hfz19_11 := blk_frozen BK101.out 11
            have hfz19_12 := blk_frozen BK101.out 12
            have hfz19_13 := blk_frozen BK101.out 13
            have hfz19_14 := blk_frozen BK101.out 14
            have hfz19_15 := blk_frozen BK101.out 15
            have hfz19_16 := blk_frozen BK101.out 16
            go_wp2
            go_ret
            exact ⟨by first | rfl | (simp [errW_none, errW_some] <;> rfl) | (simp [*, errW_none, errW_some] <;> rfl), by repeat (first | (with_reducible first | exact HB.out | apply below_alloc | apply pw_below_drewN | apply below_drew1 | refine below_set ?_ GE101.out | refine below_set ?_ GE102.out) | exact HB.out)⟩
          · rw [if_neg c16] at H
            have c16b0 : decide (30 < (l1_14.length : Int)) = false := decide_eq_false c16
            have c16b1 : decide (30 < l1_14.length) = false := decide_eq_false (by omega)
            clear c16
            obtain rfl := Option.some.inj H
            have hnb20 := NB102_101.out
            have hnc20 := NB101_102.out
            have hcz21_0 : wr.cell? ⟨gb102, 0, none⟩ = some (.string a2_0) := (blk_cell BK102.out 0).trans rfl
            have hcz21_1 : wr.cell? ⟨gb102, 1, none⟩ = some (.string a2_1) := (blk_cell BK102.out 1).trans rfl
            have hcz21_2 : wr.cell? ⟨gb102, 2, none⟩ = some (.string a2_2) := (blk_cell BK102.out 2).trans rfl
            have hcz21_3 : wr.cell? ⟨gb102, 3, none⟩ = some (.int .i64 a2_3) := (blk_cell BK102.out 3).trans rfl
            have hcz21_4 : wr.cell? ⟨gb102, 4, none⟩ = some (.int .i64 a2_4) := (blk_cell BK102.out 4).trans rfl
            have hcz21_5 : wr.cell? ⟨gb102, 5, none⟩ = some (.int .i64 a2_5) := (blk_cell BK102.out 5).trans rfl
            have hcz21_6 : wr.cell? ⟨gb102, 6, none⟩ = some (.int .i64 a2_6) := (blk_cell BK102.out 6).trans rfl
            have hcz21_7 : wr.cell? ⟨gb102, 7, none⟩ = some (.bool a2_7) := (blk_cell BK102.out 7).trans rfl
            have hcz21_8 : wr.cell? ⟨gb102, 8, none⟩ = some (.int .i64 a2_8) := (blk_cell BK102.out 8).trans rfl
            have hcz21_9 : wr.cell? ⟨gb102, 9, none⟩ = some (.slice A2_9 l2_9.length c2_9) := (blk_cell BK102.out 9).trans rfl
            have hcz21_10 : wr.cell? ⟨gb102, 10, none⟩ = some (.slice A2_10 l2_10.length c2_10) := (blk_cell BK102.out 10).trans rfl
            have hcz21_11 : wr.cell? ⟨gb102, 11, none⟩ = some (.slice A2_11 l2_11.length c2_11) := (blk_cell BK102.out 11).trans rfl
            have hcz21_12 : wr.cell? ⟨gb102, 12, none⟩ = some (.slice A2_12 l2_12.length c2_12) := (blk_cell BK102.out 12).trans rfl
            have hcz21_13 : wr.cell? ⟨gb102, 13, none⟩ = some (.slice A2_13 l2_13.length c2_13) := (blk_cell BK102.out 13).trans rfl
            have hcz21_14 : wr.cell? ⟨gb102, 14, none⟩ = some (.slice A2_14 l2_14.length c2_14) := (blk_cell BK102.out 14).trans rfl
            have hfz21_0 := blk_frozen BK102.out 0
            have hfz21_1 := blk_frozen BK102.out 1
            have hfz21_2 := blk_frozen BK102.out 2
            have hfz21_3 := blk_frozen BK102.out 3
            have hfz21_4 := blk_frozen BK102.out 4
            have hfz21_5 := blk_frozen BK102.out 5
            have hfz21_6 := blk_frozen BK102.out 6
            have hfz21_7 := blk_frozen BK102.out 7
            have hfz21_8 := blk_frozen BK102.out 8
            have hfz21_9 := blk_frozen BK102.out 9
            have hfz21_10 := blk_frozen BK102.out 10
            have hfz21_11 := blk_frozen BK102.out 11
            have hfz21_12 := blk_frozen BK102.out 12
            have hfz21_13 := blk_frozen BK102.out 13
            have hfz21_14 := blk_frozen BK102.out 14
            have hcz22_0 : wr.cell? ⟨gb101, 0, none⟩ = some (.string a1_0) := (blk_cell BK101.out 0).trans rfl
            have hcz22_1 : wr.cell? ⟨gb101, 1, none⟩ = some (.string a1_1) := (blk_cell BK101.out 1).trans rfl
            have hcz22_2 : wr.cell? ⟨gb101, 2, none⟩ = some (.string a1_2) := (blk_cell BK101.out 2).trans rfl
            have hcz22_3 : wr.cell? ⟨gb101, 3, none⟩ = some (.int .i64 a1_3) := (blk_cell BK101.out 3).trans rfl
            have hcz22_4 : wr.cell? ⟨gb101, 4, none⟩ = some (.int .i64 a1_4) := (blk_cell BK101.out 4).trans rfl
            have hcz22_5 : wr.cell? ⟨gb101, 5, none⟩ = some (.int .i64 a1_5) := (blk_cell BK101.out 5).trans rfl
            have hcz22_6 : wr.cell? ⟨gb101, 6, none⟩ = some (.int .i64 a1_6) := (blk_cell BK101.out 6).trans rfl
            have hcz22_7 : wr.cell? ⟨gb101, 7, none⟩ = some (.bool a1_7) := (blk_cell BK101.out 7).trans rfl
            have hcz22_8 : wr.cell? ⟨gb101, 8, none⟩ = some (.int .i64 a1_8) := (blk_cell BK101.out 8).trans rfl
            have hcz22_9 : wr.cell? ⟨gb101, 9, none⟩ = some (.slice A1_9 l1_9.length c1_9) := (blk_cell BK101.out 9).trans rfl
            have hcz22_10 : wr.cell? ⟨gb101, 10, none⟩ = some (.slice A1_10 l1_10.length c1_10) := (blk_cell BK101.out 10).trans rfl
            have hcz22_11 : wr.cell? ⟨gb101, 11, none⟩ = some (.slice A1_11 l1_11.length c1_11) := (blk_cell BK101.out 11).trans rfl
            have hcz22_12 : wr.cell? ⟨gb101, 12, none⟩ = some (.slice A1_12 l1_12.length c1_12) := (blk_cell BK101.out 12).trans rfl
            have hcz22_13 : wr.cell? ⟨gb101, 13, none⟩ = some (.slice A1_13 l1_13.length c1_13) := (blk_cell BK101.out 13).trans rfl
            have hcz22_14 : wr.cell? ⟨gb101, 14, none⟩ = some (.slice A1_14 l1_14.length c1_14) := (blk_cell BK101.out 14).trans rfl
            have hcz22_15 : wr.cell? ⟨gb101, 15, none⟩ = some (.bool a1_15) := (blk_cell BK101.out 15).trans rfl
            have hcz22_16 : wr.cell? ⟨gb101, 16, none⟩ = some (.int .i64 a1_16) := (blk_cell BK101.out 16).trans rfl
            have hfz22_0 := blk_frozen BK101.out 0
            have hfz22_1 := blk_frozen BK101.out 1
            have hfz22_2 := blk_frozen BK101.out 2
            have hfz22_3 := blk_frozen BK101.out 3
            have hfz22_4 := blk_frozen BK101.out 4
            have hfz22_5 := blk_frozen BK101.out 5
            have hfz22_6 := blk_frozen BK101.out 6
            have hfz22_7 := blk_frozen BK101.out 7
            have hfz22_8 := blk_frozen BK101.out 8
            have hfz22_9 := blk_frozen BK101.out 9
            have hfz22_10 := blk_frozen BK101.out 10
            have hfz22_11 := blk_frozen BK101.out 11
            have hfz22_12 := blk_frozen BK101.out 12
            have hfz22_13 := blk_frozen BK101.out 13
            have hfz22_14 := blk_frozen BK101.out 14
            have hfz22_15 := blk_frozen BK101.out 15
            have hfz22_16 := blk_frozen BK101.out 16
            go_wp2
            go_ret
            exact ⟨by first | rfl | (simp [errW_none, errW_some] <;> rfl) | (simp [*, errW_none, errW_some] <;> rfl), by repeat (first | (with_reducible first | exact HB.out | apply below_alloc | apply pw_below_drewN | apply below_drew1 | refine below_set ?_ GE101.out | refine below_set ?_ GE102.out) | exact HB.out)⟩

end Go.Proofs.YtbcikhbepldjhaaDoor.X
