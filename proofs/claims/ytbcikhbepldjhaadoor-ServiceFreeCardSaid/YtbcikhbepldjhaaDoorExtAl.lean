/- service.Allocate, by hand, in the print's own form. -/
import Derived.Test.YtbcikhbepldjhaaDoorXx0
import Derived.Test.YtbcikhbepldjhaaDoorMap
namespace Go.Proofs.YtbcikhbepldjhaaDoor.X
open Go.RowKit Go.Proofs.YtbcikhbepldjhaaDoorW.PrintWords Go.Proofs.YtbcikhbepldjhaaDoorW.PrintLast Go.Proofs.YtbcikhbepldjhaaDoorW.PrintMore Go.Maps Go.Proofs.YtbcikhbepldjhaaDoorW.Sets
attribute [local go_sem] max2_int min2_int max_two min_two max_three min_three max_four min_four
set_option linter.unusedVariables false
set_option linter.unusedSimpArgs false
def aUsed (l : List S33) (a : Int) : Bool := l.any (fun s => s.f4 == a)
def aGo (l : List S33) (first : Int) : Nat → Int → Int × Int
  | 0, _ => (0, 15)
  | n + 1, i => if aUsed l (first + i) = true then aGo l first n (i + 1) else (first + i, 0)
def aWf (l : List S33) : Bool := l.all (fun s => (Lit.int .i64 s.f4).wf)
def aBad (a1 a2 : Int) : Prop := a1 < 1 ∨ a2 < 1 ∨ a1 > 1000000000000000 ∨ a2 > 1000000000000000 - a1 + 1
instance (a1 a2 : Int) : Decidable (aBad a1 a2) := inferInstanceAs (Decidable (_ ∨ _))
def service_Allocate.f (l : List S33) (a1 a2 : Int) : Option (Int × Int) :=
  if aBad a1 a2 then some (0, 5)
  else if aWf l = true ∧ l.length ≤ 549755813888 then some (aGo l a1 (mn a2 ((l.length : Int) + 1)).toNat 0) else none
def aSet (l : List S33) (y : Lit) : Bool := l.any (fun s => (Lit.int .i64 s.f4).sameKey y)
theorem aSet_used (l : List S33) (a : Int) : aSet l (.int .i64 a) = aUsed l a := by
  unfold aSet aUsed
  congr 1
  funext s
  simp [Lit.sameKey]
  rfl
theorem aw64 {x : Int} (h0 : -9223372036854775808 ≤ x) (h1 : x ≤ 9223372036854775807) : wrap64 x = x := by unfold wrap64; omega
theorem rd_T33_nat (l : List S33) (j : Nat) (h : j < l.length) : rd_T33 l (j : Int) = l[j] := by
  unfold rd_T33
  rw [Int.toNat_natCast, List.getD_eq_getElem?_getD, List.getElem?_eq_getElem h]
  rfl
theorem aSet_snoc {l : List S33} {j : Nat} {E : S33} (h : j < l.length) (hE : l[j] = E) (y : Lit) : (aSet (l.take j) y || (Lit.int .i64 E.f4).sameKey y) = aSet (l.take (j + 1)) y := by
  unfold aSet
  rw [List.take_add_one, List.any_append, List.getElem?_eq_getElem h, hE]
  simp
theorem below_grown' {w W W1 : World} {row : Option Nat} (h : Below w.heap.size w W) (hg : W.grownBy W1 row) (hr : ∀ k, row = some k → w.heap.size ≤ k) : Below w.heap.size w W1 := h.grown hg h.size hr
theorem awf {x : Int} (h0 : -9223372036854775808 ≤ x) (h1 : x ≤ 9223372036854775807) : (Lit.int .i64 x).wf = true := by
  have e : IntKind.i64.min = -9223372036854775808 := by decide
  have e2 : IntKind.i64.max = 9223372036854775807 := by decide
  simp [Lit.wf, e, e2]
  omega
theorem zb4 (w : World) : (zeroValue 4).run Tryd.prog w = .ok (.bool false) w := by kernel_rfl
set_option maxHeartbeats 8000000 in
set_option maxRecDepth 100000 in
theorem service_Allocate.calls (A0 : Option Addr) (c0 : Nat) (l0 : List S33) (a1 a2 : Int) (r1 r2 : Int) (w : World) (hr0 : Kd.C k33 w A0 l0.length l0) (hc0 : l0.length ≤ c0) (h : service_Allocate.f l0 a1 a2 = some (r1, r2)) :
    Calls Tryd.prog 10 #[.slice A0 l0.length c0, .int .i64 a1, .int .i64 a2] w fun e w' => e = .returned (.tuple #[.int .i64 r1, .int .i64 r2]) ∧ Below w.heap.size w w' := by
  have hu33 := Tryd.underlying33
  have hmm := @run_makeMap Tryd.prog
  have HR0 := Aside0.mk hr0
  clear hr0 hc0
  unfold service_Allocate.f at h
  by_cases b1 : a1 < 1
  · rw [if_pos (show aBad a1 a2 from Or.inl b1)] at h
    obtain ⟨rfl, rfl⟩ := Prod.mk.inj (Option.some.inj h)
    have d1 : decide (a1 < 1) = true := decide_eq_true b1
    go_enter Tryd.func10, Tryd.ntmps10
    go_wp2
    go_ret2
    exact ⟨rfl, by repeat (first | exact Below.refl _ _ | apply below_drew1 | apply pw_below_drewN)⟩
  have d1 : decide (a1 < 1) = false := decide_eq_false b1
  by_cases b2 : a2 < 1
  · rw [if_pos (show aBad a1 a2 from Or.inr (Or.inl b2))] at h
    obtain ⟨rfl, rfl⟩ := Prod.mk.inj (Option.some.inj h)
    have d2 : decide (a2 < 1) = true := decide_eq_true b2
    go_enter Tryd.func10, Tryd.ntmps10
    go_wp2
    go_ret2
    exact ⟨rfl, by repeat (first | exact Below.refl _ _ | apply below_drew1 | apply pw_below_drewN)⟩
  have d2 : decide (a2 < 1) = false := decide_eq_false b2
  by_cases b3 : a1 > 1000000000000000
  · rw [if_pos (show aBad a1 a2 from Or.inr (Or.inr (Or.inl b3)))] at h
    obtain ⟨rfl, rfl⟩ := Prod.mk.inj (Option.some.inj h)
    have d3 : decide (1000000000000000 < a1) = true := decide_eq_true b3
    go_enter Tryd.func10, Tryd.ntmps10
    go_wp2
    go_ret2
    exact ⟨rfl, by repeat (first | exact Below.refl _ _ | apply below_drew1 | apply pw_below_drewN)⟩
  have d3 : decide (1000000000000000 < a1) = false := decide_eq_false b3
  have e4 : wrap64 (wrap64 (1000000000000000 - a1) + 1) = 1000000000000000 - a1 + 1 := by rw [aw64 (x := 1000000000000000 - a1) (by omega) (by omega), aw64 (by omega) (by omega)]
  by_cases b4 : a2 > 1000000000000000 - a1 + 1
  · rw [if_pos (show aBad a1 a2 from Or.inr (Or.inr (Or.inr b4)))] at h
    obtain ⟨rfl, rfl⟩ := Prod.mk.inj (Option.some.inj h)
    have d4 : decide (wrap64 (wrap64 (1000000000000000 - a1) + 1) < a2) = true := decide_eq_true (by rw [e4]; exact b4)
    go_enter Tryd.func10, Tryd.ntmps10
    go_wp2
    go_ret2
    exact ⟨rfl, by repeat (first | exact Below.refl _ _ | apply below_drew1 | apply pw_below_drewN)⟩
  have d4 : decide (wrap64 (wrap64 (1000000000000000 - a1) + 1) < a2) = false := decide_eq_false (by rw [e4]; exact b4)
  rw [if_neg (show ¬ aBad a1 a2 from fun hx => hx.elim b1 (fun hx => hx.elim b2 (fun hx => hx.elim b3 b4)))] at h
  have hw : aWf l0 = true ∧ l0.length ≤ 549755813888 := by
    rcases Decidable.em (aWf l0 = true ∧ l0.length ≤ 549755813888) with hw | hw
    · exact hw
    · rw [if_neg hw] at h; cases h
  rw [if_pos hw] at h
  obtain ⟨hwf, hln⟩ := hw
  have HF := Aside0.mk (List.all_eq_true.1 hwf)
  clear hwf
  have HH := Aside0.mk (Option.some.inj h)
  clear h
  have K := int_keyed (P := Tryd.prog) Tryd.underlying3
  go_enter Tryd.func10, Tryd.ntmps10
  go_wp2
  go_loopg [32] l0.length (fun gk v32 w' => ∃ j : Nat, j ≤ l0.length ∧ v32 = .int .i64 (j : Int) ∧ Aside0 (l0.length - j ≤ gk) ∧ Aside0 (SetIs w' Tryd.prog 3 4 w.heap.size j (aSet (l0.take j))) ∧ Aside0 (Below w.heap.size w w'))
  case atStart => exact ⟨0, Nat.zero_le _, rfl, ⟨by omega⟩, ⟨setIs_made w Tryd.prog 3 4⟩, ⟨(Below.refl _ _).alloc (Nat.le_refl _) _⟩⟩
  case round =>
    obtain ⟨j, hj, rfl, HK, HS, HB⟩ := hrel
    by_cases c3 : j < l0.length
    · have c3b : decide ((j : Int) < (l0.length : Int)) = true := decide_eq_true (by omega)
      have p1 : 0 ≤ (j : Int) := by omega
      have q1 : (j : Int) < (l0.length : Int) := by omega
      have hwf := HF.out l0[j] (List.getElem_mem c3)
      obtain ⟨ad, B9, n9, B10, n10, B11, n11, B12, n12, B13, n13, B14, n14, e1, hx0, hx1, hx2, hx3, hx4, hx5, hx6, hx7, hx8, hx9, hx10, hx11, hx12, hx13, hx14, hx15, hx16, -, -, -, -, -, -, -, -, -, -, -, -⟩ := at_T33 HR0.out (j : Int) p1 q1
      cases e1
      rw [rd_T33_nat l0 j c3] at *
      generalize hE : l0[j] = E at *
      simp only [Int.toNat_natCast] at hx0 hx1 hx2 hx3 hx4 hx5 hx6 hx7 hx8 hx9 hx10 hx11 hx12 hx13 hx14 hx15 hx16
      replace hx0 := (HB.out.cell (World.block_lt_of_cell? w _ hx0)).trans hx0
      replace hx1 := (HB.out.cell (World.block_lt_of_cell? w _ hx1)).trans hx1
      replace hx2 := (HB.out.cell (World.block_lt_of_cell? w _ hx2)).trans hx2
      replace hx3 := (HB.out.cell (World.block_lt_of_cell? w _ hx3)).trans hx3
      replace hx4 := (HB.out.cell (World.block_lt_of_cell? w _ hx4)).trans hx4
      replace hx5 := (HB.out.cell (World.block_lt_of_cell? w _ hx5)).trans hx5
      replace hx6 := (HB.out.cell (World.block_lt_of_cell? w _ hx6)).trans hx6
      replace hx7 := (HB.out.cell (World.block_lt_of_cell? w _ hx7)).trans hx7
      replace hx8 := (HB.out.cell (World.block_lt_of_cell? w _ hx8)).trans hx8
      replace hx9 := (HB.out.cell (World.block_lt_of_cell? w _ hx9)).trans hx9
      replace hx10 := (HB.out.cell (World.block_lt_of_cell? w _ hx10)).trans hx10
      replace hx11 := (HB.out.cell (World.block_lt_of_cell? w _ hx11)).trans hx11
      replace hx12 := (HB.out.cell (World.block_lt_of_cell? w _ hx12)).trans hx12
      replace hx13 := (HB.out.cell (World.block_lt_of_cell? w _ hx13)).trans hx13
      replace hx14 := (HB.out.cell (World.block_lt_of_cell? w _ hx14)).trans hx14
      replace hx15 := (HB.out.cell (World.block_lt_of_cell? w _ hx15)).trans hx15
      replace hx16 := (HB.out.cell (World.block_lt_of_cell? w _ hx16)).trans hx16
      replace p1 := eq_true p1
      replace q1 := eq_true q1
      go_wp2_with (first
        | (at_mapUpdate; refine wpList_set_put _ rfl _ _ _ 57 rfl 3 4 K Tryd.underlying57 Tryd.underlying4 w.heap.size j _ rfl (SetIs.below HS.out (w' := _) (B := wr.heap.size) ?hbl HS.out.lt) (by unfold maxLen; omega) _ _ _ rfl rfl (keyOf_int_mk Tryd.underlying3 hwf) rfl ?hk; (case hbl => repeat (first | exact Below.refl _ _ | (refine below_set ?_ (Nat.le_refl _)) | apply below_alloc | apply below_drew1 | apply pw_below_drewN)); intro w1 hs1 hg1))
      cases gk with
      | zero => exact absurd HK.out (by omega)
      | succ k1 =>
        go_roundg k1
        case measure => omega
        case rel => exact ⟨j + 1, by omega, by first | rfl | (push_cast; rfl) | (rw [aw64 (by omega) (by omega)]; push_cast; rfl), ⟨by have := HK.out; omega⟩, ⟨hs1.ext (fun y => aSet_snoc c3 hE y)⟩, ⟨below_grown' (by repeat (first | exact HB.out | (refine below_set ?_ HB.out.size) | apply below_alloc | apply below_drew1 | apply pw_below_drewN)) hg1 (fun k hk => by cases hk; exact Nat.le_refl _)⟩⟩
    · have hjl : j = l0.length := by omega
      subst hjl
      have c3b : decide ((l0.length : Int) < (l0.length : Int)) = false := decide_eq_false (by omega)
      rw [List.take_length] at HS
      have em : wrap64 ((l0.length : Int) + 1) = (l0.length : Int) + 1 := aw64 (by omega) (by omega)
      have hN : mn a2 ((l0.length : Int) + 1) ≤ a2 ∧ mn a2 ((l0.length : Int) + 1) ≤ (l0.length : Int) + 1 ∧ 1 ≤ mn a2 ((l0.length : Int) + 1) ∧ (a2 ≤ (l0.length : Int) + 1 → mn a2 ((l0.length : Int) + 1) = a2) ∧ ((l0.length : Int) + 1 < a2 → mn a2 ((l0.length : Int) + 1) = (l0.length : Int) + 1) := by
        unfold mn
        split <;> omega
      generalize mn a2 ((l0.length : Int) + 1) = N at *
      obtain ⟨n1, n2, n3, n4, n5⟩ := hN
      clear d1 d2 d3 d4 e4 em c3b
      go_wp2
      all_goals
        have hNv := by first | exact n4 (by assumption) | exact n5 (by assumption)
        clear n4 n5
        go_loopg [45] N.toNat (fun gk v45 w' => ∃ i : Nat, i ≤ N.toNat ∧ v45 = .int .i64 (i : Int) ∧ Aside0 (N.toNat - i ≤ gk) ∧ Aside0 (aGo l0 a1 (N.toNat - i) (i : Int) = (r1, r2)) ∧ Aside0 (SetIs w' Tryd.prog 3 4 w.heap.size l0.length (aSet l0)) ∧ Aside0 (Below w.heap.size w w'))
        case atStart => exact ⟨0, Nat.zero_le _, rfl, ⟨by omega⟩, HH, ⟨HS.out⟩, ⟨HB.out⟩⟩
        case round =>
          clear HH HK HS HB
          obtain ⟨i, hi, rfl, HK, HH, HS, HB⟩ := hrel
          have HHo := HH.out
          by_cases c5 : (i : Int) < N
          · obtain ⟨m, hm⟩ : ∃ m, N.toNat - i = m + 1 := ⟨N.toNat - i - 1, by omega⟩
            rw [hm] at HHo
            simp only [aGo] at HHo
            rw [← aSet_used] at HHo
            have c5b := decide_eq_true c5
            rw [hNv] at c5b
            have e6 : wrap64 (a1 + (i : Int)) = a1 + (i : Int) := aw64 (by omega) (by omega)
            have hwk : (Lit.int .i64 (a1 + (i : Int))).wf = true := awf (by omega) (by omega)
            cases hu : aSet l0 (.int .i64 (a1 + (i : Int))) with
            | true =>
              rw [hu, if_pos rfl] at HHo
              cases gk with
              | zero => exact absurd HK.out (by omega)
              | succ k1 =>
                go_wp2_with (first | (at_lookup; refine wpList_set_look _ rfl _ _ 57 rfl 3 4 K Tryd.underlying57 Tryd.underlying4 (zb4 _) w.heap.size _ _ rfl HS.out _ _ rfl (keyOf_int_mk Tryd.underlying3 hwk) ?_))
                go_roundg k1
                case measure => omega
                case rel => exact ⟨i + 1, by omega, by first | rfl | (push_cast; rfl) | (rw [aw64 (by omega) (by omega)]; push_cast; rfl), ⟨by have := HK.out; omega⟩, ⟨by rw [show N.toNat - (i + 1) = m from by omega]; push_cast; exact HHo⟩, ⟨HS.out⟩, ⟨HB.out⟩⟩
            | false =>
              rw [hu, if_neg (by decide)] at HHo
              obtain ⟨rfl, rfl⟩ := Prod.mk.inj HHo
              go_wp2_with (first | (at_lookup; refine wpList_set_look _ rfl _ _ 57 rfl 3 4 K Tryd.underlying57 Tryd.underlying4 (zb4 _) w.heap.size _ _ rfl HS.out _ _ rfl (keyOf_int_mk Tryd.underlying3 hwk) ?_))
              go_ret2
              exact ⟨rfl, HB.out⟩
          · rw [show N.toNat - i = 0 from by omega] at HHo
            obtain ⟨rfl, rfl⟩ := Prod.mk.inj HHo
            have c5b := decide_eq_false c5
            rw [hNv] at c5b
            go_wp2
            go_ret2
            exact ⟨rfl, HB.out⟩
end Go.Proofs.YtbcikhbepldjhaaDoor.X
