/- quantity.Print, in the print's own form: the canonical text of the clamped number. -/
import Derived.Test.YtjidhmklfkkckaaDoorXx1
import Derived.Test.YtjidhmklfkkckaaDoorShelf
import Derived.Test.YtjidhmklfkkckaaDoorGl
import Derived.WalkKit
import Derived.Lib.ItoaLen
import Derived.Lib.QuietBelow
import Derived.IntWalk
namespace Go.Proofs.YtjidhmklfkkckaaDoor.X
open Go.RowKit Go.Proofs.YtjidhmklfkkckaaDoorW.PrintWords Go.Proofs.YtjidhmklfkkckaaDoorW.PrintLast Go.Proofs.YtjidhmklfkkckaaDoorW.PrintMore
attribute [local go_sem] max2_int min2_int max_two min_two max_three min_three max_four min_four
set_option linter.unusedVariables false
set_option linter.unusedSimpArgs false
/-- The digits of n, with a minus sign if it is negative. -/
def dec (n : Int) : ByteArray := ⟨(Lib.itoa n).toArray⟩
theorem dec_size (n : Int) (h0 : -9223372036854775808 ≤ n) (h1 : n ≤ 9223372036854775807) : (dec n).size ≤ 21 := Lib.itoa_length_le n h0 h1
def quantity_Print.f (a0 : Int) : Option ByteArray :=
  let n := mn (mx a0 (-1000000000000000)) 1000000000000000
  if Int.tmod n 1000 = 0 then
    let q := Int.tdiv n 1000
    if q = 0 then some (dec q)
    else if Int.tmod q 1000000000 = 0 then some (dec (Int.tdiv q 1000000000) ++ ⟨#[71]⟩)
    else if Int.tmod q 1000000 = 0 then some (dec (Int.tdiv q 1000000) ++ ⟨#[77]⟩)
    else if Int.tmod q 1000 = 0 then some (dec (Int.tdiv q 1000) ++ ⟨#[107]⟩)
    else some (dec q)
  else some (dec n ++ ⟨#[109]⟩)
theorem itoa_calls (n : Int) (w : World) (h0 : -9223372036854775808 ≤ n) (h1 : n ≤ 9223372036854775807) (hG : Gl w) :
    Calls Tryd.prog 23 #[.int .i64 n] w fun e w' => e = .returned (.string (dec n)) ∧ Below w.heap.size w w' := by
  refine (Tryd.strconv_Itoa n h0 h1 w hG).mono ?_
  rintro e w' ⟨rfl, k, os, rfl⟩
  exact ⟨rfl, Lib.below_grow _ _ (Nat.le_refl _) _ _⟩
theorem units_cells {w : World} {base : Nat} {ok : Nat → Prop} {v : Value} {U : List S47} (hU : quantity_units.f = some U) (h : Kd.R k47 47 w base ok v U) :
    ∃ (g c : Nat), v = .slice (some ⟨g, 0, none⟩) 7 c ∧ 7 ≤ c ∧ base ≤ g ∧ g < w.heap.size ∧ w.cell? ⟨g, 0, none⟩ = some (.string ⟨#[71]⟩) ∧ w.cell? ⟨g, 1, none⟩ = some (.int .i64 1000000000) ∧
      w.cell? ⟨g, 2, none⟩ = some (.string ⟨#[77]⟩) ∧ w.cell? ⟨g, 3, none⟩ = some (.int .i64 1000000) ∧ w.cell? ⟨g, 4, none⟩ = some (.string ⟨#[107]⟩) ∧ w.cell? ⟨g, 5, none⟩ = some (.int .i64 1000) := by
  obtain ⟨A, c, rfl, hc, hC⟩ := Kd.R_reads h
  obtain ⟨inner, hown⟩ := Kd.R_own h
  have e : U = [(⟨(⟨#[71]⟩ : ByteArray), 1000000000⟩ : S47), (⟨(⟨#[77]⟩ : ByteArray), 1000000⟩ : S47), (⟨(⟨#[107]⟩ : ByteArray), 1000⟩ : S47), (⟨(⟨#[71, 105]⟩ : ByteArray), 1073741824⟩ : S47), (⟨(⟨#[77, 105]⟩ : ByteArray), 1048576⟩ : S47), (⟨(⟨#[75, 105]⟩ : ByteArray), 1024⟩ : S47), (⟨(⟨#[]⟩ : ByteArray), 1⟩ : S47)] := by
    unfold quantity_units.f at hU
    exact (Option.some.inj hU).symm
  subst e
  rcases hown.2 with ⟨h1, h2⟩ | ⟨g, cap, cur, h1, hg, hh, _⟩
  · simp at h2
  · injection h1 with h1 h2 h3
    subst h1
    have hlt : g < w.heap.size := by
      rcases Nat.lt_or_ge g w.heap.size with h | h
      · exact h
      · rw [Array.getElem?_eq_none h] at hh; cases hh
    obtain ⟨ad0, e0, p0, q0⟩ := at_T47 hC 0 (by decide) (by decide)
    obtain ⟨ad1, e1, p1, q1⟩ := at_T47 hC 1 (by decide) (by decide)
    obtain ⟨ad2, e2, p2, q2⟩ := at_T47 hC 2 (by decide) (by decide)
    injection e0 with e0; subst e0
    injection e1 with e1; subst e1
    injection e2 with e2; subst e2
    exact ⟨g, c, rfl, hc, hg, hlt, by simpa [Addr.add, rd_T47] using p0, by simpa [Addr.add, rd_T47] using q0, by simpa [Addr.add, rd_T47] using p1, by simpa [Addr.add, rd_T47] using q1, by simpa [Addr.add, rd_T47] using p2, by simpa [Addr.add, rd_T47] using q2⟩
theorem tdiv_bd (q d : Int) (h0 : -1000000000000 ≤ q) (h1 : q ≤ 1000000000000) : -1000000000000 ≤ Int.tdiv q d ∧ Int.tdiv q d ≤ 1000000000000 := by
  have := Int.natAbs_tdiv_le_natAbs q d
  omega
theorem name_world {P : Program} {c : Code} {Q : Exit → Act → World → Prop} {a : Act} {w : World} (F : World → Prop) (hF : F w) (h : ∀ W, F W → c.wp P Q a W) : c.wp P Q a w := h w hF
theorem bcells {W w1 : World} (hb : Below W.heap.size W w1) : (∀ b o, b < W.heap.size → w1.cell? ⟨b, o, none⟩ = W.cell? ⟨b, o, none⟩) :=
  fun b o h => hb.cell (p := ⟨b, o, none⟩) h
set_option maxHeartbeats 1000000 in
set_option maxRecDepth 100000 in
theorem print_odd (a0 m n : Int) (w : World) (hG : Gl w) (h1 : (if a0 < -1000000000000000 then -1000000000000000 else a0) = m) (h2 : (if 1000000000000000 < m then 1000000000000000 else m) = n)
    (hlo : -1000000000000000 ≤ n) (hhi : n ≤ 1000000000000000) (hb : (Int.tmod n 1000 != 0) = true) :
    Calls Tryd.prog 13 #[.int .i64 a0] w fun e w' => e = .returned (.string (dec n ++ ⟨#[109]⟩)) ∧ Below w.heap.size w w' := by
  have hs : (dec n).size + 1 ≤ 9223372036854775807 := by have := dec_size n (by omega) (by omega); omega
  go_enter Tryd.func13, Tryd.ntmps13
  go_wp2_with fail
  refine (itoa_calls _ _ (by omega) (by omega) hG).mono ?_
  rintro e w3 ⟨rfl, hb3⟩
  go_wp2_with fail
  go_ret
  exact ⟨rfl, hb3⟩
set_option maxHeartbeats 2000000 in
set_option maxRecDepth 100000 in
theorem print_giga (a0 m n q : Int) (w : World) (hG : Gl w) (h1 : (if a0 < -1000000000000000 then -1000000000000000 else a0) = m) (h2 : (if 1000000000000000 < m then 1000000000000000 else m) = n)
    (hlo : -1000000000000000 ≤ n) (hhi : n ≤ 1000000000000000) (hb : (Int.tmod n 1000 != 0) = false) (hq : Int.tdiv n 1000 = q) (hql : -1000000000000 ≤ q) (hqh : q ≤ 1000000000000) (hq0 : (q != 0) = true) (t0 : (Int.tmod q 1000000000 == 0) = true) :
    Calls Tryd.prog 13 #[.int .i64 a0] w fun e w' => e = .returned (.string (dec (Int.tdiv q 1000000000) ++ ⟨#[71]⟩)) ∧ Below w.heap.size w w' := by
  have ha := tdiv_bd q 1000000000 (by omega : -1000000000000 ≤ q) (by omega)
  have hs : (dec (Int.tdiv q 1000000000)).size + 1 ≤ 9223372036854775807 := by have := dec_size (Int.tdiv q 1000000000) (by omega) (by omega); omega
  go_enter Tryd.func13, Tryd.ntmps13
  go_wp2_with fail
  refine (quantity_units.calls _ _ rfl).mono ?_
  rintro e w1 ⟨v, rfl, hR, hb1⟩
  obtain ⟨g, c, rfl, hc, hge, hlt, c0, c1, c2, c3, c4, c5⟩ := units_cells rfl hR
  clear hR
  have hne : ¬ w1.heap.size = g := by omega
  have hle := hb1.size
  go_wp2_with fail
  refine wp_loop_rounds 4 ?_
  rw [rounds_succ]
  go_wp2_with fail
  refine name_world (fun W => Below w.heap.size w W ∧ W.cell? ⟨w1.heap.size, 0, none⟩ = some (.string ⟨#[71]⟩) ∧ W.cell? ⟨w1.heap.size, 1, none⟩ = some (.int .i64 1000000000)) ⟨?_, ?_, ?_⟩ ?_
  · repeat (first | exact hb1 | refine Below.setCell ?_ (by first | omega | (simp; omega)) _ | refine Below.alloc ?_ (by first | omega | (simp; omega)) _)
  · go_simp
  · go_simp
  rintro W0 ⟨hbW, k0, k1⟩
  replace k0 := cell_regrown k0
  replace k1 := cell_regrown k1
  have cI : ∀ d os, Calls Tryd.prog 23 #[.int .i64 (Int.tdiv q 1000000000)] (Go.Sort.grow (redrawn W0 d) os) fun e w'' => e = .returned (.string (dec (Int.tdiv q 1000000000))) ∧ ∃ p : Regrown, w'' = Go.Sort.grow (redrawn W0 p.d) p.os :=
    fun d os => Calls.regrown_of (itoa_calls _ _ (by omega) (by omega) (hG.below (hbW.trans ((below_regrown W0 d os).mono hbW.size))))
  clear c0 c1 c2 c3 c4 c5 hG h1 h2
  have hs2 : ¬ 9223372036854775807 < (dec (Int.tdiv q 1000000000)).size + 1 := by omega
  have hwr : IntKind.i64.wrap (Int.tdiv q 1000000000) = Int.tdiv q 1000000000 := IntWalk.i64_in _ (by omega)
  refine wp_region_quiet_below (by kernel_rfl) (by kernel_rfl) ?_
  repeat (quiet_step (exact cI _ _))
  refine wpQuiet_nil ?_
  intro _ hw'
  obtain ⟨⟨dq, osq⟩, hw''⟩ := hw'
  subst hw''
  clear hwr
  go_wp2
  go_ret
  exact ⟨rfl, hbW.trans ((below_regrown W0 dq osq).mono hbW.size)⟩
set_option maxHeartbeats 2000000 in
set_option maxRecDepth 100000 in
theorem print_mega (a0 m n q : Int) (w : World) (hG : Gl w) (h1 : (if a0 < -1000000000000000 then -1000000000000000 else a0) = m) (h2 : (if 1000000000000000 < m then 1000000000000000 else m) = n)
    (hlo : -1000000000000000 ≤ n) (hhi : n ≤ 1000000000000000) (hb : (Int.tmod n 1000 != 0) = false) (hq : Int.tdiv n 1000 = q) (hql : -1000000000000 ≤ q) (hqh : q ≤ 1000000000000) (hq0 : (q != 0) = true) (t0 : (Int.tmod q 1000000000 == 0) = false) (t1 : (Int.tmod q 1000000 == 0) = true) :
    Calls Tryd.prog 13 #[.int .i64 a0] w fun e w' => e = .returned (.string (dec (Int.tdiv q 1000000) ++ ⟨#[77]⟩)) ∧ Below w.heap.size w w' := by
  have ha := tdiv_bd q 1000000 (by omega : -1000000000000 ≤ q) (by omega)
  have hs : (dec (Int.tdiv q 1000000)).size + 1 ≤ 9223372036854775807 := by have := dec_size (Int.tdiv q 1000000) (by omega) (by omega); omega
  go_enter Tryd.func13, Tryd.ntmps13
  go_wp2_with fail
  refine (quantity_units.calls _ _ rfl).mono ?_
  rintro e w1 ⟨v, rfl, hR, hb1⟩
  obtain ⟨g, c, rfl, hc, hge, hlt, c0, c1, c2, c3, c4, c5⟩ := units_cells rfl hR
  clear hR
  have hne : ¬ w1.heap.size = g := by omega
  have hle := hb1.size
  go_wp2_with fail
  refine wp_loop_rounds 4 ?_
  rw [rounds_succ]
  go_wp2_with fail
  rw [rounds_succ]
  go_wp2_with fail
  refine name_world (fun W => Below w.heap.size w W ∧ W.cell? ⟨w1.heap.size + 1, 0, none⟩ = some (.string ⟨#[77]⟩) ∧ W.cell? ⟨w1.heap.size + 1, 1, none⟩ = some (.int .i64 1000000)) ⟨?_, ?_, ?_⟩ ?_
  · repeat (first | exact hb1 | refine Below.setCell ?_ (by first | omega | (simp; omega)) _ | refine Below.alloc ?_ (by first | omega | (simp; omega)) _)
  · go_simp
  · go_simp
  rintro W0 ⟨hbW, k0, k1⟩
  replace k0 := cell_regrown k0
  replace k1 := cell_regrown k1
  have cI : ∀ d os, Calls Tryd.prog 23 #[.int .i64 (Int.tdiv q 1000000)] (Go.Sort.grow (redrawn W0 d) os) fun e w'' => e = .returned (.string (dec (Int.tdiv q 1000000))) ∧ ∃ p : Regrown, w'' = Go.Sort.grow (redrawn W0 p.d) p.os :=
    fun d os => Calls.regrown_of (itoa_calls _ _ (by omega) (by omega) (hG.below (hbW.trans ((below_regrown W0 d os).mono hbW.size))))
  clear c0 c1 c2 c3 c4 c5 hG h1 h2
  have hs2 : ¬ 9223372036854775807 < (dec (Int.tdiv q 1000000)).size + 1 := by omega
  have hwr : IntKind.i64.wrap (Int.tdiv q 1000000) = Int.tdiv q 1000000 := IntWalk.i64_in _ (by omega)
  refine wp_region_quiet_below (by kernel_rfl) (by kernel_rfl) ?_
  repeat (quiet_step (exact cI _ _))
  refine wpQuiet_nil ?_
  intro _ hw'
  obtain ⟨⟨dq, osq⟩, hw''⟩ := hw'
  subst hw''
  clear hwr
  go_wp2
  go_ret
  exact ⟨rfl, hbW.trans ((below_regrown W0 dq osq).mono hbW.size)⟩
set_option maxHeartbeats 2000000 in
set_option maxRecDepth 100000 in
theorem print_kilo (a0 m n q : Int) (w : World) (hG : Gl w) (h1 : (if a0 < -1000000000000000 then -1000000000000000 else a0) = m) (h2 : (if 1000000000000000 < m then 1000000000000000 else m) = n)
    (hlo : -1000000000000000 ≤ n) (hhi : n ≤ 1000000000000000) (hb : (Int.tmod n 1000 != 0) = false) (hq : Int.tdiv n 1000 = q) (hql : -1000000000000 ≤ q) (hqh : q ≤ 1000000000000) (hq0 : (q != 0) = true) (t0 : (Int.tmod q 1000000000 == 0) = false) (t1 : (Int.tmod q 1000000 == 0) = false) (t2 : (Int.tmod q 1000 == 0) = true) :
    Calls Tryd.prog 13 #[.int .i64 a0] w fun e w' => e = .returned (.string (dec (Int.tdiv q 1000) ++ ⟨#[107]⟩)) ∧ Below w.heap.size w w' := by
  have ha := tdiv_bd q 1000 (by omega : -1000000000000 ≤ q) (by omega)
  have hs : (dec (Int.tdiv q 1000)).size + 1 ≤ 9223372036854775807 := by have := dec_size (Int.tdiv q 1000) (by omega) (by omega); omega
  go_enter Tryd.func13, Tryd.ntmps13
  go_wp2_with fail
  refine (quantity_units.calls _ _ rfl).mono ?_
  rintro e w1 ⟨v, rfl, hR, hb1⟩
  obtain ⟨g, c, rfl, hc, hge, hlt, c0, c1, c2, c3, c4, c5⟩ := units_cells rfl hR
  clear hR
  have hne : ¬ w1.heap.size = g := by omega
  have hle := hb1.size
  go_wp2_with fail
  refine wp_loop_rounds 4 ?_
  rw [rounds_succ]
  go_wp2_with fail
  rw [rounds_succ]
  go_wp2_with fail
  rw [rounds_succ]
  go_wp2_with fail
  refine name_world (fun W => Below w.heap.size w W ∧ W.cell? ⟨w1.heap.size + 2, 0, none⟩ = some (.string ⟨#[107]⟩) ∧ W.cell? ⟨w1.heap.size + 2, 1, none⟩ = some (.int .i64 1000)) ⟨?_, ?_, ?_⟩ ?_
  · repeat (first | exact hb1 | refine Below.setCell ?_ (by first | omega | (simp; omega)) _ | refine Below.alloc ?_ (by first | omega | (simp; omega)) _)
  · go_simp
  · go_simp
  rintro W0 ⟨hbW, k0, k1⟩
  replace k0 := cell_regrown k0
  replace k1 := cell_regrown k1
  have cI : ∀ d os, Calls Tryd.prog 23 #[.int .i64 (Int.tdiv q 1000)] (Go.Sort.grow (redrawn W0 d) os) fun e w'' => e = .returned (.string (dec (Int.tdiv q 1000))) ∧ ∃ p : Regrown, w'' = Go.Sort.grow (redrawn W0 p.d) p.os :=
    fun d os => Calls.regrown_of (itoa_calls _ _ (by omega) (by omega) (hG.below (hbW.trans ((below_regrown W0 d os).mono hbW.size))))
  clear c0 c1 c2 c3 c4 c5 hG h1 h2
  have hs2 : ¬ 9223372036854775807 < (dec (Int.tdiv q 1000)).size + 1 := by omega
  have hwr : IntKind.i64.wrap (Int.tdiv q 1000) = Int.tdiv q 1000 := IntWalk.i64_in _ (by omega)
  refine wp_region_quiet_below (by kernel_rfl) (by kernel_rfl) ?_
  repeat (quiet_step (exact cI _ _))
  refine wpQuiet_nil ?_
  intro _ hw'
  obtain ⟨⟨dq, osq⟩, hw''⟩ := hw'
  subst hw''
  clear hwr
  go_wp2
  go_ret
  exact ⟨rfl, hbW.trans ((below_regrown W0 dq osq).mono hbW.size)⟩
set_option maxHeartbeats 2000000 in
set_option maxRecDepth 100000 in
theorem print_plain (a0 m n q : Int) (w : World) (hG : Gl w) (h1 : (if a0 < -1000000000000000 then -1000000000000000 else a0) = m) (h2 : (if 1000000000000000 < m then 1000000000000000 else m) = n)
    (hlo : -1000000000000000 ≤ n) (hhi : n ≤ 1000000000000000) (hb : (Int.tmod n 1000 != 0) = false) (hq : Int.tdiv n 1000 = q) (hql : -1000000000000 ≤ q) (hqh : q ≤ 1000000000000) (hq0 : (q != 0) = true) (t0 : (Int.tmod q 1000000000 == 0) = false) (t1 : (Int.tmod q 1000000 == 0) = false) (t2 : (Int.tmod q 1000 == 0) = false) :
    Calls Tryd.prog 13 #[.int .i64 a0] w fun e w' => e = .returned (.string (dec q)) ∧ Below w.heap.size w w' := by
  go_enter Tryd.func13, Tryd.ntmps13
  go_wp2_with fail
  refine (quantity_units.calls _ _ rfl).mono ?_
  rintro e w1 ⟨v, rfl, hR, hb1⟩
  obtain ⟨g, c, rfl, hc, hge, hlt, c0, c1, c2, c3, c4, c5⟩ := units_cells rfl hR
  clear hR
  have hne : ¬ w1.heap.size = g := by omega
  have hle := hb1.size
  go_wp2_with fail
  refine wp_loop_rounds 4 ?_
  rw [rounds_succ]
  go_wp2_with fail
  rw [rounds_succ]
  go_wp2_with fail
  rw [rounds_succ]
  go_wp2_with fail
  rw [rounds_succ]
  go_wp2_with fail
  refine (itoa_calls _ _ (by omega) (by omega) (hG.below (by repeat (first | exact hb1 | refine Below.setCell ?_ (by first | omega | (simp; omega)) _ | refine Below.alloc ?_ (by first | omega | (simp; omega)) _)))).mono ?_
  rintro e w3 ⟨rfl, hb3⟩
  go_wp2_with fail
  go_ret
  exact ⟨rfl, Below.trans (by repeat (first | exact hb1 | refine Below.setCell ?_ (by first | omega | (simp; omega)) _ | refine Below.alloc ?_ (by first | omega | (simp; omega)) _)) (hb3.mono (by first | omega | (simp; omega)))⟩
set_option maxHeartbeats 2000000 in
set_option maxRecDepth 100000 in
theorem print_zero (a0 m n q : Int) (w : World) (hG : Gl w) (h1 : (if a0 < -1000000000000000 then -1000000000000000 else a0) = m) (h2 : (if 1000000000000000 < m then 1000000000000000 else m) = n)
    (hlo : -1000000000000000 ≤ n) (hhi : n ≤ 1000000000000000) (hb : (Int.tmod n 1000 != 0) = false) (hq : Int.tdiv n 1000 = q) (hql : -1000000000000 ≤ q) (hqh : q ≤ 1000000000000) (hq0 : (q != 0) = false) :
    Calls Tryd.prog 13 #[.int .i64 a0] w fun e w' => e = .returned (.string (dec q)) ∧ Below w.heap.size w w' := by
  go_enter Tryd.func13, Tryd.ntmps13
  go_wp2_with fail
  refine (quantity_units.calls _ _ rfl).mono ?_
  rintro e w1 ⟨v, rfl, hR, hb1⟩
  obtain ⟨g, c, rfl, hc, hge, hlt, c0, c1, c2, c3, c4, c5⟩ := units_cells rfl hR
  clear hR
  have hne : ¬ w1.heap.size = g := by omega
  have hle := hb1.size
  go_wp2_with fail
  refine wp_loop_rounds 4 ?_
  rw [rounds_succ]
  go_wp2_with fail
  rw [rounds_succ]
  go_wp2_with fail
  rw [rounds_succ]
  go_wp2_with fail
  rw [rounds_succ]
  go_wp2_with fail
  refine (itoa_calls _ _ (by omega) (by omega) (hG.below (by repeat (first | exact hb1 | refine Below.setCell ?_ (by first | omega | (simp; omega)) _ | refine Below.alloc ?_ (by first | omega | (simp; omega)) _)))).mono ?_
  rintro e w3 ⟨rfl, hb3⟩
  go_wp2_with fail
  go_ret
  exact ⟨rfl, Below.trans (by repeat (first | exact hb1 | refine Below.setCell ?_ (by first | omega | (simp; omega)) _ | refine Below.alloc ?_ (by first | omega | (simp; omega)) _)) (hb3.mono (by first | omega | (simp; omega)))⟩

theorem quantity_Print.calls (a0 : Int) (r : ByteArray) (w : World) (hG : Gl w) (h : quantity_Print.f a0 = some r) :
    Calls Tryd.prog 13 #[.int .i64 a0] w fun e w' => e = .returned (.string r) ∧ Below w.heap.size w w' := by
  obtain ⟨m, h1⟩ : ∃ m, (if a0 < -1000000000000000 then -1000000000000000 else a0) = m := ⟨_, rfl⟩
  obtain ⟨n, h2⟩ : ∃ n, (if 1000000000000000 < m then 1000000000000000 else m) = n := ⟨_, rfl⟩
  have hlo : -1000000000000000 ≤ n := by rw [← h2]; split <;> (rw [← h1] at *; split at * <;> omega)
  have hhi : n ≤ 1000000000000000 := by rw [← h2]; split <;> omega
  have hn : mn (mx a0 (-1000000000000000)) 1000000000000000 = n := by
    unfold mn mx
    rw [h1]; exact h2
  unfold quantity_Print.f at h
  simp only [hn] at h
  by_cases c : Int.tmod n 1000 = 0
  · rw [if_pos c] at h
    have hb : (Int.tmod n 1000 != 0) = false := bne_eq_false_iff_eq.mpr c
    obtain ⟨q, hq⟩ : ∃ q, Int.tdiv n 1000 = q := ⟨_, rfl⟩
    have hqb : -1000000000000 ≤ q ∧ q ≤ 1000000000000 := by
      have e := Int.mul_tdiv_add_tmod n 1000
      rw [hq, c] at e
      omega
    rw [hq] at h
    by_cases cq : q = 0
    · rw [if_pos cq] at h
      obtain rfl := Option.some.inj h
      exact print_zero a0 m n q w hG h1 h2 hlo hhi hb hq hqb.1 hqb.2 (bne_eq_false_iff_eq.mpr cq)
    · rw [if_neg cq] at h
      have hq0 : (q != 0) = true := bne_iff_ne.mpr cq
      by_cases c1 : Int.tmod q 1000000000 = 0
      · rw [if_pos c1] at h
        obtain rfl := Option.some.inj h
        exact print_giga a0 m n q w hG h1 h2 hlo hhi hb hq hqb.1 hqb.2 hq0 (beq_iff_eq.mpr c1)
      · rw [if_neg c1] at h
        have t1 := beq_eq_false_iff_ne.mpr c1
        by_cases c2 : Int.tmod q 1000000 = 0
        · rw [if_pos c2] at h
          obtain rfl := Option.some.inj h
          exact print_mega a0 m n q w hG h1 h2 hlo hhi hb hq hqb.1 hqb.2 hq0 t1 (beq_iff_eq.mpr c2)
        · rw [if_neg c2] at h
          have t2 := beq_eq_false_iff_ne.mpr c2
          by_cases c3 : Int.tmod q 1000 = 0
          · rw [if_pos c3] at h
            obtain rfl := Option.some.inj h
            exact print_kilo a0 m n q w hG h1 h2 hlo hhi hb hq hqb.1 hqb.2 hq0 t1 t2 (beq_iff_eq.mpr c3)
          · rw [if_neg c3] at h
            obtain rfl := Option.some.inj h
            exact print_plain a0 m n q w hG h1 h2 hlo hhi hb hq hqb.1 hqb.2 hq0 t1 t2 (beq_eq_false_iff_ne.mpr c3)
  · rw [if_neg c] at h
    obtain rfl := Option.some.inj h
    exact print_odd a0 m n w hG h1 h2 hlo hhi (bne_iff_ne.mpr c)
end Go.Proofs.YtjidhmklfkkckaaDoor.X
