/- Fail and Ready answer as the reference does, for all arguments, and the chapter's examples hold. Conditions: none. -/
import Derived.Test.YtppinoefogcckaaRows
import Derived.Test.YtppinoefogcckaaPBackoffFailsx3
import Derived.Test.YtppinoefogcckaaDefBackoffFails
import Derived.Test.YtppinoefogcckaaPureBackoffFails
import Derived.Test.YtppinoefogcckaaOpen
import Derived.WalkKit
import Derived.ProofKit
import Derived.OpenShut
import Derived.ShutString
import Derived.ChangeOld
import Derived.Below
import Derived.SizedLaws
namespace Go.Proofs.Ytppinoefogcckaa.backoffFails
open Go.ChangeShapes Go.WideShapes Go.ChangeAt Go.RowKit
open Go.ChangeMaps (open_string shut_string)
open Go.Proofs.YtppinoefogcckaaW.PrintWords Go.Proofs.YtppinoefogcckaaW.Open Go.Proofs.Ytppinoefogcckaa.PBackoffFails
set_option linter.unusedVariables false
set_option linter.unusedSimpArgs false
theorem own : ownKnob Try.prog.godebug = none := by kernel_rfl
theorem laidOut : laidOutB Try.prog = true := by kernel_rfl
set_option maxRecDepth 100000 in
theorem lifted (os : Os) (started : os.Started) (H : Type) (enc : TypeId × Value → H) :
    ReturnsInHanded {} Try.checked os 4 .any (Rows.backoffFailsSpec.pre6 enc Try.prog Try.f4 Rows.backoffFailsRow.domain false) (Rows.backoffFailsSpec.post enc Try.prog Try.f4 false true false false) := by
  refine returnsInHanded_of_change_sized (C := Try.checked) own started (by kernel_rfl) Try.func4
    (ChangeSpec.witness6 (enc := enc) (C := Try.checked) false ⟨#[], #[.agg #[.int .i64 0, .int .i64 0], .int .i64 0, .int .i64 0, .int .i64 0], []⟩ 8 (by kernel_rfl) (by kernel_rfl) (by kernel_rfl) (by kernel_rfl)) ?_
  intro W base args ds gs before hval0 hW hcnd hsz0 _
  have hsz : (DataW.weightsEach Try.prog (Try.f4.params.toList ++ Rows.backoffFailsSpec.plain.varTypes Try.prog) (ds ++ gs)).all (· ≤ reachBytes) = true := hsz0
  have hval : ∀ (j : Nat) t v, Try.f4.params[j]? = some t → args[j]? = some v → Value.okWide Try.prog W .any base t v := hval0
  have hW' := hW
  obtain ⟨p, q, hA0, hV, rfl, hfz, hnd⟩ := hW
  have hA : DataW.TrodAll enc Try.prog W 0 (fun _ => true) true Try.f4.params.toList args.toList ds p := hA0
  rw [Try.params4] at hA hval hsz
  obtain ⟨v0, vs0, d0, ds0, p0, q0, hargs, rfl, rfl, h0, r0⟩ := trodAll_cons hA
  obtain ⟨v1, vs1, d1, ds1, p1, q1, rfl, rfl, rfl, h1, r1⟩ := trodAll_cons r0
  obtain ⟨v2, vs2, d2, ds2, p2, q2, rfl, rfl, rfl, h2, r2⟩ := trodAll_cons r1
  obtain ⟨v3, vs3, d3, ds3, p3, q3, rfl, rfl, rfl, h3, r3⟩ := trodAll_cons r2
  obtain ⟨rfl, rfl, rfl⟩ := trodAll_nil r3
  obtain rfl : args = #[v0, v1, v2, v3] := by cases args; simp_all
  obtain ⟨rfl, rfl⟩ := trodVars_none hV
  have k0 := h0
  have lt0 := trod_lt h0
  obtain ⟨x0, K0, O0⟩ := opened opn26T hsz (j := 0) (t := 26) rfl rfl h0
  obtain ⟨cs0, rfl, z0⟩ := okWide_struct Try.underlying26 (hval 0 26 v0 rfl rfl)
  obtain ⟨cs0⟩ := cs0
  obtain ⟨a0_0, a0_1⟩ := x0
  obtain ⟨o0_0, o0_1⟩ := O0
  obtain ⟨C0, KC0, E0⟩ : ∃ C, (Kd.pair (Kd.int .i64) (Kd.int .i64)).K W ⟨a0_0, a0_1⟩ C ∧ cs0 = C := ⟨cs0, K0, rfl⟩
  obtain ⟨_, _, rfl, rfl, rfl⟩ := KC0
  simp only [List.cons_append, List.nil_append] at E0
  subst E0
  have k1 := h1
  have lt1 := trod_lt h1
  obtain ⟨x1, K1, O1⟩ := opened opn3 hsz (j := 1) (t := 3) rfl rfl h1
  obtain ⟨a1, rfl⟩ := okWide_int Try.underlying3 (hval 1 3 v1 rfl rfl)
  have E1 := K1
  simp [Value.cells, Kd.int, Kd.scalar] at E1
  subst E1
  have o1 := O1
  have k2 := h2
  have lt2 := trod_lt h2
  obtain ⟨x2, K2, O2⟩ := opened opn3 hsz (j := 2) (t := 3) rfl rfl h2
  obtain ⟨a2, rfl⟩ := okWide_int Try.underlying3 (hval 2 3 v2 rfl rfl)
  have E2 := K2
  simp [Value.cells, Kd.int, Kd.scalar] at E2
  subst E2
  have o2 := O2
  have k3 := h3
  have lt3 := trod_lt h3
  obtain ⟨x3, K3, O3⟩ := opened opn3 hsz (j := 3) (t := 3) rfl rfl h3
  obtain ⟨a3, rfl⟩ := okWide_int Try.underlying3 (hval 3 3 v3 rfl rfl)
  have E3 := K3
  simp [Value.cells, Kd.int, Kd.scalar] at E3
  subst E3
  have o3 := O3
  clear hA0 hval0 hsz0 hsz hval
  have P := Pure.BackoffFails
  obtain ⟨k, h⟩ := P a0_0 a0_1 a1 a2 a3 o0_0 o0_1 o1 o2 o3
  refine (orchestratorlaw30_BackoffFails.calls k a0_0 a0_1 a1 a2 a3 true W h).mono fun e W' ⟨he, bel⟩ => ?_
  subst he
  exact ⟨_, rfl, _, _, _, [], _, [], hW', trodAll_mk1 (shut_bool Try.underlying4 _), (trodAll_cons_mk (Below.trod laidOut (by kernel_rfl) (of_decide_eq_true (by kernel_rfl)) k0 bel lt0) (trodAll_cons_mk (Below.trod laidOut (by kernel_rfl) (of_decide_eq_true (by kernel_rfl)) k1 bel lt1) (trodAll_cons_mk (Below.trod laidOut (by kernel_rfl) (of_decide_eq_true (by kernel_rfl)) k2 bel lt2) (trodAll_cons_mk (Below.trod laidOut (by kernel_rfl) (of_decide_eq_true (by kernel_rfl)) k3 bel lt3) trodAll_mk0)))), rfl, bel.frame _, fun h => by cases h⟩
theorem over : Rows.backoffFailsRow.holds Try.pinned (OpenSpec.ofChange Rows.backoffFailsSpec) :=
  OpenClaim.holds_of_wide 4 Try.f4 rfl rfl rfl rfl rfl rfl rfl ⟨rfl, rfl, rfl, rfl, rfl⟩ rfl rfl rfl rfl rfl (by kernel_rfl) Try.func4 (by kernel_rfl)
    (of_decide_eq_true (by kernel_rfl)) (by unfold Func.isWrapper; first | (rw [if_pos (by decide +kernel)]; kernel_rfl) | (rw [if_neg (by decide +kernel)]; exact ⟨rfl, rfl⟩))
    (fun os started H enc _ => lifted os started H enc)
theorem proved : Rows.BackoffFailsSaid := over
#print axioms proved
end Go.Proofs.Ytppinoefogcckaa.backoffFails
namespace Go.Proofs.Ytppinoefogcckaa
/-- The row, under a short name, for the claim. -/
theorem backoffFails_holds : Rows.BackoffFailsSaid := backoffFails.proved
end Go.Proofs.Ytppinoefogcckaa
