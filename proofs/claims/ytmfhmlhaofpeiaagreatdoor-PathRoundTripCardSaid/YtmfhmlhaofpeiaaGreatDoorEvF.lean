/- The functions' code, laid out. Printed by WP.lean.txt, a program of this session's. -/
import Derived.Test.YtmfhmlhaofpeiaaGreatDoorEvTy
namespace Go.Proofs.YtmfhmlhaofpeiaaGreatDoor.Ev
open Go Go.RowKit
set_option linter.unusedVariables false
set_option maxRecDepth 100000
/- orchestrator/orchestratorlaw06.PathValid -/
def an3 : AN := (.seq none .leaf (.seq none (.seq none .leaf (.two (.seq none .leaf .leaf) .leaf)) (.seq none .leaf .leaf)))
def w3 (P : Prims) (a0 a1 : AV) (Q : AV → AS → Prop) : Prop :=
  P.oC 6 11 [a0] ⟨Tr.nil, 0⟩ fun t6 sx1 =>
  P.oV 7 (evUn .not t6) fun t7 =>
  P.oG [9, 10, 11] t7 false (fun (k : C3) => P.oC 10 11 [a1] sx1 fun t10 sx2 =>
   P.oV 11 (evUn .not t10) fun t11 =>
   k a1 t10 t11 sx2) sx1 fun t9 t10 t11 sx2 =>
  P.oV 12 (evPick t7 (some (.b true)) (some t11)) fun t12 =>
  P.oI t12 (P.oC 13 12 [] sx2 fun t13 sx3 =>
   Q t13 sx3)
  (P.oC 15 13 [a0] sx2 fun t15 sx3 =>
   P.oC 17 14 [a0] sx3 fun t17 sx4 =>
   P.oV 18 (evBin T0 .eql 4 false t15 t17) fun t18 =>
   P.oG [20, 21, 22, 23, 24, 25, 26] t18 true (fun (k : C7) => P.oC 22 15 [a0, a1] sx4 fun t22 sx5 =>
    P.oC 25 16 [a0, a1] sx5 fun t25 sx6 =>
    P.oV 26 (evBin T0 .eql 4 false t22 t25) fun t26 =>
    k a0 a1 t22 a0 a1 t25 t26 sx6) sx4 fun t20 t21 t22 t23 t24 t25 t26 sx5 =>
   P.oV 27 (evPick t18 (some t26) (some (.b false))) fun t27 =>
   P.oG [29] t27 true (fun (k : C1) => P.oC 29 12 [] sx5 fun t29 sx6 =>
    k t29 sx6) sx5 fun t29 sx6 =>
   P.oV 30 (evPick t27 (some t29) (some (.b false))) fun t30 =>
   Q t30 sx6)
theorem w3_eq (P : Prims) (a0 a1 : AV) (Q : AV → AS → Prop) : w3 P a0 a1 Q = vcBody P T0 Go.Proofs.Tryz.f3 (codeOf Go.Proofs.Tryz.f3) an3 [a0, a1] ⟨.nil, 0⟩ Q := by kernel_rfl
theorem r3 (a0 a1 : AV) {r : AV} (hi : AV.idfree.idfrees [a0, a1] = true) (hn : AV.norm.norms [a0, a1] = [a0, a1]) (h : w3 (prims T0) a0 a1 (fun r1 s1 => oZ T0 s1 r1 (fun r2 => r2 = r))) : R T0 3 [a0, a1] r :=
  R.mk (by kernel_rfl) (by kernel_rfl) (show T0.fn 3 = some Go.Proofs.Tryz.f3 by kernel_rfl) (by kernel_rfl) (by kernel_rfl) hi hn (by rw [w3_eq] at h; exact h)
/- orchestrator/orchestratorlaw06.few -/
def an11 : AN := (.seq none .leaf (.seq none (.seq none .leaf (.two (.seq none .leaf .leaf) .leaf)) (.seq none (.seq none .leaf (.one (.loop [8, 9, 10] (.seq none .leaf (.seq none (.two .leaf .leaf) (.seq none (.one (.seq none .leaf (.seq none .leaf (.two (.seq none .leaf .leaf) .leaf)))) .leaf)))))) (.seq none .leaf .leaf))))
def w11 (P : Prims) (a0 : AV) (Q : AV → AS → Prop) : Prop :=
  P.oV 6 (evBuiltin T0 Tr.nil .len [22] [a0]) fun t6 =>
  P.oV 7 (evBin T0 .gtr 3 true t6 (.i .i64 20)) fun t7 =>
  P.oI t7 (Q (.b false) ⟨Tr.nil, 0⟩)
  (P.oV 9 (evBuiltin T0 Tr.nil .len [22] [a0]) fun t9 =>
   P.oL [8, 9, 10] (fun (next : C3) t8 t9x1 t10 sx1 =>
   P.oV 11 (evBin T0 .lss 3 false t10 t9x1) fun t11 =>
   P.oI t11 (P.oV 12 (evIndexAddr T0 22 t8 t10) fun t12 =>
    P.oV 13 (evLoad T0 sx1.h 50 t12) fun t13 =>
    P.oN 4 (.cells [(.i .i64 0), (.s []), (.i .i64 0), (.s [])] 50 false) (fun id => (.ptr id 0)) sx1 fun t4 sx2 =>
    P.oH (evStore T0 sx2.h 50 t4 t13) sx2 fun sx3 =>
    P.oV 14 (evOff 1 t4) fun t14 =>
    P.oV 15 (evLoad T0 sx3.h 9 t14) fun t15 =>
    P.oV 16 (evBuiltin T0 sx3.h .len [9] [t15]) fun t16 =>
    P.oV 17 (evBin T0 .gtr 3 true t16 (.i .i64 300)) fun t17 =>
    P.oG [19, 20, 21, 22] t17 false (fun (k : C4) => P.oV 19 (evOff 3 t4) fun t19 =>
     P.oV 20 (evLoad T0 sx3.h 9 t19) fun t20 =>
     P.oV 21 (evBuiltin T0 sx3.h .len [9] [t20]) fun t21 =>
     P.oV 22 (evBin T0 .gtr 3 true t21 (.i .i64 300)) fun t22 =>
     k t19 t20 t21 t22 sx3) sx3 fun t19 t20 t21 t22 sx4 =>
    P.oV 23 (evPick t17 (some (.b true)) (some t22)) fun t23 =>
    P.oI t23 (Q (.b false) sx4)
    (P.oV 24 (evBin T0 .add 3 true t10 (.i .i64 1)) fun t24 =>
     next t8 t9x1 t24 sx4))
   (Q (.b true) sx1)) a0 t9 (.i .i64 0) ⟨Tr.nil, 0⟩)
theorem w11_eq (P : Prims) (a0 : AV) (Q : AV → AS → Prop) : w11 P a0 Q = vcBody P T0 Go.Proofs.Tryz.f11 (codeOf Go.Proofs.Tryz.f11) an11 [a0] ⟨.nil, 0⟩ Q := by kernel_rfl
theorem r11 (a0 : AV) {r : AV} (hi : AV.idfree.idfrees [a0] = true) (hn : AV.norm.norms [a0] = [a0]) (h : w11 (prims T0) a0 (fun r1 s1 => oZ T0 s1 r1 (fun r2 => r2 = r))) : R T0 11 [a0] r :=
  R.mk (by kernel_rfl) (by kernel_rfl) (show T0.fn 11 = some Go.Proofs.Tryz.f11 by kernel_rfl) (by kernel_rfl) (by kernel_rfl) hi hn (by rw [w11_eq] at h; exact h)
/- orchestrator/path.Valid -/
def an13 : AN := (.seq none .leaf (.seq none .leaf .leaf))
def w13 (P : Prims) (a0 : AV) (Q : AV → AS → Prop) : Prop :=
  P.oV 4 (evBuiltin T0 Tr.nil .len [22] [a0]) fun t4 =>
  P.oV 5 (evBin T0 .leq 3 true t4 (.i .i64 16)) fun t5 =>
  P.oG [7, 8, 9] t5 true (fun (k : C3) => P.oC 8 33 [a0, (.fn 34 [] [])] ⟨Tr.nil, 0⟩ fun t8 sx1 =>
   P.oV 9 (evUn .not t8) fun t9 =>
   k a0 t8 t9 sx1) ⟨Tr.nil, 0⟩ fun t7 t8 t9 sx1 =>
  P.oV 10 (evPick t5 (some t9) (some (.b false))) fun t10 =>
  Q t10 sx1
theorem w13_eq (P : Prims) (a0 : AV) (Q : AV → AS → Prop) : w13 P a0 Q = vcBody P T0 Go.Proofs.Tryz.f13 (codeOf Go.Proofs.Tryz.f13) an13 [a0] ⟨.nil, 0⟩ Q := by kernel_rfl
theorem r13 (a0 : AV) {r : AV} (hi : AV.idfree.idfrees [a0] = true) (hn : AV.norm.norms [a0] = [a0]) (h : w13 (prims T0) a0 (fun r1 s1 => oZ T0 s1 r1 (fun r2 => r2 = r))) : R T0 13 [a0] r :=
  R.mk (by kernel_rfl) (by kernel_rfl) (show T0.fn 13 = some Go.Proofs.Tryz.f13 by kernel_rfl) (by kernel_rfl) (by kernel_rfl) hi hn (by rw [w13_eq] at h; exact h)
/- orchestrator/orchestratorref06.Valid -/
def an14 : AN := (.seq none .leaf (.seq none (.seq none .leaf (.one (.loop [0, 3] (.seq none (.seq none .leaf (.two .leaf .leaf)) (.seq none (.one (.seq none .leaf (.two (.seq none .leaf .leaf) .leaf))) .leaf))))) (.seq none .leaf .leaf)))
def w14 (P : Prims) (a0 : AV) (Q : AV → AS → Prop) : Prop :=
  P.oL [0, 3] (fun (next : C2) t0 t3 sx1 =>
  P.oV 6 (evBuiltin T0 sx1.h .len [22] [t0]) fun t6 =>
  P.oV 7 (evBin T0 .lss 3 false t3 t6) fun t7 =>
  P.oI t7 (P.oV 12 (evIndexAddr T0 22 t0 t3) fun t12 =>
   P.oV 13 (evLoad T0 sx1.h 50 t12) fun t13 =>
   P.oC 14 36 [t13] sx1 fun t14 sx2 =>
   P.oV 15 (evUn .not t14) fun t15 =>
   P.oI t15 (Q (.b false) sx2)
   (P.oV 9 (evBin T0 .add 3 true t3 (.i .i64 1)) fun t9 =>
    next t0 t9 sx2))
  (P.oV 17 (evBuiltin T0 sx1.h .len [22] [t0]) fun t17 =>
   P.oV 18 (evBin T0 .leq 3 true t17 (.i .i64 16)) fun t18 =>
   Q t18 sx1)) a0 (.i .i64 0) ⟨Tr.nil, 0⟩
theorem w14_eq (P : Prims) (a0 : AV) (Q : AV → AS → Prop) : w14 P a0 Q = vcBody P T0 Go.Proofs.Tryz.f14 (codeOf Go.Proofs.Tryz.f14) an14 [a0] ⟨.nil, 0⟩ Q := by kernel_rfl
theorem r14 (a0 : AV) {r : AV} (hi : AV.idfree.idfrees [a0] = true) (hn : AV.norm.norms [a0] = [a0]) (h : w14 (prims T0) a0 (fun r1 s1 => oZ T0 s1 r1 (fun r2 => r2 = r))) : R T0 14 [a0] r :=
  R.mk (by kernel_rfl) (by kernel_rfl) (show T0.fn 14 = some Go.Proofs.Tryz.f14 by kernel_rfl) (by kernel_rfl) (by kernel_rfl) hi hn (by rw [w14_eq] at h; exact h)
/- orchestrator/path.HasPrefix -/
/- orchestrator/orchestratorref06.HasPrefix -/
def an16 : AN := (.seq none .leaf (.seq none (.seq none .leaf (.two (.seq none .leaf .leaf) .leaf)) (.seq none (.seq none .leaf (.one (.loop [1, 0, 5] (.seq none (.seq none .leaf (.two .leaf .leaf)) (.seq none (.one (.seq none .leaf (.two (.seq none .leaf .leaf) .leaf))) .leaf))))) (.seq none .leaf .leaf))))
def w16 (P : Prims) (a0 a1 : AV) (Q : AV → AS → Prop) : Prop :=
  P.oV 7 (evBuiltin T0 Tr.nil .len [22] [a0]) fun t7 =>
  P.oV 9 (evBuiltin T0 Tr.nil .len [22] [a1]) fun t9 =>
  P.oV 10 (evBin T0 .lss 3 false t7 t9) fun t10 =>
  P.oI t10 (Q (.b false) ⟨Tr.nil, 0⟩)
  (P.oL [1, 0, 5] (fun (next : C3) t1 t0 t5 sx1 =>
   P.oV 13 (evBuiltin T0 sx1.h .len [22] [t1]) fun t13 =>
   P.oV 14 (evBin T0 .lss 3 false t5 t13) fun t14 =>
   P.oI t14 (P.oV 19 (evIndexAddr T0 22 t0 t5) fun t19 =>
    P.oV 20 (evLoad T0 sx1.h 50 t19) fun t20 =>
    P.oV 23 (evIndexAddr T0 22 t1 t5) fun t23 =>
    P.oV 24 (evLoad T0 sx1.h 50 t23) fun t24 =>
    P.oV 25 (evBin T0 .neq 50 false t20 t24) fun t25 =>
    P.oI t25 (Q (.b false) sx1)
    (P.oV 16 (evBin T0 .add 3 true t5 (.i .i64 1)) fun t16 =>
     next t1 t0 t16 sx1))
   (Q (.b true) sx1)) a1 a0 (.i .i64 0) ⟨Tr.nil, 0⟩)
theorem w16_eq (P : Prims) (a0 a1 : AV) (Q : AV → AS → Prop) : w16 P a0 a1 Q = vcBody P T0 Go.Proofs.Tryz.f16 (codeOf Go.Proofs.Tryz.f16) an16 [a0, a1] ⟨.nil, 0⟩ Q := by kernel_rfl
theorem r16 (a0 a1 : AV) {r : AV} (hi : AV.idfree.idfrees [a0, a1] = true) (hn : AV.norm.norms [a0, a1] = [a0, a1]) (h : w16 (prims T0) a0 a1 (fun r1 s1 => oZ T0 s1 r1 (fun r2 => r2 = r))) : R T0 16 [a0, a1] r :=
  R.mk (by kernel_rfl) (by kernel_rfl) (show T0.fn 16 = some Go.Proofs.Tryz.f16 by kernel_rfl) (by kernel_rfl) (by kernel_rfl) hi hn (by rw [w16_eq] at h; exact h)
/- orchestrator/orchestratorref04.Valid -/
/- slices.ContainsFunc[[]orchestrator/api.Step,orchestrator/api.Step] -/
def an33 : AN := (.seq none .leaf (.seq none .leaf .leaf))
def w33 (P : Prims) (a0 a1 : AV) (Q : AV → AS → Prop) : Prop :=
  P.oC 7 59 [a0, a1] ⟨Tr.nil, 0⟩ fun t7 sx1 =>
  P.oV 8 (evBin T0 .geq 3 true t7 (.i .i64 0)) fun t8 =>
  Q t8 sx1
theorem w33_eq (P : Prims) (a0 a1 : AV) (Q : AV → AS → Prop) : w33 P a0 a1 Q = vcBody P T0 Go.Proofs.Tryz.f33 (codeOf Go.Proofs.Tryz.f33) an33 [a0, a1] ⟨.nil, 0⟩ Q := by kernel_rfl
theorem r33 (a0 a1 : AV) {r : AV} (hi : AV.idfree.idfrees [a0, a1] = true) (hn : AV.norm.norms [a0, a1] = [a0, a1]) (h : w33 (prims T0) a0 a1 (fun r1 s1 => oZ T0 s1 r1 (fun r2 => r2 = r))) : R T0 33 [a0, a1] r :=
  R.mk (by kernel_rfl) (by kernel_rfl) (show T0.fn 33 = some Go.Proofs.Tryz.f33 by kernel_rfl) (by kernel_rfl) (by kernel_rfl) hi hn (by rw [w33_eq] at h; exact h)
/- orchestrator/path.Valid$1 -/
def an34 : AN := (.seq none .leaf (.seq none .leaf .leaf))
def w34 (P : Prims) (a0 : AV) (Q : AV → AS → Prop) : Prop :=
  P.oN 1 (.cells (AV.cells a0) 50 false) (fun id => (.ptr id 0)) ⟨Tr.nil, 0⟩ fun t1 sx1 =>
  P.oV 3 (evLoad T0 sx1.h 50 t1) fun t3 =>
  P.oC 4 35 [t3] sx1 fun t4 sx2 =>
  P.oV 5 (evUn .not t4) fun t5 =>
  Q t5 sx2
theorem w34_eq (P : Prims) (a0 : AV) (Q : AV → AS → Prop) : w34 P a0 Q = vcBody P T0 Go.Proofs.Tryz.f34 (codeOf Go.Proofs.Tryz.f34) an34 [a0] ⟨.nil, 0⟩ Q := by kernel_rfl
theorem r34 (a0 : AV) {r : AV} (hi : AV.idfree.idfrees [a0] = true) (hn : AV.norm.norms [a0] = [a0]) (h : w34 (prims T0) a0 (fun r1 s1 => oZ T0 s1 r1 (fun r2 => r2 = r))) : R T0 34 [a0] r :=
  R.mk (by kernel_rfl) (by kernel_rfl) (show T0.fn 34 = some Go.Proofs.Tryz.f34 by kernel_rfl) (by kernel_rfl) (by kernel_rfl) hi hn (by rw [w34_eq] at h; exact h)
/- orchestrator/path.validStep -/
def an35 : AN := (.seq none .leaf (.seq none (.seq none .leaf (.one (.seq none .leaf (.two (.seq none .leaf .leaf) (.seq none .leaf (.two (.seq none .leaf .leaf) (.seq none .leaf (.two (.seq none .leaf .leaf) .leaf)))))))) (.seq none .leaf .leaf)))
def w35 (P : Prims) (a0 : AV) (Q : AV → AS → Prop) : Prop :=
  P.oN 1 (.cells (AV.cells a0) 50 false) (fun id => (.ptr id 0)) ⟨Tr.nil, 0⟩ fun t1 sx1 =>
  P.oV 3 (evOff 0 t1) fun t3 =>
  P.oV 4 (evLoad T0 sx1.h 3 t3) fun t4 =>
  P.oV 6 (evBin T0 .eql 3 true t4 (.i .i64 1)) fun t6 =>
  P.oI t6 (P.oV 7 (evOff 1 t1) fun t7 =>
   P.oV 8 (evLoad T0 sx1.h 9 t7) fun t8 =>
   P.oC 9 60 [t8] sx1 fun t9 sx2 =>
   P.oG [11, 12, 13] t9 true (fun (k : C3) => P.oV 11 (evOff 2 t1) fun t11 =>
    P.oV 12 (evLoad T0 sx2.h 3 t11) fun t12 =>
    P.oV 13 (evBin T0 .eql 3 true t12 (.i .i64 0)) fun t13 =>
    k t11 t12 t13 sx2) sx2 fun t11 t12 t13 sx3 =>
   P.oV 14 (evPick t9 (some t13) (some (.b false))) fun t14 =>
   P.oG [16, 17, 18] t14 true (fun (k : C3) => P.oV 16 (evOff 3 t1) fun t16 =>
    P.oV 17 (evLoad T0 sx3.h 9 t16) fun t17 =>
    P.oV 18 (evBin T0 .eql 9 true t17 (.s [])) fun t18 =>
    k t16 t17 t18 sx3) sx3 fun t16 t17 t18 sx4 =>
   P.oV 19 (evPick t14 (some t18) (some (.b false))) fun t19 =>
   Q t19 sx4)
  (P.oV 21 (evBin T0 .eql 3 true t4 (.i .i64 2)) fun t21 =>
   P.oI t21 (P.oV 22 (evOff 2 t1) fun t22 =>
    P.oV 23 (evLoad T0 sx1.h 3 t22) fun t23 =>
    P.oV 24 (evBin T0 .geq 3 true t23 (.i .i64 0)) fun t24 =>
    P.oG [26, 27, 28] t24 true (fun (k : C3) => P.oV 26 (evOff 2 t1) fun t26 =>
     P.oV 27 (evLoad T0 sx1.h 3 t26) fun t27 =>
     P.oV 28 (evBin T0 .leq 3 true t27 (.i .i64 64)) fun t28 =>
     k t26 t27 t28 sx1) sx1 fun t26 t27 t28 sx2 =>
    P.oV 29 (evPick t24 (some t28) (some (.b false))) fun t29 =>
    P.oG [31, 32, 33] t29 true (fun (k : C3) => P.oV 31 (evOff 1 t1) fun t31 =>
     P.oV 32 (evLoad T0 sx2.h 9 t31) fun t32 =>
     P.oV 33 (evBin T0 .eql 9 true t32 (.s [])) fun t33 =>
     k t31 t32 t33 sx2) sx2 fun t31 t32 t33 sx3 =>
    P.oV 34 (evPick t29 (some t33) (some (.b false))) fun t34 =>
    P.oG [36, 37, 38] t34 true (fun (k : C3) => P.oV 36 (evOff 3 t1) fun t36 =>
     P.oV 37 (evLoad T0 sx3.h 9 t36) fun t37 =>
     P.oV 38 (evBin T0 .eql 9 true t37 (.s [])) fun t38 =>
     k t36 t37 t38 sx3) sx3 fun t36 t37 t38 sx4 =>
    P.oV 39 (evPick t34 (some t38) (some (.b false))) fun t39 =>
    Q t39 sx4)
   (P.oV 41 (evBin T0 .eql 3 true t4 (.i .i64 3)) fun t41 =>
    P.oI t41 (P.oV 42 (evOff 1 t1) fun t42 =>
     P.oV 43 (evLoad T0 sx1.h 9 t42) fun t43 =>
     P.oC 44 60 [t43] sx1 fun t44 sx2 =>
     P.oG [46, 47, 48] t44 true (fun (k : C3) => P.oV 46 (evOff 2 t1) fun t46 =>
      P.oV 47 (evLoad T0 sx2.h 3 t46) fun t47 =>
      P.oV 48 (evBin T0 .eql 3 true t47 (.i .i64 0)) fun t48 =>
      k t46 t47 t48 sx2) sx2 fun t46 t47 t48 sx3 =>
     P.oV 49 (evPick t44 (some t48) (some (.b false))) fun t49 =>
     P.oG [51, 52, 53, 54] t49 true (fun (k : C4) => P.oV 51 (evOff 3 t1) fun t51 =>
      P.oV 52 (evLoad T0 sx3.h 9 t51) fun t52 =>
      P.oC 53 61 [t52] sx3 fun t53 sx4 =>
      P.oC 54 54 [t53] sx4 fun t54 sx5 =>
      k t51 t52 t53 t54 sx5) sx3 fun t51 t52 t53 t54 sx4 =>
     P.oV 55 (evPick t49 (some t54) (some (.b false))) fun t55 =>
     Q t55 sx4)
    (Q (.b false) sx1)))
theorem w35_eq (P : Prims) (a0 : AV) (Q : AV → AS → Prop) : w35 P a0 Q = vcBody P T0 Go.Proofs.Tryz.f35 (codeOf Go.Proofs.Tryz.f35) an35 [a0] ⟨.nil, 0⟩ Q := by kernel_rfl
theorem r35 (a0 : AV) {r : AV} (hi : AV.idfree.idfrees [a0] = true) (hn : AV.norm.norms [a0] = [a0]) (h : w35 (prims T0) a0 (fun r1 s1 => oZ T0 s1 r1 (fun r2 => r2 = r))) : R T0 35 [a0] r :=
  R.mk (by kernel_rfl) (by kernel_rfl) (show T0.fn 35 = some Go.Proofs.Tryz.f35 by kernel_rfl) (by kernel_rfl) (by kernel_rfl) hi hn (by rw [w35_eq] at h; exact h)
/- orchestrator/orchestratorref06.validStep -/
def an36 : AN := (.seq none .leaf (.seq none (.seq none .leaf (.two (.seq none .leaf .leaf) .leaf)) (.seq none (.seq none .leaf (.two (.seq none .leaf .leaf) .leaf)) (.seq none .leaf .leaf))))
def w36 (P : Prims) (a0 : AV) (Q : AV → AS → Prop) : Prop :=
  P.oN 1 (.cells (AV.cells a0) 50 false) (fun id => (.ptr id 0)) ⟨Tr.nil, 0⟩ fun t1 sx1 =>
  P.oV 3 (evOff 0 t1) fun t3 =>
  P.oV 4 (evLoad T0 sx1.h 3 t3) fun t4 =>
  P.oV 5 (evBin T0 .eql 3 true t4 (.i .i64 1)) fun t5 =>
  P.oI t5 (P.oV 6 (evOff 1 t1) fun t6 =>
   P.oV 7 (evLoad T0 sx1.h 9 t6) fun t7 =>
   P.oC 8 62 [t7] sx1 fun t8 sx2 =>
   P.oG [10, 11, 12] t8 true (fun (k : C3) => P.oV 10 (evOff 2 t1) fun t10 =>
    P.oV 11 (evLoad T0 sx2.h 3 t10) fun t11 =>
    P.oV 12 (evBin T0 .eql 3 true t11 (.i .i64 0)) fun t12 =>
    k t10 t11 t12 sx2) sx2 fun t10 t11 t12 sx3 =>
   P.oV 13 (evPick t8 (some t12) (some (.b false))) fun t13 =>
   P.oG [15, 16, 17] t13 true (fun (k : C3) => P.oV 15 (evOff 3 t1) fun t15 =>
    P.oV 16 (evLoad T0 sx3.h 9 t15) fun t16 =>
    P.oV 17 (evBin T0 .eql 9 true t16 (.s [])) fun t17 =>
    k t15 t16 t17 sx3) sx3 fun t15 t16 t17 sx4 =>
   P.oV 18 (evPick t13 (some t17) (some (.b false))) fun t18 =>
   Q t18 sx4)
  (P.oV 19 (evOff 0 t1) fun t19 =>
   P.oV 20 (evLoad T0 sx1.h 3 t19) fun t20 =>
   P.oV 21 (evBin T0 .eql 3 true t20 (.i .i64 2)) fun t21 =>
   P.oI t21 (P.oV 22 (evOff 2 t1) fun t22 =>
    P.oV 23 (evLoad T0 sx1.h 3 t22) fun t23 =>
    P.oV 24 (evBin T0 .geq 3 true t23 (.i .i64 0)) fun t24 =>
    P.oG [26, 27, 28] t24 true (fun (k : C3) => P.oV 26 (evOff 2 t1) fun t26 =>
     P.oV 27 (evLoad T0 sx1.h 3 t26) fun t27 =>
     P.oV 28 (evBin T0 .leq 3 true t27 (.i .i64 64)) fun t28 =>
     k t26 t27 t28 sx1) sx1 fun t26 t27 t28 sx2 =>
    P.oV 29 (evPick t24 (some t28) (some (.b false))) fun t29 =>
    P.oG [31, 32, 33] t29 true (fun (k : C3) => P.oV 31 (evOff 1 t1) fun t31 =>
     P.oV 32 (evLoad T0 sx2.h 9 t31) fun t32 =>
     P.oV 33 (evBin T0 .eql 9 true t32 (.s [])) fun t33 =>
     k t31 t32 t33 sx2) sx2 fun t31 t32 t33 sx3 =>
    P.oV 34 (evPick t29 (some t33) (some (.b false))) fun t34 =>
    P.oG [36, 37, 38] t34 true (fun (k : C3) => P.oV 36 (evOff 3 t1) fun t36 =>
     P.oV 37 (evLoad T0 sx3.h 9 t36) fun t37 =>
     P.oV 38 (evBin T0 .eql 9 true t37 (.s [])) fun t38 =>
     k t36 t37 t38 sx3) sx3 fun t36 t37 t38 sx4 =>
    P.oV 39 (evPick t34 (some t38) (some (.b false))) fun t39 =>
    Q t39 sx4)
   (P.oV 40 (evOff 0 t1) fun t40 =>
    P.oV 41 (evLoad T0 sx1.h 3 t40) fun t41 =>
    P.oV 42 (evBin T0 .eql 3 true t41 (.i .i64 3)) fun t42 =>
    P.oG [44, 45, 46] t42 true (fun (k : C3) => P.oV 44 (evOff 1 t1) fun t44 =>
     P.oV 45 (evLoad T0 sx1.h 9 t44) fun t45 =>
     P.oC 46 62 [t45] sx1 fun t46 sx2 =>
     k t44 t45 t46 sx2) sx1 fun t44 t45 t46 sx2 =>
    P.oV 47 (evPick t42 (some t46) (some (.b false))) fun t47 =>
    P.oG [49, 50, 51] t47 true (fun (k : C3) => P.oV 49 (evOff 3 t1) fun t49 =>
     P.oV 50 (evLoad T0 sx2.h 9 t49) fun t50 =>
     P.oC 51 63 [t50] sx2 fun t51 sx3 =>
     k t49 t50 t51 sx3) sx2 fun t49 t50 t51 sx3 =>
    P.oV 52 (evPick t47 (some t51) (some (.b false))) fun t52 =>
    P.oG [54, 55, 56] t52 true (fun (k : C3) => P.oV 54 (evOff 2 t1) fun t54 =>
     P.oV 55 (evLoad T0 sx3.h 3 t54) fun t55 =>
     P.oV 56 (evBin T0 .eql 3 true t55 (.i .i64 0)) fun t56 =>
     k t54 t55 t56 sx3) sx3 fun t54 t55 t56 sx4 =>
    P.oV 57 (evPick t52 (some t56) (some (.b false))) fun t57 =>
    Q t57 sx4))
theorem w36_eq (P : Prims) (a0 : AV) (Q : AV → AS → Prop) : w36 P a0 Q = vcBody P T0 Go.Proofs.Tryz.f36 (codeOf Go.Proofs.Tryz.f36) an36 [a0] ⟨.nil, 0⟩ Q := by kernel_rfl
theorem r36 (a0 : AV) {r : AV} (hi : AV.idfree.idfrees [a0] = true) (hn : AV.norm.norms [a0] = [a0]) (h : w36 (prims T0) a0 (fun r1 s1 => oZ T0 s1 r1 (fun r2 => r2 = r))) : R T0 36 [a0] r :=
  R.mk (by kernel_rfl) (by kernel_rfl) (show T0.fn 36 = some Go.Proofs.Tryz.f36 by kernel_rfl) (by kernel_rfl) (by kernel_rfl) hi hn (by rw [w36_eq] at h; exact h)
/- slices.Equal[[]orchestrator/api.Step,orchestrator/api.Step] -/
def an37 : AN := (.seq none .leaf (.seq none (.seq none .leaf (.two (.seq none .leaf .leaf) .leaf)) (.seq none (.seq none .leaf (.one (.loop [1, 0, 12, 13] (.seq none .leaf (.seq none (.two .leaf .leaf) (.seq none (.one (.seq none .leaf (.seq none .leaf (.two (.seq none .leaf .leaf) .leaf)))) .leaf)))))) (.seq none .leaf .leaf))))
def w37 (P : Prims) (a0 a1 : AV) (Q : AV → AS → Prop) : Prop :=
  P.oV 7 (evBuiltin T0 Tr.nil .len [22] [a0]) fun t7 =>
  P.oV 9 (evBuiltin T0 Tr.nil .len [22] [a1]) fun t9 =>
  P.oV 10 (evBin T0 .neq 3 false t7 t9) fun t10 =>
  P.oI t10 (Q (.b false) ⟨Tr.nil, 0⟩)
  (P.oV 12 (evBuiltin T0 Tr.nil .len [22] [a0]) fun t12 =>
   P.oL [1, 0, 12, 13] (fun (next : C4) t1 t0 t12x1 t13 sx1 =>
   P.oV 14 (evBin T0 .lss 3 false t13 t12x1) fun t14 =>
   P.oI t14 (P.oV 18 (evIndexAddr T0 22 t0 t13) fun t18 =>
    P.oV 19 (evLoad T0 sx1.h 50 t18) fun t19 =>
    P.oV 22 (evIndexAddr T0 22 t1 t13) fun t22 =>
    P.oV 23 (evLoad T0 sx1.h 50 t22) fun t23 =>
    P.oV 24 (evBin T0 .neq 50 false t19 t23) fun t24 =>
    P.oI t24 (Q (.b false) sx1)
    (P.oV 25 (evBin T0 .add 3 true t13 (.i .i64 1)) fun t25 =>
     next t1 t0 t12x1 t25 sx1))
   (Q (.b true) sx1)) a1 a0 t12 (.i .i64 0) ⟨Tr.nil, 0⟩)
theorem w37_eq (P : Prims) (a0 a1 : AV) (Q : AV → AS → Prop) : w37 P a0 a1 Q = vcBody P T0 Go.Proofs.Tryz.f37 (codeOf Go.Proofs.Tryz.f37) an37 [a0, a1] ⟨.nil, 0⟩ Q := by kernel_rfl
theorem r37 (a0 a1 : AV) {r : AV} (hi : AV.idfree.idfrees [a0, a1] = true) (hn : AV.norm.norms [a0, a1] = [a0, a1]) (h : w37 (prims T0) a0 a1 (fun r1 s1 => oZ T0 s1 r1 (fun r2 => r2 = r))) : R T0 37 [a0, a1] r :=
  R.mk (by kernel_rfl) (by kernel_rfl) (show T0.fn 37 = some Go.Proofs.Tryz.f37 by kernel_rfl) (by kernel_rfl) (by kernel_rfl) hi hn (by rw [w37_eq] at h; exact h)
/- orchestrator/value.Valid -/
def an54 : AN := (.seq none .leaf (.seq none .leaf .leaf))
def w54 (P : Prims) (a0 : AV) (Q : AV → AS → Prop) : Prop :=
  P.oN 1 (.cells (AV.cells a0) 35 false) (fun id => (.ptr id 0)) ⟨Tr.nil, 0⟩ fun t1 sx1 =>
  P.oV 3 (evLoad T0 sx1.h 35 t1) fun t3 =>
  P.oC 4 83 [t3, (.i .i64 12)] sx1 fun t4 sx2 =>
  P.oG [6, 7, 8] t4 true (fun (k : C3) => P.oV 6 (evLoad T0 sx2.h 35 t1) fun t6 =>
   P.oC 7 84 [t6] sx2 fun t7 sx3 =>
   P.oV 8 (evBin T0 .leq 3 true t7 (.i .i64 600)) fun t8 =>
   k t6 t7 t8 sx3) sx2 fun t6 t7 t8 sx3 =>
  P.oV 9 (evPick t4 (some t8) (some (.b false))) fun t9 =>
  Q t9 sx3
theorem w54_eq (P : Prims) (a0 : AV) (Q : AV → AS → Prop) : w54 P a0 Q = vcBody P T0 Go.Proofs.Tryz.f54 (codeOf Go.Proofs.Tryz.f54) an54 [a0] ⟨.nil, 0⟩ Q := by kernel_rfl
theorem r54 (a0 : AV) {r : AV} (hi : AV.idfree.idfrees [a0] = true) (hn : AV.norm.norms [a0] = [a0]) (h : w54 (prims T0) a0 (fun r1 s1 => oZ T0 s1 r1 (fun r2 => r2 = r))) : R T0 54 [a0] r :=
  R.mk (by kernel_rfl) (by kernel_rfl) (show T0.fn 54 = some Go.Proofs.Tryz.f54 by kernel_rfl) (by kernel_rfl) (by kernel_rfl) hi hn (by rw [w54_eq] at h; exact h)
/- orchestrator/orchestratorref04.valid -/
/- orchestrator/orchestratorref04.Size -/
/- slices.IndexFunc[[]orchestrator/api.Step,orchestrator/api.Step] -/
def an59 : AN := (.seq none .leaf (.seq none (.seq none .leaf (.one (.loop [0, 1, 7, 8] (.seq none .leaf (.seq none (.two .leaf .leaf) (.seq none (.one (.seq none .leaf (.seq none .leaf (.two (.seq none .leaf .leaf) .leaf)))) .leaf)))))) (.seq none .leaf .leaf)))
def w59 (P : Prims) (a0 a1 : AV) (Q : AV → AS → Prop) : Prop :=
  P.oV 7 (evBuiltin T0 Tr.nil .len [22] [a0]) fun t7 =>
  P.oL [0, 1, 7, 8] (fun (next : C4) t0 t1 t7x1 t8 sx1 =>
  P.oV 9 (evBin T0 .lss 3 false t8 t7x1) fun t9 =>
  P.oI t9 (P.oV 14 (evIndexAddr T0 22 t0 t8) fun t14 =>
   P.oV 15 (evLoad T0 sx1.h 50 t14) fun t15 =>
   P.oF 16 t1 [t15] sx1 fun t16 sx2 =>
   P.oI t16 (Q t8 sx2)
   (P.oV 18 (evBin T0 .add 3 true t8 (.i .i64 1)) fun t18 =>
    next t0 t1 t7x1 t18 sx2))
  (Q (.i .i64 (-1)) sx1)) a0 a1 t7 (.i .i64 0) ⟨Tr.nil, 0⟩
theorem w59_eq (P : Prims) (a0 a1 : AV) (Q : AV → AS → Prop) : w59 P a0 a1 Q = vcBody P T0 Go.Proofs.Tryz.f59 (codeOf Go.Proofs.Tryz.f59) an59 [a0, a1] ⟨.nil, 0⟩ Q := by kernel_rfl
theorem r59 (a0 a1 : AV) {r : AV} (hi : AV.idfree.idfrees [a0, a1] = true) (hn : AV.norm.norms [a0, a1] = [a0, a1]) (h : w59 (prims T0) a0 a1 (fun r1 s1 => oZ T0 s1 r1 (fun r2 => r2 = r))) : R T0 59 [a0, a1] r :=
  R.mk (by kernel_rfl) (by kernel_rfl) (show T0.fn 59 = some Go.Proofs.Tryz.f59 by kernel_rfl) (by kernel_rfl) (by kernel_rfl) hi hn (by rw [w59_eq] at h; exact h)
/- orchestrator/path.validName -/
def an60 : AN := (.seq none .leaf (.seq none (.seq none .leaf (.one (.loop [0, 6] (.seq none .leaf (.seq none (.two .leaf .leaf) (.one (.seq none .leaf (.seq none .leaf (.two (.seq none .leaf .leaf) .leaf))))))))) (.seq none .leaf .leaf)))
def w60 (P : Prims) (a0 : AV) (Q : AV → AS → Prop) : Prop :=
  P.oE (evRange T0 9 a0) fun b f =>
  P.oN 6 b f ⟨Tr.nil, 0⟩ fun t6 sx1 =>
  P.oL [0, 6] (fun (next : C2) t0 t6x1 sx2 =>
  P.oM 7 (evNext sx2 t6x1) fun t7 sx3 =>
  P.oV 8 (evExtract 0 t7) fun t8 =>
  P.oI t8 (P.oV 9 (evExtract 2 t7) fun t9 =>
   P.oC 11 66 [t9] sx3 fun t11 sx4 =>
   P.oV 12 (evUn .not t11) fun t12 =>
   P.oI t12 (Q (.b false) sx4)
   (next t0 t6x1 sx4))
  (P.oV 14 (evBin T0 .neq 9 true t0 (.s [])) fun t14 =>
   P.oG [16, 17, 18] t14 true (fun (k : C3) => P.oV 17 (evBuiltin T0 sx3.h .len [9] [t0]) fun t17 =>
    P.oV 18 (evBin T0 .leq 3 true t17 (.i .i64 40)) fun t18 =>
    k t0 t17 t18 sx3) sx3 fun t16 t17 t18 sx4 =>
   P.oV 19 (evPick t14 (some t18) (some (.b false))) fun t19 =>
   Q t19 sx4)) a0 t6 sx1
theorem w60_eq (P : Prims) (a0 : AV) (Q : AV → AS → Prop) : w60 P a0 Q = vcBody P T0 Go.Proofs.Tryz.f60 (codeOf Go.Proofs.Tryz.f60) an60 [a0] ⟨.nil, 0⟩ Q := by kernel_rfl
theorem r60 (a0 : AV) {r : AV} (hi : AV.idfree.idfrees [a0] = true) (hn : AV.norm.norms [a0] = [a0]) (h : w60 (prims T0) a0 (fun r1 s1 => oZ T0 s1 r1 (fun r2 => r2 = r))) : R T0 60 [a0] r :=
  R.mk (by kernel_rfl) (by kernel_rfl) (show T0.fn 60 = some Go.Proofs.Tryz.f60 by kernel_rfl) (by kernel_rfl) (by kernel_rfl) hi hn (by rw [w60_eq] at h; exact h)
/- orchestrator/value.String -/
def an61 : AN := (.seq none .leaf (.seq none .leaf .leaf))
def w61 (P : Prims) (a0 : AV) (Q : AV → AS → Prop) : Prop :=
  P.oN 2 (.cells [(.i .i64 0), (.i .i64 0), (.s []), (.nilz true), (.nilz true)] 35 false) (fun id => (.ptr id 0)) ⟨Tr.nil, 0⟩ fun t2 sx1 =>
  P.oV 4 (evBuild T0 35 [(0, (.i .i64 3)), (2, a0)]) fun t4 =>
  P.oH (evStore T0 sx1.h 35 t2 t4) sx1 fun sx2 =>
  P.oV 2 (evLoad T0 sx2.h 35 t2) fun t2x1 =>
  Q t2x1 sx2
theorem w61_eq (P : Prims) (a0 : AV) (Q : AV → AS → Prop) : w61 P a0 Q = vcBody P T0 Go.Proofs.Tryz.f61 (codeOf Go.Proofs.Tryz.f61) an61 [a0] ⟨.nil, 0⟩ Q := by kernel_rfl
theorem r61 (a0 : AV) {r : AV} (hi : AV.idfree.idfrees [a0] = true) (hn : AV.norm.norms [a0] = [a0]) (h : w61 (prims T0) a0 (fun r1 s1 => oZ T0 s1 r1 (fun r2 => r2 = r))) : R T0 61 [a0] r :=
  R.mk (by kernel_rfl) (by kernel_rfl) (show T0.fn 61 = some Go.Proofs.Tryz.f61 by kernel_rfl) (by kernel_rfl) (by kernel_rfl) hi hn (by rw [w61_eq] at h; exact h)
/- orchestrator/orchestratorref06.validName -/
def an62 : AN := (.seq none .leaf (.seq none (.seq none .leaf (.one (.loop [0, 3] (.seq none (.seq none .leaf (.two .leaf .leaf)) (.seq none (.one (.seq none .leaf (.two (.seq none .leaf .leaf) .leaf))) .leaf))))) (.seq none .leaf .leaf)))
def w62 (P : Prims) (a0 : AV) (Q : AV → AS → Prop) : Prop :=
  P.oL [0, 3] (fun (next : C2) t0 t3 sx1 =>
  P.oV 6 (evBuiltin T0 sx1.h .len [9] [t0]) fun t6 =>
  P.oV 7 (evBin T0 .lss 3 false t3 t6) fun t7 =>
  P.oI t7 (P.oV 12 (evIndex T0 9 t0 t3) fun t12 =>
   P.oC 13 93 [t12] sx1 fun t13 sx2 =>
   P.oV 14 (evUn .not t13) fun t14 =>
   P.oI t14 (Q (.b false) sx2)
   (P.oV 9 (evBin T0 .add 3 true t3 (.i .i64 1)) fun t9 =>
    next t0 t9 sx2))
  (P.oV 16 (evBuiltin T0 sx1.h .len [9] [t0]) fun t16 =>
   P.oV 17 (evBin T0 .gtr 3 true t16 (.i .i64 0)) fun t17 =>
   P.oG [19, 20, 21] t17 true (fun (k : C3) => P.oV 20 (evBuiltin T0 sx1.h .len [9] [t0]) fun t20 =>
    P.oV 21 (evBin T0 .leq 3 true t20 (.i .i64 40)) fun t21 =>
    k t0 t20 t21 sx1) sx1 fun t19 t20 t21 sx2 =>
   P.oV 22 (evPick t17 (some t21) (some (.b false))) fun t22 =>
   Q t22 sx2)) a0 (.i .i64 0) ⟨Tr.nil, 0⟩
theorem w62_eq (P : Prims) (a0 : AV) (Q : AV → AS → Prop) : w62 P a0 Q = vcBody P T0 Go.Proofs.Tryz.f62 (codeOf Go.Proofs.Tryz.f62) an62 [a0] ⟨.nil, 0⟩ Q := by kernel_rfl
theorem r62 (a0 : AV) {r : AV} (hi : AV.idfree.idfrees [a0] = true) (hn : AV.norm.norms [a0] = [a0]) (h : w62 (prims T0) a0 (fun r1 s1 => oZ T0 s1 r1 (fun r2 => r2 = r))) : R T0 62 [a0] r :=
  R.mk (by kernel_rfl) (by kernel_rfl) (show T0.fn 62 = some Go.Proofs.Tryz.f62 by kernel_rfl) (by kernel_rfl) (by kernel_rfl) hi hn (by rw [w62_eq] at h; exact h)
/- orchestrator/orchestratorref06.validString -/
def an63 : AN := (.seq none .leaf (.seq none (.seq none .leaf (.one (.loop [0, 3] (.seq none (.seq none .leaf (.two .leaf .leaf)) (.seq none (.one (.seq none .leaf (.two (.seq none .leaf .leaf) .leaf))) .leaf))))) (.seq none .leaf .leaf)))
def w63 (P : Prims) (a0 : AV) (Q : AV → AS → Prop) : Prop :=
  P.oL [0, 3] (fun (next : C2) t0 t3 sx1 =>
  P.oV 6 (evBuiltin T0 sx1.h .len [9] [t0]) fun t6 =>
  P.oV 7 (evBin T0 .lss 3 false t3 t6) fun t7 =>
  P.oI t7 (P.oV 12 (evIndex T0 9 t0 t3) fun t12 =>
   P.oV 13 (evBin T0 .neq 5 true t12 (.i .u8 10)) fun t13 =>
   P.oG [15, 16, 17, 18, 19] t13 true (fun (k : C5) => P.oV 17 (evIndex T0 9 t0 t3) fun t17 =>
    P.oV 18 (evBin T0 .lss 5 true t17 (.i .u8 32)) fun t18 =>
    k t0 t3 t17 t18 t18 sx1) sx1 fun t15 t16 t17 t18 t19 sx2 =>
   P.oG [20, 21, 22, 23] t19 false (fun (k : C4) => P.oV 22 (evIndex T0 9 t0 t3) fun t22 =>
    P.oV 23 (evBin T0 .gtr 5 true t22 (.i .u8 126)) fun t23 =>
    k t0 t3 t22 t23 sx2) sx2 fun t20 t21 t22 t23 sx3 =>
   P.oG [24] t13 true (fun (k : C1) => P.oV 24 (evPick t19 (some (.b true)) (some t23)) fun t24 =>
    k t24 sx3) sx3 fun t24 sx4 =>
   P.oV 25 (evPick t13 (some t24) (some (.b false))) fun t25 =>
   P.oI t25 (Q (.b false) sx4)
   (P.oV 9 (evBin T0 .add 3 true t3 (.i .i64 1)) fun t9 =>
    next t0 t9 sx4))
  (P.oV 27 (evBuiltin T0 sx1.h .len [9] [t0]) fun t27 =>
   P.oV 28 (evBin T0 .leq 3 true t27 (.i .i64 200)) fun t28 =>
   Q t28 sx1)) a0 (.i .i64 0) ⟨Tr.nil, 0⟩
theorem w63_eq (P : Prims) (a0 : AV) (Q : AV → AS → Prop) : w63 P a0 Q = vcBody P T0 Go.Proofs.Tryz.f63 (codeOf Go.Proofs.Tryz.f63) an63 [a0] ⟨.nil, 0⟩ Q := by kernel_rfl
theorem r63 (a0 : AV) {r : AV} (hi : AV.idfree.idfrees [a0] = true) (hn : AV.norm.norms [a0] = [a0]) (h : w63 (prims T0) a0 (fun r1 s1 => oZ T0 s1 r1 (fun r2 => r2 = r))) : R T0 63 [a0] r :=
  R.mk (by kernel_rfl) (by kernel_rfl) (show T0.fn 63 = some Go.Proofs.Tryz.f63 by kernel_rfl) (by kernel_rfl) (by kernel_rfl) hi hn (by rw [w63_eq] at h; exact h)
/- orchestrator/path.nameRune -/
def an66 : AN := (.seq none .leaf (.seq none .leaf .leaf))
def w66 (P : Prims) (a0 : AV) (Q : AV → AS → Prop) : Prop :=
  P.oV 4 (evBin T0 .geq 21 true a0 (.i .i32 97)) fun t4 =>
  P.oG [6, 7] t4 true (fun (k : C2) => P.oV 7 (evBin T0 .leq 21 true a0 (.i .i32 122)) fun t7 =>
   k a0 t7 ⟨Tr.nil, 0⟩) ⟨Tr.nil, 0⟩ fun t6 t7 sx1 =>
  P.oV 8 (evPick t4 (some t7) (some (.b false))) fun t8 =>
  P.oG [10, 11, 12] t8 false (fun (k : C3) => P.oV 11 (evBin T0 .geq 21 true a0 (.i .i32 65)) fun t11 =>
   k a0 t11 t11 sx1) sx1 fun t10 t11 t12 sx2 =>
  P.oG [13, 14] t12 true (fun (k : C2) => P.oV 14 (evBin T0 .leq 21 true a0 (.i .i32 90)) fun t14 =>
   k a0 t14 sx2) sx2 fun t13 t14 sx3 =>
  P.oG [15] t8 false (fun (k : C1) => P.oV 15 (evPick t12 (some t14) (some (.b false))) fun t15 =>
   k t15 sx3) sx3 fun t15 sx4 =>
  P.oV 16 (evPick t8 (some (.b true)) (some t15)) fun t16 =>
  P.oG [18, 19, 20] t16 false (fun (k : C3) => P.oV 19 (evBin T0 .geq 21 true a0 (.i .i32 48)) fun t19 =>
   k a0 t19 t19 sx4) sx4 fun t18 t19 t20 sx5 =>
  P.oG [21, 22] t20 true (fun (k : C2) => P.oV 22 (evBin T0 .leq 21 true a0 (.i .i32 57)) fun t22 =>
   k a0 t22 sx5) sx5 fun t21 t22 sx6 =>
  P.oG [23] t16 false (fun (k : C1) => P.oV 23 (evPick t20 (some t22) (some (.b false))) fun t23 =>
   k t23 sx6) sx6 fun t23 sx7 =>
  P.oV 24 (evPick t16 (some (.b true)) (some t23)) fun t24 =>
  P.oG [26, 27] t24 false (fun (k : C2) => P.oV 27 (evBin T0 .eql 21 true a0 (.i .i32 45)) fun t27 =>
   k a0 t27 sx7) sx7 fun t26 t27 sx8 =>
  P.oV 28 (evPick t24 (some (.b true)) (some t27)) fun t28 =>
  P.oG [30, 31] t28 false (fun (k : C2) => P.oV 31 (evBin T0 .eql 21 true a0 (.i .i32 95)) fun t31 =>
   k a0 t31 sx8) sx8 fun t30 t31 sx9 =>
  P.oV 32 (evPick t28 (some (.b true)) (some t31)) fun t32 =>
  P.oG [34, 35] t32 false (fun (k : C2) => P.oV 35 (evBin T0 .eql 21 true a0 (.i .i32 47)) fun t35 =>
   k a0 t35 sx9) sx9 fun t34 t35 sx10 =>
  P.oV 36 (evPick t32 (some (.b true)) (some t35)) fun t36 =>
  Q t36 sx10
theorem w66_eq (P : Prims) (a0 : AV) (Q : AV → AS → Prop) : w66 P a0 Q = vcBody P T0 Go.Proofs.Tryz.f66 (codeOf Go.Proofs.Tryz.f66) an66 [a0] ⟨.nil, 0⟩ Q := by kernel_rfl
theorem r66 (a0 : AV) {r : AV} (hi : AV.idfree.idfrees [a0] = true) (hn : AV.norm.norms [a0] = [a0]) (h : w66 (prims T0) a0 (fun r1 s1 => oZ T0 s1 r1 (fun r2 => r2 = r))) : R T0 66 [a0] r :=
  R.mk (by kernel_rfl) (by kernel_rfl) (show T0.fn 66 = some Go.Proofs.Tryz.f66 by kernel_rfl) (by kernel_rfl) (by kernel_rfl) hi hn (by rw [w66_eq] at h; exact h)
/- orchestrator/value.valid -/
def an83 : AN := (.seq none .leaf (.seq none (.seq none .leaf (.two (.seq none .leaf .leaf) .leaf)) (.seq none (.seq none .leaf (.one (.loop [1, 2, 51, 52, 53] (.seq none .leaf (.seq none (.two .leaf .leaf) (.seq none (.one (.seq none .leaf (.seq none .leaf (.two (.seq none .leaf .leaf) .leaf)))) .leaf)))))) (.seq none (.seq none .leaf (.one (.loop [1, 2, 64, 65, 66] (.seq none .leaf (.seq none (.two .leaf .leaf) (.seq none (.one (.seq none .leaf (.seq none .leaf (.two (.seq none .leaf .leaf) .leaf)))) .leaf)))))) (.seq none .leaf .leaf)))))
def w83 (P : Prims) (a0 a1 : AV) (Q : AV → AS → Prop) : Prop :=
  P.oN 2 (.cells (AV.cells a0) 35 false) (fun id => (.ptr id 0)) ⟨Tr.nil, 0⟩ fun t2 sx1 =>
  P.oV 10 (evBin T0 .eql 3 true a1 (.i .i64 0)) fun t10 =>
  P.oG [12, 13, 14] t10 false (fun (k : C3) => P.oV 12 (evLoad T0 sx1.h 35 t2) fun t12 =>
   P.oC 13 102 [t12] sx1 fun t13 sx2 =>
   P.oV 14 (evUn .not t13) fun t14 =>
   k t12 t13 t14 sx2) sx1 fun t12 t13 t14 sx2 =>
  P.oV 15 (evPick t10 (some (.b true)) (some t14)) fun t15 =>
  P.oG [17, 18, 19, 20] t15 false (fun (k : C4) => P.oV 17 (evOff 0 t2) fun t17 =>
   P.oV 18 (evLoad T0 sx2.h 3 t17) fun t18 =>
   P.oV 19 (evBin T0 .neq 3 true t18 (.i .i64 4)) fun t19 =>
   k t17 t18 t19 t19 sx2) sx2 fun t17 t18 t19 t20 sx3 =>
  P.oG [21, 22, 23, 24] t20 true (fun (k : C4) => P.oV 21 (evOff 3 t2) fun t21 =>
   P.oV 22 (evLoad T0 sx3.h 32 t21) fun t22 =>
   P.oV 23 (evBuiltin T0 sx3.h .len [32] [t22]) fun t23 =>
   P.oV 24 (evBin T0 .gtr 3 true t23 (.i .i64 0)) fun t24 =>
   k t21 t22 t23 t24 sx3) sx3 fun t21 t22 t23 t24 sx4 =>
  P.oG [25] t15 false (fun (k : C1) => P.oV 25 (evPick t20 (some t24) (some (.b false))) fun t25 =>
   k t25 sx4) sx4 fun t25 sx5 =>
  P.oV 26 (evPick t15 (some (.b true)) (some t25)) fun t26 =>
  P.oG [28, 29, 30, 31] t26 false (fun (k : C4) => P.oV 28 (evOff 0 t2) fun t28 =>
   P.oV 29 (evLoad T0 sx5.h 3 t28) fun t29 =>
   P.oV 30 (evBin T0 .neq 3 true t29 (.i .i64 5)) fun t30 =>
   k t28 t29 t30 t30 sx5) sx5 fun t28 t29 t30 t31 sx6 =>
  P.oG [32, 33, 34, 35] t31 true (fun (k : C4) => P.oV 32 (evOff 4 t2) fun t32 =>
   P.oV 33 (evLoad T0 sx6.h 33 t32) fun t33 =>
   P.oV 34 (evBuiltin T0 sx6.h .len [33] [t33]) fun t34 =>
   P.oV 35 (evBin T0 .gtr 3 true t34 (.i .i64 0)) fun t35 =>
   k t32 t33 t34 t35 sx6) sx6 fun t32 t33 t34 t35 sx7 =>
  P.oG [36] t26 false (fun (k : C1) => P.oV 36 (evPick t31 (some t35) (some (.b false))) fun t36 =>
   k t36 sx7) sx7 fun t36 sx8 =>
  P.oV 37 (evPick t26 (some (.b true)) (some t36)) fun t37 =>
  P.oG [39, 40, 41, 42] t37 false (fun (k : C4) => P.oV 39 (evOff 3 t2) fun t39 =>
   P.oV 40 (evLoad T0 sx8.h 32 t39) fun t40 =>
   P.oV 41 (evBuiltin T0 sx8.h .len [32] [t40]) fun t41 =>
   P.oV 42 (evBin T0 .gtr 3 true t41 (.i .i64 64)) fun t42 =>
   k t39 t40 t41 t42 sx8) sx8 fun t39 t40 t41 t42 sx9 =>
  P.oV 43 (evPick t37 (some (.b true)) (some t42)) fun t43 =>
  P.oG [45, 46, 47, 48] t43 false (fun (k : C4) => P.oV 45 (evOff 4 t2) fun t45 =>
   P.oV 46 (evLoad T0 sx9.h 33 t45) fun t46 =>
   P.oV 47 (evBuiltin T0 sx9.h .len [33] [t46]) fun t47 =>
   P.oV 48 (evBin T0 .gtr 3 true t47 (.i .i64 64)) fun t48 =>
   k t45 t46 t47 t48 sx9) sx9 fun t45 t46 t47 t48 sx10 =>
  P.oV 49 (evPick t43 (some (.b true)) (some t48)) fun t49 =>
  P.oI t49 (Q (.b false) sx10)
  (P.oV 50 (evOff 3 t2) fun t50 =>
   P.oV 51 (evLoad T0 sx10.h 32 t50) fun t51 =>
   P.oV 52 (evBuiltin T0 sx10.h .len [32] [t51]) fun t52 =>
   P.oL [1, 2, 51, 52, 53] (fun (next : C5) t1 t2x1 t51x1 t52x1 t53 sx11 =>
   P.oV 54 (evBin T0 .lss 3 false t53 t52x1) fun t54 =>
   P.oI t54 (P.oV 55 (evIndexAddr T0 32 t51x1 t53) fun t55 =>
    P.oV 56 (evLoad T0 sx11.h 35 t55) fun t56 =>
    P.oN 6 (.cells [(.i .i64 0), (.i .i64 0), (.s []), (.nilz true), (.nilz true)] 35 false) (fun id => (.ptr id 0)) sx11 fun t6 sx12 =>
    P.oH (evStore T0 sx12.h 35 t6 t56) sx12 fun sx13 =>
    P.oV 57 (evLoad T0 sx13.h 35 t6) fun t57 =>
    P.oV 59 (evBin T0 .sub 3 true t1 (.i .i64 1)) fun t59 =>
    P.oC 60 83 [t57, t59] sx13 fun t60 sx14 =>
    P.oV 61 (evUn .not t60) fun t61 =>
    P.oI t61 (Q (.b false) sx14)
    (P.oV 62 (evBin T0 .add 3 true t53 (.i .i64 1)) fun t62 =>
     next t1 t2x1 t51x1 t52x1 t62 sx14))
   (P.oV 63 (evOff 4 t2x1) fun t63 =>
    P.oV 64 (evLoad T0 sx11.h 33 t63) fun t64 =>
    P.oV 65 (evBuiltin T0 sx11.h .len [33] [t64]) fun t65 =>
    P.oL [1, 2, 64, 65, 66] (fun (nextx1 : C5) t1x1 t2x2 t64x1 t65x1 t66 sx12 =>
    P.oV 67 (evBin T0 .lss 3 false t66 t65x1) fun t67 =>
    P.oI t67 (P.oV 69 (evIndexAddr T0 33 t64x1 t66) fun t69 =>
     P.oV 70 (evLoad T0 sx12.h 52 t69) fun t70 =>
     P.oN 8 (.cells [(.s []), (.i .i64 0), (.i .i64 0), (.s []), (.nilz true), (.nilz true)] 52 false) (fun id => (.ptr id 0)) sx12 fun t8 sx13 =>
     P.oH (evStore T0 sx13.h 52 t8 t70) sx13 fun sx14 =>
     P.oV 71 (evOff 0 t8) fun t71 =>
     P.oV 72 (evLoad T0 sx14.h 9 t71) fun t72 =>
     P.oC 73 103 [t72] sx14 fun t73 sx15 =>
     P.oV 74 (evUn .not t73) fun t74 =>
     P.oG [76, 77, 78] t74 false (fun (k : C3) => P.oV 77 (evBin T0 .gtr 3 true t66 (.i .i64 0)) fun t77 =>
      k t66 t77 t77 sx14) sx14 fun t76 t77 t78 sx16 =>
     P.oG [79, 80, 81, 82, 83, 84, 85, 86, 87, 88] t78 true (fun (k : C10) => P.oV 79 (evOff 4 t2x2) fun t79 =>
      P.oV 80 (evLoad T0 sx14.h 33 t79) fun t80 =>
      P.oV 82 (evBin T0 .sub 3 true t66 (.i .i64 1)) fun t82 =>
      P.oV 83 (evIndexAddr T0 33 t80 t82) fun t83 =>
      P.oV 84 (evOff 0 t83) fun t84 =>
      P.oV 85 (evLoad T0 sx14.h 9 t84) fun t85 =>
      P.oV 86 (evOff 0 t8) fun t86 =>
      P.oV 87 (evLoad T0 sx14.h 9 t86) fun t87 =>
      P.oV 88 (evBin T0 .geq 9 false t85 t87) fun t88 =>
      k t79 t80 t66 t82 t83 t84 t85 t86 t87 t88 sx14) sx14 fun t79 t80 t81 t82 t83 t84 t85 t86 t87 t88 sx17 =>
     P.oG [89] t74 false (fun (k : C1) => P.oV 89 (evPick t78 (some t88) (some (.b false))) fun t89 =>
      k t89 sx14) sx14 fun t89 sx18 =>
     P.oV 90 (evPick t74 (some (.b true)) (some t89)) fun t90 =>
     P.oG [92, 93, 94, 95, 96, 97] t90 false (fun (k : C6) => P.oV 92 (evOff 1 t8) fun t92 =>
      P.oV 93 (evLoad T0 sx14.h 35 t92) fun t93 =>
      P.oV 95 (evBin T0 .sub 3 true t1x1 (.i .i64 1)) fun t95 =>
      P.oC 96 83 [t93, t95] sx14 fun t96 sx19 =>
      P.oV 97 (evUn .not t96) fun t97 =>
      k t92 t93 t1x1 t95 t96 t97 sx14) sx14 fun t92 t93 t94 t95 t96 t97 sx19 =>
     P.oV 98 (evPick t90 (some (.b true)) (some t97)) fun t98 =>
     P.oI t98 (Q (.b false) sx14)
     (P.oV 99 (evBin T0 .add 3 true t66 (.i .i64 1)) fun t99 =>
      nextx1 t1x1 t2x2 t64x1 t65x1 t99 sx14))
    (Q (.b true) sx12)) t1 t2x1 t64 t65 (.i .i64 0) sx11)) a1 t2 t51 t52 (.i .i64 0) sx10)
theorem w83_eq (P : Prims) (a0 a1 : AV) (Q : AV → AS → Prop) : w83 P a0 a1 Q = vcBody P T0 Go.Proofs.Tryz.f83 (codeOf Go.Proofs.Tryz.f83) an83 [a0, a1] ⟨.nil, 0⟩ Q := by kernel_rfl
theorem r83 (a0 a1 : AV) {r : AV} (hi : AV.idfree.idfrees [a0, a1] = true) (hn : AV.norm.norms [a0, a1] = [a0, a1]) (h : w83 (prims T0) a0 a1 (fun r1 s1 => oZ T0 s1 r1 (fun r2 => r2 = r))) : R T0 83 [a0, a1] r :=
  R.mk (by kernel_rfl) (by kernel_rfl) (show T0.fn 83 = some Go.Proofs.Tryz.f83 by kernel_rfl) (by kernel_rfl) (by kernel_rfl) hi hn (by rw [w83_eq] at h; exact h)
/- orchestrator/value.Size -/
def an84 : AN := (.seq none .leaf (.seq none .leaf (.seq none (.seq none .leaf (.one (.loop [3, 1, 9, 10, 11] (.seq none .leaf (.seq none (.two .leaf .leaf) (.seq none (.one (.seq none .leaf .leaf)) .leaf)))))) (.seq none (.seq none .leaf (.one (.loop [3, 21, 22, 23] (.seq none .leaf (.seq none (.two .leaf .leaf) (.seq none (.one (.seq none .leaf .leaf)) .leaf)))))) (.seq none .leaf .leaf)))))
def w84 (P : Prims) (a0 : AV) (Q : AV → AS → Prop) : Prop :=
  P.oN 1 (.cells (AV.cells a0) 35 false) (fun id => (.ptr id 0)) ⟨Tr.nil, 0⟩ fun t1 sx1 =>
  P.oV 8 (evOff 3 t1) fun t8 =>
  P.oV 9 (evLoad T0 sx1.h 32 t8) fun t9 =>
  P.oV 10 (evBuiltin T0 sx1.h .len [32] [t9]) fun t10 =>
  P.oL [3, 1, 9, 10, 11] (fun (next : C5) t3 t1x1 t9x1 t10x1 t11 sx2 =>
  P.oV 12 (evBin T0 .lss 3 false t11 t10x1) fun t12 =>
  P.oI t12 (P.oV 13 (evIndexAddr T0 32 t9x1 t11) fun t13 =>
   P.oV 14 (evLoad T0 sx2.h 35 t13) fun t14 =>
   P.oN 5 (.cells [(.i .i64 0), (.i .i64 0), (.s []), (.nilz true), (.nilz true)] 35 false) (fun id => (.ptr id 0)) sx2 fun t5 sx3 =>
   P.oH (evStore T0 sx3.h 35 t5 t14) sx3 fun sx4 =>
   P.oV 16 (evLoad T0 sx4.h 35 t5) fun t16 =>
   P.oC 17 84 [t16] sx4 fun t17 sx5 =>
   P.oV 18 (evBin T0 .add 3 false t3 t17) fun t18 =>
   P.oV 19 (evBin T0 .add 3 true t11 (.i .i64 1)) fun t19 =>
   next t18 t1x1 t9x1 t10x1 t19 sx5)
  (P.oV 20 (evOff 4 t1x1) fun t20 =>
   P.oV 21 (evLoad T0 sx2.h 33 t20) fun t21 =>
   P.oV 22 (evBuiltin T0 sx2.h .len [33] [t21]) fun t22 =>
   P.oL [3, 21, 22, 23] (fun (nextx1 : C4) t3x1 t21x1 t22x1 t23 sx3 =>
   P.oV 24 (evBin T0 .lss 3 false t23 t22x1) fun t24 =>
   P.oI t24 (P.oV 25 (evIndexAddr T0 33 t21x1 t23) fun t25 =>
    P.oV 26 (evLoad T0 sx3.h 52 t25) fun t26 =>
    P.oN 7 (.cells [(.s []), (.i .i64 0), (.i .i64 0), (.s []), (.nilz true), (.nilz true)] 52 false) (fun id => (.ptr id 0)) sx3 fun t7 sx4 =>
    P.oH (evStore T0 sx4.h 52 t7 t26) sx4 fun sx5 =>
    P.oV 28 (evOff 1 t7) fun t28 =>
    P.oV 29 (evLoad T0 sx5.h 35 t28) fun t29 =>
    P.oC 30 84 [t29] sx5 fun t30 sx6 =>
    P.oV 31 (evBin T0 .add 3 false t3x1 t30) fun t31 =>
    P.oV 32 (evBin T0 .add 3 true t23 (.i .i64 1)) fun t32 =>
    nextx1 t31 t21x1 t22x1 t32 sx6)
   (Q t3x1 sx3)) t3 t21 t22 (.i .i64 0) sx2)) (.i .i64 1) t1 t9 t10 (.i .i64 0) sx1
theorem w84_eq (P : Prims) (a0 : AV) (Q : AV → AS → Prop) : w84 P a0 Q = vcBody P T0 Go.Proofs.Tryz.f84 (codeOf Go.Proofs.Tryz.f84) an84 [a0] ⟨.nil, 0⟩ Q := by kernel_rfl
theorem r84 (a0 : AV) {r : AV} (hi : AV.idfree.idfrees [a0] = true) (hn : AV.norm.norms [a0] = [a0]) (h : w84 (prims T0) a0 (fun r1 s1 => oZ T0 s1 r1 (fun r2 => r2 = r))) : R T0 84 [a0] r :=
  R.mk (by kernel_rfl) (by kernel_rfl) (show T0.fn 84 = some Go.Proofs.Tryz.f84 by kernel_rfl) (by kernel_rfl) (by kernel_rfl) hi hn (by rw [w84_eq] at h; exact h)
/- orchestrator/orchestratorref04.scalar -/
/- orchestrator/orchestratorref04.ValidField -/
def an92 : AN := (.seq none .leaf (.seq none (.seq none .leaf (.one (.loop [0, 3] (.seq none (.seq none .leaf (.two .leaf .leaf)) (.seq none (.one (.seq none .leaf (.seq none .leaf (.seq none .leaf (.two (.seq none .leaf .leaf) .leaf))))) .leaf))))) (.seq none .leaf .leaf)))
def w92 (P : Prims) (a0 : AV) (Q : AV → AS → Prop) : Prop :=
  P.oL [0, 3] (fun (next : C2) t0 t3 sx1 =>
  P.oV 8 (evBuiltin T0 sx1.h .len [9] [t0]) fun t8 =>
  P.oV 9 (evBin T0 .lss 3 false t3 t8) fun t9 =>
  P.oI t9 (P.oV 14 (evIndex T0 9 t0 t3) fun t14 =>
   P.oV 16 (evBin T0 .geq 5 true t14 (.i .u8 97)) fun t16 =>
   P.oG [18, 19] t16 true (fun (k : C2) => P.oV 19 (evBin T0 .leq 5 true t14 (.i .u8 122)) fun t19 =>
    k t14 t19 sx1) sx1 fun t18 t19 sx2 =>
   P.oV 20 (evPick t16 (some t19) (some (.b false))) fun t20 =>
   P.oG [22, 23, 24] t20 false (fun (k : C3) => P.oV 23 (evBin T0 .geq 5 true t14 (.i .u8 65)) fun t23 =>
    k t14 t23 t23 sx2) sx2 fun t22 t23 t24 sx3 =>
   P.oG [25, 26] t24 true (fun (k : C2) => P.oV 26 (evBin T0 .leq 5 true t14 (.i .u8 90)) fun t26 =>
    k t14 t26 sx3) sx3 fun t25 t26 sx4 =>
   P.oG [27] t20 false (fun (k : C1) => P.oV 27 (evPick t24 (some t26) (some (.b false))) fun t27 =>
    k t27 sx4) sx4 fun t27 sx5 =>
   P.oV 28 (evPick t20 (some (.b true)) (some t27)) fun t28 =>
   P.oV 30 (evUn .not t28) fun t30 =>
   P.oG [32, 33, 34] t30 true (fun (k : C3) => P.oV 33 (evBin T0 .geq 5 true t14 (.i .u8 48)) fun t33 =>
    k t14 t33 t33 sx5) sx5 fun t32 t33 t34 sx6 =>
   P.oG [35, 36] t34 true (fun (k : C2) => P.oV 36 (evBin T0 .leq 5 true t14 (.i .u8 57)) fun t36 =>
    k t14 t36 sx6) sx6 fun t35 t36 sx7 =>
   P.oG [37, 38] t30 true (fun (k : C2) => P.oV 37 (evPick t34 (some t36) (some (.b false))) fun t37 =>
    P.oV 38 (evUn .not t37) fun t38 =>
    k t37 t38 sx7) sx7 fun t37 t38 sx8 =>
   P.oV 39 (evPick t30 (some t38) (some (.b false))) fun t39 =>
   P.oG [41, 42] t39 true (fun (k : C2) => P.oV 42 (evBin T0 .neq 5 true t14 (.i .u8 45)) fun t42 =>
    k t14 t42 sx8) sx8 fun t41 t42 sx9 =>
   P.oV 43 (evPick t39 (some t42) (some (.b false))) fun t43 =>
   P.oG [45, 46] t43 true (fun (k : C2) => P.oV 46 (evBin T0 .neq 5 true t14 (.i .u8 95)) fun t46 =>
    k t14 t46 sx9) sx9 fun t45 t46 sx10 =>
   P.oV 47 (evPick t43 (some t46) (some (.b false))) fun t47 =>
   P.oG [49, 50] t47 true (fun (k : C2) => P.oV 50 (evBin T0 .neq 5 true t14 (.i .u8 47)) fun t50 =>
    k t14 t50 sx10) sx10 fun t49 t50 sx11 =>
   P.oV 51 (evPick t47 (some t50) (some (.b false))) fun t51 =>
   P.oI t51 (Q (.b false) sx11)
   (P.oV 11 (evBin T0 .add 3 true t3 (.i .i64 1)) fun t11 =>
    next t0 t11 sx11))
  (P.oV 53 (evBuiltin T0 sx1.h .len [9] [t0]) fun t53 =>
   P.oV 54 (evBin T0 .geq 3 true t53 (.i .i64 1)) fun t54 =>
   P.oG [56, 57, 58] t54 true (fun (k : C3) => P.oV 57 (evBuiltin T0 sx1.h .len [9] [t0]) fun t57 =>
    P.oV 58 (evBin T0 .leq 3 true t57 (.i .i64 40)) fun t58 =>
    k t0 t57 t58 sx1) sx1 fun t56 t57 t58 sx2 =>
   P.oV 59 (evPick t54 (some t58) (some (.b false))) fun t59 =>
   Q t59 sx2)) a0 (.i .i64 0) ⟨Tr.nil, 0⟩
theorem w92_eq (P : Prims) (a0 : AV) (Q : AV → AS → Prop) : w92 P a0 Q = vcBody P T0 Go.Proofs.Tryz.f92 (codeOf Go.Proofs.Tryz.f92) an92 [a0] ⟨.nil, 0⟩ Q := by kernel_rfl
theorem r92 (a0 : AV) {r : AV} (hi : AV.idfree.idfrees [a0] = true) (hn : AV.norm.norms [a0] = [a0]) (h : w92 (prims T0) a0 (fun r1 s1 => oZ T0 s1 r1 (fun r2 => r2 = r))) : R T0 92 [a0] r :=
  R.mk (by kernel_rfl) (by kernel_rfl) (show T0.fn 92 = some Go.Proofs.Tryz.f92 by kernel_rfl) (by kernel_rfl) (by kernel_rfl) hi hn (by rw [w92_eq] at h; exact h)
/- orchestrator/orchestratorref06.NameChar -/
def an93 : AN := (.seq none .leaf (.seq none .leaf .leaf))
def w93 (P : Prims) (a0 : AV) (Q : AV → AS → Prop) : Prop :=
  P.oV 4 (evBin T0 .geq 5 true a0 (.i .u8 97)) fun t4 =>
  P.oG [6, 7] t4 true (fun (k : C2) => P.oV 7 (evBin T0 .leq 5 true a0 (.i .u8 122)) fun t7 =>
   k a0 t7 ⟨Tr.nil, 0⟩) ⟨Tr.nil, 0⟩ fun t6 t7 sx1 =>
  P.oV 8 (evPick t4 (some t7) (some (.b false))) fun t8 =>
  P.oG [10, 11, 12] t8 false (fun (k : C3) => P.oV 11 (evBin T0 .geq 5 true a0 (.i .u8 65)) fun t11 =>
   k a0 t11 t11 sx1) sx1 fun t10 t11 t12 sx2 =>
  P.oG [13, 14] t12 true (fun (k : C2) => P.oV 14 (evBin T0 .leq 5 true a0 (.i .u8 90)) fun t14 =>
   k a0 t14 sx2) sx2 fun t13 t14 sx3 =>
  P.oG [15] t8 false (fun (k : C1) => P.oV 15 (evPick t12 (some t14) (some (.b false))) fun t15 =>
   k t15 sx3) sx3 fun t15 sx4 =>
  P.oV 16 (evPick t8 (some (.b true)) (some t15)) fun t16 =>
  P.oG [18, 19, 20] t16 false (fun (k : C3) => P.oV 19 (evBin T0 .geq 5 true a0 (.i .u8 48)) fun t19 =>
   k a0 t19 t19 sx4) sx4 fun t18 t19 t20 sx5 =>
  P.oG [21, 22] t20 true (fun (k : C2) => P.oV 22 (evBin T0 .leq 5 true a0 (.i .u8 57)) fun t22 =>
   k a0 t22 sx5) sx5 fun t21 t22 sx6 =>
  P.oG [23] t16 false (fun (k : C1) => P.oV 23 (evPick t20 (some t22) (some (.b false))) fun t23 =>
   k t23 sx6) sx6 fun t23 sx7 =>
  P.oV 24 (evPick t16 (some (.b true)) (some t23)) fun t24 =>
  P.oG [26, 27] t24 false (fun (k : C2) => P.oV 27 (evBin T0 .eql 5 true a0 (.i .u8 45)) fun t27 =>
   k a0 t27 sx7) sx7 fun t26 t27 sx8 =>
  P.oV 28 (evPick t24 (some (.b true)) (some t27)) fun t28 =>
  P.oG [30, 31] t28 false (fun (k : C2) => P.oV 31 (evBin T0 .eql 5 true a0 (.i .u8 95)) fun t31 =>
   k a0 t31 sx8) sx8 fun t30 t31 sx9 =>
  P.oV 32 (evPick t28 (some (.b true)) (some t31)) fun t32 =>
  P.oG [34, 35] t32 false (fun (k : C2) => P.oV 35 (evBin T0 .eql 5 true a0 (.i .u8 47)) fun t35 =>
   k a0 t35 sx9) sx9 fun t34 t35 sx10 =>
  P.oV 36 (evPick t32 (some (.b true)) (some t35)) fun t36 =>
  Q t36 sx10
theorem w93_eq (P : Prims) (a0 : AV) (Q : AV → AS → Prop) : w93 P a0 Q = vcBody P T0 Go.Proofs.Tryz.f93 (codeOf Go.Proofs.Tryz.f93) an93 [a0] ⟨.nil, 0⟩ Q := by kernel_rfl
theorem r93 (a0 : AV) {r : AV} (hi : AV.idfree.idfrees [a0] = true) (hn : AV.norm.norms [a0] = [a0]) (h : w93 (prims T0) a0 (fun r1 s1 => oZ T0 s1 r1 (fun r2 => r2 = r))) : R T0 93 [a0] r :=
  R.mk (by kernel_rfl) (by kernel_rfl) (show T0.fn 93 = some Go.Proofs.Tryz.f93 by kernel_rfl) (by kernel_rfl) (by kernel_rfl) hi hn (by rw [w93_eq] at h; exact h)
/- orchestrator/value.scalar -/
def an102 : AN := (.seq none .leaf (.seq none (.seq none .leaf (.one (.seq none .leaf (.two (.seq none .leaf .leaf) (.seq none .leaf (.two (.seq none .leaf .leaf) (.seq none .leaf (.two (.seq none .leaf .leaf) (.seq (some [1, 45]) (.seq none .leaf (.two .leaf (.seq none .leaf (.two .leaf .leaf)))) (.two (.seq none .leaf .leaf) .leaf)))))))))) (.seq none .leaf .leaf)))
def w102 (P : Prims) (a0 : AV) (Q : AV → AS → Prop) : Prop :=
  P.oN 1 (.cells (AV.cells a0) 35 false) (fun id => (.ptr id 0)) ⟨Tr.nil, 0⟩ fun t1 sx1 =>
  P.oV 3 (evOff 0 t1) fun t3 =>
  P.oV 4 (evLoad T0 sx1.h 3 t3) fun t4 =>
  P.oV 6 (evBin T0 .eql 3 true t4 (.i .i64 1)) fun t6 =>
  P.oI t6 (P.oV 7 (evOff 2 t1) fun t7 =>
   P.oV 8 (evLoad T0 sx1.h 9 t7) fun t8 =>
   P.oV 9 (evBin T0 .eql 9 true t8 (.s [])) fun t9 =>
   P.oG [11, 12, 13, 14] t9 true (fun (k : C4) => P.oV 11 (evOff 1 t1) fun t11 =>
    P.oV 12 (evLoad T0 sx1.h 3 t11) fun t12 =>
    P.oV 13 (evBin T0 .eql 3 true t12 (.i .i64 0)) fun t13 =>
    k t11 t12 t13 t13 sx1) sx1 fun t11 t12 t13 t14 sx2 =>
   P.oG [15, 16, 17] t14 false (fun (k : C3) => P.oV 15 (evOff 1 t1) fun t15 =>
    P.oV 16 (evLoad T0 sx2.h 3 t15) fun t16 =>
    P.oV 17 (evBin T0 .eql 3 true t16 (.i .i64 1)) fun t17 =>
    k t15 t16 t17 sx2) sx2 fun t15 t16 t17 sx3 =>
   P.oG [18] t9 true (fun (k : C1) => P.oV 18 (evPick t14 (some (.b true)) (some t17)) fun t18 =>
    k t18 sx3) sx3 fun t18 sx4 =>
   P.oV 19 (evPick t9 (some t18) (some (.b false))) fun t19 =>
   Q t19 sx4)
  (P.oV 21 (evBin T0 .eql 3 true t4 (.i .i64 2)) fun t21 =>
   P.oI t21 (P.oV 22 (evOff 2 t1) fun t22 =>
    P.oV 23 (evLoad T0 sx1.h 9 t22) fun t23 =>
    P.oV 24 (evBin T0 .eql 9 true t23 (.s [])) fun t24 =>
    P.oG [26, 27, 28] t24 true (fun (k : C3) => P.oV 26 (evOff 1 t1) fun t26 =>
     P.oV 27 (evLoad T0 sx1.h 3 t26) fun t27 =>
     P.oV 28 (evBin T0 .geq 3 true t27 (.i .i64 (-1000000000000000))) fun t28 =>
     k t26 t27 t28 sx1) sx1 fun t26 t27 t28 sx2 =>
    P.oV 29 (evPick t24 (some t28) (some (.b false))) fun t29 =>
    P.oG [31, 32, 33] t29 true (fun (k : C3) => P.oV 31 (evOff 1 t1) fun t31 =>
     P.oV 32 (evLoad T0 sx2.h 3 t31) fun t32 =>
     P.oV 33 (evBin T0 .leq 3 true t32 (.i .i64 1000000000000000)) fun t33 =>
     k t31 t32 t33 sx2) sx2 fun t31 t32 t33 sx3 =>
    P.oV 34 (evPick t29 (some t33) (some (.b false))) fun t34 =>
    Q t34 sx3)
   (P.oV 36 (evBin T0 .eql 3 true t4 (.i .i64 3)) fun t36 =>
    P.oI t36 (P.oV 37 (evOff 1 t1) fun t37 =>
     P.oV 38 (evLoad T0 sx1.h 3 t37) fun t38 =>
     P.oV 39 (evBin T0 .eql 3 true t38 (.i .i64 0)) fun t39 =>
     P.oG [41, 42, 43] t39 true (fun (k : C3) => P.oV 41 (evOff 2 t1) fun t41 =>
      P.oV 42 (evLoad T0 sx1.h 9 t41) fun t42 =>
      P.oC 43 119 [t42] sx1 fun t43 sx2 =>
      k t41 t42 t43 sx2) sx1 fun t41 t42 t43 sx2 =>
     P.oV 44 (evPick t39 (some t43) (some (.b false))) fun t44 =>
     Q t44 sx2)
    (P.oJ [1, 45] (fun (k : C2) =>
      P.oV 46 (evBin T0 .eql 3 true t4 (.i .i64 0)) fun t46 =>
      P.oI t46 (k t1 t46 sx1)
      (P.oV 47 (evBin T0 .eql 3 true t4 (.i .i64 4)) fun t47 =>
       P.oI t47 (k t1 t47 sx1)
       (P.oV 48 (evBin T0 .eql 3 true t4 (.i .i64 5)) fun t48 =>
        k t1 t48 sx1)))
     (fun t1x1 t45 sx2 =>
     P.oI t45 (P.oV 49 (evOff 1 t1x1) fun t49 =>
      P.oV 50 (evLoad T0 sx2.h 3 t49) fun t50 =>
      P.oV 51 (evBin T0 .eql 3 true t50 (.i .i64 0)) fun t51 =>
      P.oG [53, 54, 55] t51 true (fun (k : C3) => P.oV 53 (evOff 2 t1x1) fun t53 =>
       P.oV 54 (evLoad T0 sx2.h 9 t53) fun t54 =>
       P.oV 55 (evBin T0 .eql 9 true t54 (.s [])) fun t55 =>
       k t53 t54 t55 sx2) sx2 fun t53 t54 t55 sx3 =>
      P.oV 56 (evPick t51 (some t55) (some (.b false))) fun t56 =>
      Q t56 sx3)
     (Q (.b false) sx2)))))
theorem w102_eq (P : Prims) (a0 : AV) (Q : AV → AS → Prop) : w102 P a0 Q = vcBody P T0 Go.Proofs.Tryz.f102 (codeOf Go.Proofs.Tryz.f102) an102 [a0] ⟨.nil, 0⟩ Q := by kernel_rfl
theorem r102 (a0 : AV) {r : AV} (hi : AV.idfree.idfrees [a0] = true) (hn : AV.norm.norms [a0] = [a0]) (h : w102 (prims T0) a0 (fun r1 s1 => oZ T0 s1 r1 (fun r2 => r2 = r))) : R T0 102 [a0] r :=
  R.mk (by kernel_rfl) (by kernel_rfl) (show T0.fn 102 = some Go.Proofs.Tryz.f102 by kernel_rfl) (by kernel_rfl) (by kernel_rfl) hi hn (by rw [w102_eq] at h; exact h)
/- orchestrator/value.name -/
def an103 : AN := (.seq none .leaf (.seq none (.seq none .leaf (.one (.loop [0, 6, 7] (.seq none .leaf (.seq none (.two .leaf .leaf) (.seq none (.one (.seq none .leaf (.seq none .leaf (.seq none .leaf (.two (.seq none .leaf .leaf) .leaf))))) .leaf)))))) (.seq none .leaf .leaf)))
def w103 (P : Prims) (a0 : AV) (Q : AV → AS → Prop) : Prop :=
  P.oV 6 (evBuiltin T0 Tr.nil .len [9] [a0]) fun t6 =>
  P.oL [0, 6, 7] (fun (next : C3) t0 t6x1 t7 sx1 =>
  P.oV 8 (evBin T0 .lss 3 false t7 t6x1) fun t8 =>
  P.oI t8 (P.oV 12 (evIndex T0 9 t0 t7) fun t12 =>
   P.oV 14 (evBin T0 .geq 5 true t12 (.i .u8 97)) fun t14 =>
   P.oG [16, 17] t14 true (fun (k : C2) => P.oV 17 (evBin T0 .leq 5 true t12 (.i .u8 122)) fun t17 =>
    k t12 t17 sx1) sx1 fun t16 t17 sx2 =>
   P.oV 18 (evPick t14 (some t17) (some (.b false))) fun t18 =>
   P.oG [20, 21, 22] t18 false (fun (k : C3) => P.oV 21 (evBin T0 .geq 5 true t12 (.i .u8 65)) fun t21 =>
    k t12 t21 t21 sx2) sx2 fun t20 t21 t22 sx3 =>
   P.oG [23, 24] t22 true (fun (k : C2) => P.oV 24 (evBin T0 .leq 5 true t12 (.i .u8 90)) fun t24 =>
    k t12 t24 sx3) sx3 fun t23 t24 sx4 =>
   P.oG [25] t18 false (fun (k : C1) => P.oV 25 (evPick t22 (some t24) (some (.b false))) fun t25 =>
    k t25 sx4) sx4 fun t25 sx5 =>
   P.oV 26 (evPick t18 (some (.b true)) (some t25)) fun t26 =>
   P.oG [28, 29, 30] t26 false (fun (k : C3) => P.oV 29 (evBin T0 .geq 5 true t12 (.i .u8 48)) fun t29 =>
    k t12 t29 t29 sx5) sx5 fun t28 t29 t30 sx6 =>
   P.oG [31, 32] t30 true (fun (k : C2) => P.oV 32 (evBin T0 .leq 5 true t12 (.i .u8 57)) fun t32 =>
    k t12 t32 sx6) sx6 fun t31 t32 sx7 =>
   P.oG [33] t26 false (fun (k : C1) => P.oV 33 (evPick t30 (some t32) (some (.b false))) fun t33 =>
    k t33 sx7) sx7 fun t33 sx8 =>
   P.oV 34 (evPick t26 (some (.b true)) (some t33)) fun t34 =>
   P.oG [36, 37] t34 false (fun (k : C2) => P.oV 37 (evBin T0 .eql 5 true t12 (.i .u8 45)) fun t37 =>
    k t12 t37 sx8) sx8 fun t36 t37 sx9 =>
   P.oV 38 (evPick t34 (some (.b true)) (some t37)) fun t38 =>
   P.oG [40, 41] t38 false (fun (k : C2) => P.oV 41 (evBin T0 .eql 5 true t12 (.i .u8 95)) fun t41 =>
    k t12 t41 sx9) sx9 fun t40 t41 sx10 =>
   P.oV 42 (evPick t38 (some (.b true)) (some t41)) fun t42 =>
   P.oG [44, 45] t42 false (fun (k : C2) => P.oV 45 (evBin T0 .eql 5 true t12 (.i .u8 47)) fun t45 =>
    k t12 t45 sx10) sx10 fun t44 t45 sx11 =>
   P.oV 46 (evPick t42 (some (.b true)) (some t45)) fun t46 =>
   P.oV 47 (evUn .not t46) fun t47 =>
   P.oI t47 (Q (.b false) sx11)
   (P.oV 48 (evBin T0 .add 3 true t7 (.i .i64 1)) fun t48 =>
    next t0 t6x1 t48 sx11))
  (P.oV 50 (evBuiltin T0 sx1.h .len [9] [t0]) fun t50 =>
   P.oV 51 (evBin T0 .geq 3 true t50 (.i .i64 1)) fun t51 =>
   P.oG [53, 54, 55] t51 true (fun (k : C3) => P.oV 54 (evBuiltin T0 sx1.h .len [9] [t0]) fun t54 =>
    P.oV 55 (evBin T0 .leq 3 true t54 (.i .i64 40)) fun t55 =>
    k t0 t54 t55 sx1) sx1 fun t53 t54 t55 sx2 =>
   P.oV 56 (evPick t51 (some t55) (some (.b false))) fun t56 =>
   Q t56 sx2)) a0 t6 (.i .i64 0) ⟨Tr.nil, 0⟩
theorem w103_eq (P : Prims) (a0 : AV) (Q : AV → AS → Prop) : w103 P a0 Q = vcBody P T0 Go.Proofs.Tryz.f103 (codeOf Go.Proofs.Tryz.f103) an103 [a0] ⟨.nil, 0⟩ Q := by kernel_rfl
theorem r103 (a0 : AV) {r : AV} (hi : AV.idfree.idfrees [a0] = true) (hn : AV.norm.norms [a0] = [a0]) (h : w103 (prims T0) a0 (fun r1 s1 => oZ T0 s1 r1 (fun r2 => r2 = r))) : R T0 103 [a0] r :=
  R.mk (by kernel_rfl) (by kernel_rfl) (show T0.fn 103 = some Go.Proofs.Tryz.f103 by kernel_rfl) (by kernel_rfl) (by kernel_rfl) hi hn (by rw [w103_eq] at h; exact h)
/- orchestrator/orchestratorref04.ValidString -/
/- orchestrator/value.text -/
def an119 : AN := (.seq none .leaf (.seq none (.seq none .leaf (.one (.loop [0, 5, 6] (.seq none .leaf (.seq none (.two .leaf .leaf) (.seq none (.one (.seq none .leaf (.seq none .leaf (.two (.seq none .leaf .leaf) .leaf)))) .leaf)))))) (.seq none .leaf .leaf)))
def w119 (P : Prims) (a0 : AV) (Q : AV → AS → Prop) : Prop :=
  P.oV 5 (evBuiltin T0 Tr.nil .len [9] [a0]) fun t5 =>
  P.oL [0, 5, 6] (fun (next : C3) t0 t5x1 t6 sx1 =>
  P.oV 7 (evBin T0 .lss 3 false t6 t5x1) fun t7 =>
  P.oI t7 (P.oV 11 (evIndex T0 9 t0 t6) fun t11 =>
   P.oV 12 (evBin T0 .neq 5 true t11 (.i .u8 10)) fun t12 =>
   P.oG [14, 15, 16, 17, 18] t12 true (fun (k : C5) => P.oV 16 (evIndex T0 9 t0 t6) fun t16 =>
    P.oV 17 (evBin T0 .lss 5 true t16 (.i .u8 32)) fun t17 =>
    k t0 t6 t16 t17 t17 sx1) sx1 fun t14 t15 t16 t17 t18 sx2 =>
   P.oG [19, 20, 21, 22] t18 false (fun (k : C4) => P.oV 21 (evIndex T0 9 t0 t6) fun t21 =>
    P.oV 22 (evBin T0 .gtr 5 true t21 (.i .u8 126)) fun t22 =>
    k t0 t6 t21 t22 sx2) sx2 fun t19 t20 t21 t22 sx3 =>
   P.oG [23] t12 true (fun (k : C1) => P.oV 23 (evPick t18 (some (.b true)) (some t22)) fun t23 =>
    k t23 sx3) sx3 fun t23 sx4 =>
   P.oV 24 (evPick t12 (some t23) (some (.b false))) fun t24 =>
   P.oI t24 (Q (.b false) sx4)
   (P.oV 25 (evBin T0 .add 3 true t6 (.i .i64 1)) fun t25 =>
    next t0 t5x1 t25 sx4))
  (P.oV 27 (evBuiltin T0 sx1.h .len [9] [t0]) fun t27 =>
   P.oV 28 (evBin T0 .leq 3 true t27 (.i .i64 200)) fun t28 =>
   Q t28 sx1)) a0 t5 (.i .i64 0) ⟨Tr.nil, 0⟩
theorem w119_eq (P : Prims) (a0 : AV) (Q : AV → AS → Prop) : w119 P a0 Q = vcBody P T0 Go.Proofs.Tryz.f119 (codeOf Go.Proofs.Tryz.f119) an119 [a0] ⟨.nil, 0⟩ Q := by kernel_rfl
theorem r119 (a0 : AV) {r : AV} (hi : AV.idfree.idfrees [a0] = true) (hn : AV.norm.norms [a0] = [a0]) (h : w119 (prims T0) a0 (fun r1 s1 => oZ T0 s1 r1 (fun r2 => r2 = r))) : R T0 119 [a0] r :=
  R.mk (by kernel_rfl) (by kernel_rfl) (show T0.fn 119 = some Go.Proofs.Tryz.f119 by kernel_rfl) (by kernel_rfl) (by kernel_rfl) hi hn (by rw [w119_eq] at h; exact h)

end Go.Proofs.YtmfhmlhaofpeiaaGreatDoor.Ev
