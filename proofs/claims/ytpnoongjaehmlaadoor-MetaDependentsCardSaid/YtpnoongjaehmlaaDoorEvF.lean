/- The functions' code, laid out. Printed by WP.lean.txt, a program of this session's. -/
import Derived.Test.YtpnoongjaehmlaaDoorEvTy
namespace Go.Proofs.YtpnoongjaehmlaaDoor.Ev
open Go Go.RowKit
set_option linter.unusedVariables false
set_option maxRecDepth 100000
/- orchestrator/orchestratorlaw13.MetaValid -/
def an3 : AN := (.seq none .leaf (.seq none (.seq none .leaf (.two (.seq none .leaf .leaf) .leaf)) (.seq none .leaf .leaf)))
def w3 (P : Prims) (a0 a1 : AV) (Q : AV → AS → Prop) : Prop :=
  P.oN 2 (.cells (AV.cells a0) 27 false) (fun id => (.ptr id 0)) ⟨Tr.nil, 0⟩ fun t2 sx1 =>
  P.oV 5 (evLoad T0 sx1.h 27 t2) fun t5 =>
  P.oV 6 (evBuild T0 34 [(0, t5)]) fun t6 =>
  P.oC 7 9 [t6] sx1 fun t7 sx2 =>
  P.oG [9, 10, 11] t7 false (fun (k : C3) => P.oV 10 (evBuiltin T0 sx2.h .len [9] [a1]) fun t10 =>
   P.oV 11 (evBin T0 .gtr 3 true t10 (.i .i64 300)) fun t11 =>
   k a1 t10 t11 sx2) sx2 fun t9 t10 t11 sx3 =>
  P.oV 12 (evPick t7 (some (.b true)) (some t11)) fun t12 =>
  P.oI t12 (P.oC 13 10 [] sx3 fun t13 sx4 =>
   Q t13 sx4)
  (P.oV 14 (evLoad T0 sx3.h 27 t2) fun t14 =>
   P.oC 15 11 [t14] sx3 fun t15 sx4 =>
   P.oV 16 (evLoad T0 sx3.h 27 t2) fun t16 =>
   P.oC 17 12 [t16] sx3 fun t17 sx5 =>
   P.oV 18 (evBin T0 .eql 4 false t15 t17) fun t18 =>
   P.oG [20, 21, 22, 23, 24] t18 true (fun (k : C5) => P.oC 21 13 [a1] sx3 fun t21 sx6 =>
    P.oC 23 14 [a1] sx3 fun t23 sx7 =>
    P.oV 24 (evBin T0 .eql 4 false t21 t23) fun t24 =>
    k a1 t21 a1 t23 t24 sx3) sx3 fun t20 t21 t22 t23 t24 sx6 =>
   P.oV 25 (evPick t18 (some t24) (some (.b false))) fun t25 =>
   P.oG [27] t25 true (fun (k : C1) => P.oC 27 10 [] sx3 fun t27 sx7 =>
    k t27 sx3) sx3 fun t27 sx7 =>
   P.oV 28 (evPick t25 (some t27) (some (.b false))) fun t28 =>
   Q t28 sx3)
theorem w3_eq (P : Prims) (a0 a1 : AV) (Q : AV → AS → Prop) : w3 P a0 a1 Q = vcBody P T0 Go.Proofs.Tryd.f3 (codeOf Go.Proofs.Tryd.f3) an3 [a0, a1] ⟨.nil, 0⟩ Q := by kernel_rfl
theorem r3 (a0 a1 : AV) {r : AV} (hi : AV.idfree.idfrees [a0, a1] = true) (hn : AV.norm.norms [a0, a1] = [a0, a1]) (h : w3 (prims T0) a0 a1 (fun r1 s1 => oZ T0 s1 r1 (fun r2 => r2 = r))) : R T0 3 [a0, a1] r :=
  R.mk (by kernel_rfl) (by kernel_rfl) (show T0.fn 3 = some Go.Proofs.Tryd.f3 by kernel_rfl) (by kernel_rfl) (by kernel_rfl) hi hn (by rw [w3_eq] at h; exact h)
/- orchestrator/orchestratorlaw13.MetaSplit -/
def an4 : AN := (.seq none .leaf (.seq none (.seq none .leaf (.two (.seq none .leaf .leaf) .leaf)) (.seq none .leaf (.seq none .leaf (.seq none (.seq none .leaf (.two (.seq none .leaf .leaf) .leaf)) (.seq none .leaf .leaf))))))
def w4 (P : Prims) (a0 : AV) (Q : AV → AS → Prop) : Prop :=
  P.oV 12 (evBuiltin T0 Tr.nil .len [9] [a0]) fun t12 =>
  P.oV 13 (evBin T0 .gtr 3 true t12 (.i .i64 300)) fun t13 =>
  P.oI t13 (P.oC 14 10 [] ⟨Tr.nil, 0⟩ fun t14 sx1 =>
   Q t14 sx1)
  (P.oC 17 15 [a0] ⟨Tr.nil, 0⟩ fun t17 sx1 =>
   P.oV 18 (evExtract 0 t17) fun t18 =>
   P.oV 19 (evExtract 1 t17) fun t19 =>
   P.oV 20 (evExtract 2 t17) fun t20 =>
   P.oV 21 (evExtract 3 t17) fun t21 =>
   P.oC 24 16 [a0] sx1 fun t24 sx2 =>
   P.oV 25 (evExtract 0 t24) fun t25 =>
   P.oV 26 (evExtract 1 t24) fun t26 =>
   P.oV 27 (evExtract 2 t24) fun t27 =>
   P.oV 28 (evExtract 3 t24) fun t28 =>
   P.oV 31 (evBin T0 .neq 9 false t18 t25) fun t31 =>
   P.oG [33, 34, 35] t31 false (fun (k : C3) => P.oV 35 (evBin T0 .neq 9 false t19 t26) fun t35 =>
    k t19 t26 t35 sx2) sx2 fun t33 t34 t35 sx3 =>
   P.oV 36 (evPick t31 (some (.b true)) (some t35)) fun t36 =>
   P.oG [38, 39, 40] t36 false (fun (k : C3) => P.oV 40 (evBin T0 .neq 9 false t20 t27) fun t40 =>
    k t20 t27 t40 sx3) sx3 fun t38 t39 t40 sx4 =>
   P.oV 41 (evPick t36 (some (.b true)) (some t40)) fun t41 =>
   P.oG [43, 44, 45] t41 false (fun (k : C3) => P.oV 45 (evBin T0 .neq 4 false t21 t28) fun t45 =>
    k t21 t28 t45 sx4) sx4 fun t43 t44 t45 sx5 =>
   P.oV 46 (evPick t41 (some (.b true)) (some t45)) fun t46 =>
   P.oI t46 (Q (.b false) sx5)
   (P.oV 48 (evUn .not t21) fun t48 =>
    P.oG [50, 51, 52, 53, 54, 55] t48 false (fun (k : C6) => P.oC 53 17 [t18, t19, t20] sx5 fun t53 sx6 =>
     P.oV 55 (evBin T0 .eql 9 false t53 a0) fun t55 =>
     k t18 t19 t20 t53 a0 t55 sx6) sx5 fun t50 t51 t52 t53 t54 t55 sx6 =>
    P.oV 56 (evPick t48 (some (.b true)) (some t55)) fun t56 =>
    P.oG [58] t56 true (fun (k : C1) => P.oC 58 10 [] sx6 fun t58 sx7 =>
     k t58 sx7) sx6 fun t58 sx7 =>
    P.oV 59 (evPick t56 (some t58) (some (.b false))) fun t59 =>
    Q t59 sx7))
theorem w4_eq (P : Prims) (a0 : AV) (Q : AV → AS → Prop) : w4 P a0 Q = vcBody P T0 Go.Proofs.Tryd.f4 (codeOf Go.Proofs.Tryd.f4) an4 [a0] ⟨.nil, 0⟩ Q := by kernel_rfl
theorem r4 (a0 : AV) {r : AV} (hi : AV.idfree.idfrees [a0] = true) (hn : AV.norm.norms [a0] = [a0]) (h : w4 (prims T0) a0 (fun r1 s1 => oZ T0 s1 r1 (fun r2 => r2 = r))) : R T0 4 [a0] r :=
  R.mk (by kernel_rfl) (by kernel_rfl) (show T0.fn 4 = some Go.Proofs.Tryd.f4 by kernel_rfl) (by kernel_rfl) (by kernel_rfl) hi hn (by rw [w4_eq] at h; exact h)
/- orchestrator/orchestratorlaw13.MetaEqual -/
def an5 : AN := (.seq none .leaf (.seq none (.seq none .leaf (.two (.seq none .leaf .leaf) .leaf)) (.seq none .leaf (.seq none .leaf (.seq none .leaf .leaf)))))
def w5 (P : Prims) (a0 a1 : AV) (Q : AV → AS → Prop) : Prop :=
  P.oN 2 (.cells (AV.cells a0) 34 false) (fun id => (.ptr id 0)) ⟨Tr.nil, 0⟩ fun t2 sx1 =>
  P.oN 3 (.cells (AV.cells a1) 34 false) (fun id => (.ptr id 0)) sx1 fun t3 sx2 =>
  P.oV 9 (evLoad T0 sx2.h 34 t2) fun t9 =>
  P.oC 10 9 [t9] sx2 fun t10 sx3 =>
  P.oG [12, 13] t10 false (fun (k : C2) => P.oV 12 (evLoad T0 sx3.h 34 t3) fun t12 =>
   P.oC 13 9 [t12] sx3 fun t13 sx4 =>
   k t12 t13 sx4) sx3 fun t12 t13 sx4 =>
  P.oV 14 (evPick t10 (some (.b true)) (some t13)) fun t14 =>
  P.oI t14 (P.oC 15 10 [] sx4 fun t15 sx5 =>
   Q t15 sx5)
  (P.oV 17 (evOff 0 t2) fun t17 =>
   P.oV 18 (evLoad T0 sx4.h 27 t17) fun t18 =>
   P.oC 19 18 [t18] sx4 fun t19 sx5 =>
   P.oV 20 (evExtract 0 t19) fun t20 =>
   P.oV 21 (evExtract 1 t19) fun t21 =>
   P.oN 5 (.cells [(.s []), (.s []), (.i .i64 0), (.b false), (.b false)] 43 false) (fun id => (.ptr id 0)) sx5 fun t5 sx6 =>
   P.oH (evStore T0 sx6.h 43 t5 t20) sx6 fun sx7 =>
   P.oV 23 (evOff 0 t2) fun t23 =>
   P.oV 24 (evLoad T0 sx7.h 27 t23) fun t24 =>
   P.oC 25 19 [t24] sx7 fun t25 sx8 =>
   P.oV 26 (evExtract 0 t25) fun t26 =>
   P.oV 27 (evExtract 1 t25) fun t27 =>
   P.oN 7 (.cells [(.s []), (.s []), (.i .i64 0), (.b false), (.b false)] 43 false) (fun id => (.ptr id 0)) sx8 fun t7 sx9 =>
   P.oH (evStore T0 sx9.h 43 t7 t26) sx9 fun sx10 =>
   P.oV 28 (evLoad T0 sx10.h 34 t2) fun t28 =>
   P.oV 29 (evLoad T0 sx10.h 34 t3) fun t29 =>
   P.oC 30 20 [t28, t29] sx10 fun t30 sx11 =>
   P.oV 31 (evLoad T0 sx10.h 34 t2) fun t31 =>
   P.oV 32 (evLoad T0 sx10.h 34 t3) fun t32 =>
   P.oC 33 21 [t31, t32] sx10 fun t33 sx12 =>
   P.oV 34 (evBin T0 .eql 4 false t30 t33) fun t34 =>
   P.oG [36, 37, 38] t34 true (fun (k : C3) => P.oV 36 (evLoad T0 sx10.h 34 t2) fun t36 =>
    P.oV 37 (evLoad T0 sx10.h 34 t2) fun t37 =>
    P.oC 38 20 [t36, t37] sx10 fun t38 sx13 =>
    k t36 t37 t38 sx10) sx10 fun t36 t37 t38 sx13 =>
   P.oV 39 (evPick t34 (some t38) (some (.b false))) fun t39 =>
   P.oG [41, 42, 43] t39 true (fun (k : C3) => P.oV 41 (evLoad T0 sx10.h 43 t5) fun t41 =>
    P.oV 42 (evLoad T0 sx10.h 43 t7) fun t42 =>
    P.oV 43 (evBin T0 .eql 43 false t41 t42) fun t43 =>
    k t41 t42 t43 sx10) sx10 fun t41 t42 t43 sx14 =>
   P.oV 44 (evPick t39 (some t43) (some (.b false))) fun t44 =>
   P.oG [46, 47, 48] t44 true (fun (k : C3) => P.oV 48 (evBin T0 .eql 4 false t21 t27) fun t48 =>
    k t21 t27 t48 sx10) sx10 fun t46 t47 t48 sx15 =>
   P.oV 49 (evPick t44 (some t48) (some (.b false))) fun t49 =>
   P.oG [51] t49 true (fun (k : C1) => P.oC 51 10 [] sx10 fun t51 sx16 =>
    k t51 sx10) sx10 fun t51 sx16 =>
   P.oV 52 (evPick t49 (some t51) (some (.b false))) fun t52 =>
   Q t52 sx10)
theorem w5_eq (P : Prims) (a0 a1 : AV) (Q : AV → AS → Prop) : w5 P a0 a1 Q = vcBody P T0 Go.Proofs.Tryd.f5 (codeOf Go.Proofs.Tryd.f5) an5 [a0, a1] ⟨.nil, 0⟩ Q := by kernel_rfl
theorem r5 (a0 a1 : AV) {r : AV} (hi : AV.idfree.idfrees [a0, a1] = true) (hn : AV.norm.norms [a0, a1] = [a0, a1]) (h : w5 (prims T0) a0 a1 (fun r1 s1 => oZ T0 s1 r1 (fun r2 => r2 = r))) : R T0 5 [a0, a1] r :=
  R.mk (by kernel_rfl) (by kernel_rfl) (show T0.fn 5 = some Go.Proofs.Tryd.f5 by kernel_rfl) (by kernel_rfl) (by kernel_rfl) hi hn (by rw [w5_eq] at h; exact h)
/- orchestrator/orchestratorlaw13.MetaChild -/
def an6 : AN := (.seq none .leaf (.seq none (.seq none .leaf (.two (.seq none .leaf .leaf) .leaf)) (.seq none .leaf .leaf)))
def w6 (P : Prims) (a0 a1 : AV) (Q : AV → AS → Prop) : Prop :=
  P.oV 6 (evBuiltin T0 Tr.nil .len [9] [a0]) fun t6 =>
  P.oV 7 (evBin T0 .gtr 3 true t6 (.i .i64 300)) fun t7 =>
  P.oI t7 (P.oC 8 10 [] ⟨Tr.nil, 0⟩ fun t8 sx1 =>
   Q t8 sx1)
  (P.oC 11 22 [a0, a1] ⟨Tr.nil, 0⟩ fun t11 sx1 =>
   P.oC 14 23 [a0, a1] sx1 fun t14 sx2 =>
   P.oV 15 (evBin T0 .eql 9 false t11 t14) fun t15 =>
   P.oG [17] t15 true (fun (k : C1) => P.oC 17 10 [] sx2 fun t17 sx3 =>
    k t17 sx3) sx2 fun t17 sx3 =>
   P.oV 18 (evPick t15 (some t17) (some (.b false))) fun t18 =>
   Q t18 sx3)
theorem w6_eq (P : Prims) (a0 a1 : AV) (Q : AV → AS → Prop) : w6 P a0 a1 Q = vcBody P T0 Go.Proofs.Tryd.f6 (codeOf Go.Proofs.Tryd.f6) an6 [a0, a1] ⟨.nil, 0⟩ Q := by kernel_rfl
theorem r6 (a0 a1 : AV) {r : AV} (hi : AV.idfree.idfrees [a0, a1] = true) (hn : AV.norm.norms [a0, a1] = [a0, a1]) (h : w6 (prims T0) a0 a1 (fun r1 s1 => oZ T0 s1 r1 (fun r2 => r2 = r))) : R T0 6 [a0, a1] r :=
  R.mk (by kernel_rfl) (by kernel_rfl) (show T0.fn 6 = some Go.Proofs.Tryd.f6 by kernel_rfl) (by kernel_rfl) (by kernel_rfl) hi hn (by rw [w6_eq] at h; exact h)
/- orchestrator/orchestratorlaw13.MetaDependents -/
def an7 : AN := (.seq none .leaf (.seq none (.seq none .leaf (.two (.seq none .leaf .leaf) .leaf)) (.seq none .leaf (.seq none (.seq none .leaf (.two (.seq none .leaf .leaf) .leaf)) (.seq none .leaf .leaf)))))
def w7 (P : Prims) (a0 a1 a2 : AV) (Q : AV → AS → Prop) : Prop :=
  P.oV 10 (evBuiltin T0 Tr.nil .len [9] [a0]) fun t10 =>
  P.oV 11 (evBin T0 .gtr 3 true t10 (.i .i64 300)) fun t11 =>
  P.oG [13, 14, 15] t11 false (fun (k : C3) => P.oC 14 13 [a0] ⟨Tr.nil, 0⟩ fun t14 sx1 =>
   P.oV 15 (evUn .not t14) fun t15 =>
   k a0 t14 t15 sx1) ⟨Tr.nil, 0⟩ fun t13 t14 t15 sx1 =>
  P.oV 16 (evPick t11 (some (.b true)) (some t15)) fun t16 =>
  P.oI t16 (P.oC 17 10 [] sx1 fun t17 sx2 =>
   Q t17 sx2)
  (P.oC 20 22 [a0, a1] sx1 fun t20 sx2 =>
   P.oC 23 22 [a0, a2] sx2 fun t23 sx3 =>
   P.oC 25 13 [t20] sx3 fun t25 sx4 =>
   P.oV 26 (evUn .not t25) fun t26 =>
   P.oG [28, 29, 30] t26 false (fun (k : C3) => P.oC 29 13 [t23] sx4 fun t29 sx5 =>
    P.oV 30 (evUn .not t29) fun t30 =>
    k t23 t29 t30 sx5) sx4 fun t28 t29 t30 sx5 =>
   P.oV 31 (evPick t26 (some (.b true)) (some t30)) fun t31 =>
   P.oI t31 (Q (.b false) sx5)
   (P.oV 33 (evBuiltin T0 sx5.h .len [9] [a0]) fun t33 =>
    P.oV 34 (evBin T0 .gtr 3 true t33 (.i .i64 20)) fun t34 =>
    P.oG [36, 37, 38, 39, 40, 41, 42, 43, 44] t34 false (fun (k : C9) => P.oV 38 (evBin T0 .eql 9 false t20 t23) fun t38 =>
     P.oV 40 (evBuiltin T0 sx5.h .max [3, 3] [a1, (.i .i64 0)]) fun t40 =>
     P.oV 42 (evBuiltin T0 sx5.h .max [3, 3] [a2, (.i .i64 0)]) fun t42 =>
     P.oV 43 (evBin T0 .eql 3 false t40 t42) fun t43 =>
     P.oV 44 (evBin T0 .eql 4 false t38 t43) fun t44 =>
     k t20 t23 t38 a1 t40 a2 t42 t43 t44 sx5) sx5 fun t36 t37 t38 t39 t40 t41 t42 t43 t44 sx6 =>
    P.oV 45 (evPick t34 (some (.b true)) (some t44)) fun t45 =>
    P.oG [47] t45 true (fun (k : C1) => P.oC 47 10 [] sx6 fun t47 sx7 =>
     k t47 sx7) sx6 fun t47 sx7 =>
    P.oV 48 (evPick t45 (some t47) (some (.b false))) fun t48 =>
    Q t48 sx7))
theorem w7_eq (P : Prims) (a0 a1 a2 : AV) (Q : AV → AS → Prop) : w7 P a0 a1 a2 Q = vcBody P T0 Go.Proofs.Tryd.f7 (codeOf Go.Proofs.Tryd.f7) an7 [a0, a1, a2] ⟨.nil, 0⟩ Q := by kernel_rfl
theorem r7 (a0 a1 a2 : AV) {r : AV} (hi : AV.idfree.idfrees [a0, a1, a2] = true) (hn : AV.norm.norms [a0, a1, a2] = [a0, a1, a2]) (h : w7 (prims T0) a0 a1 a2 (fun r1 s1 => oZ T0 s1 r1 (fun r2 => r2 = r))) : R T0 7 [a0, a1, a2] r :=
  R.mk (by kernel_rfl) (by kernel_rfl) (show T0.fn 7 = some Go.Proofs.Tryd.f7 by kernel_rfl) (by kernel_rfl) (by kernel_rfl) hi hn (by rw [w7_eq] at h; exact h)
/- orchestrator/orchestratorlaw13.MetaKeys -/
def an8 : AN := (.seq none .leaf (.seq none (.seq none .leaf (.two (.seq none .leaf .leaf) .leaf)) (.seq none .leaf (.seq none (.seq none .leaf (.two (.seq none .leaf .leaf) .leaf)) (.seq none .leaf (.seq none .leaf .leaf))))))
def w8 (P : Prims) (a0 a1 : AV) (Q : AV → AS → Prop) : Prop :=
  P.oN 2 (.cells (AV.cells a0) 27 false) (fun id => (.ptr id 0)) ⟨Tr.nil, 0⟩ fun t2 sx1 =>
  P.oN 3 (.cells (AV.cells a1) 27 false) (fun id => (.ptr id 0)) sx1 fun t3 sx2 =>
  P.oV 10 (evLoad T0 sx2.h 27 t2) fun t10 =>
  P.oV 11 (evBuild T0 34 [(0, t10)]) fun t11 =>
  P.oC 12 9 [t11] sx2 fun t12 sx3 =>
  P.oG [14, 15, 16] t12 false (fun (k : C3) => P.oV 14 (evLoad T0 sx3.h 27 t3) fun t14 =>
   P.oV 15 (evBuild T0 34 [(0, t14)]) fun t15 =>
   P.oC 16 9 [t15] sx3 fun t16 sx4 =>
   k t14 t15 t16 sx4) sx3 fun t14 t15 t16 sx4 =>
  P.oV 17 (evPick t12 (some (.b true)) (some t16)) fun t17 =>
  P.oG [19, 20, 21] t17 false (fun (k : C3) => P.oV 19 (evLoad T0 sx4.h 27 t2) fun t19 =>
   P.oC 20 11 [t19] sx4 fun t20 sx5 =>
   P.oV 21 (evUn .not t20) fun t21 =>
   k t19 t20 t21 sx5) sx4 fun t19 t20 t21 sx5 =>
  P.oV 22 (evPick t17 (some (.b true)) (some t21)) fun t22 =>
  P.oG [24, 25, 26] t22 false (fun (k : C3) => P.oV 24 (evLoad T0 sx5.h 27 t3) fun t24 =>
   P.oC 25 11 [t24] sx5 fun t25 sx6 =>
   P.oV 26 (evUn .not t25) fun t26 =>
   k t24 t25 t26 sx6) sx5 fun t24 t25 t26 sx6 =>
  P.oV 27 (evPick t22 (some (.b true)) (some t26)) fun t27 =>
  P.oI t27 (P.oC 28 10 [] sx6 fun t28 sx7 =>
   Q t28 sx7)
  (P.oV 30 (evLoad T0 sx6.h 27 t2) fun t30 =>
   P.oC 31 24 [t30] sx6 fun t31 sx7 =>
   P.oC 32 15 [t31] sx7 fun t32 sx8 =>
   P.oV 33 (evExtract 0 t32) fun t33 =>
   P.oV 34 (evExtract 1 t32) fun t34 =>
   P.oV 35 (evExtract 2 t32) fun t35 =>
   P.oV 36 (evExtract 3 t32) fun t36 =>
   P.oV 38 (evUn .not t36) fun t38 =>
   P.oG [40, 41, 42, 43] t38 false (fun (k : C4) => P.oV 41 (evOff 0 t2) fun t41 =>
    P.oV 42 (evLoad T0 sx8.h 9 t41) fun t42 =>
    P.oV 43 (evBin T0 .neq 9 false t33 t42) fun t43 =>
    k t33 t41 t42 t43 sx8) sx8 fun t40 t41 t42 t43 sx9 =>
   P.oV 44 (evPick t38 (some (.b true)) (some t43)) fun t44 =>
   P.oG [46, 47, 48, 49] t44 false (fun (k : C4) => P.oV 47 (evOff 1 t2) fun t47 =>
    P.oV 48 (evLoad T0 sx9.h 9 t47) fun t48 =>
    P.oV 49 (evBin T0 .neq 9 false t34 t48) fun t49 =>
    k t34 t47 t48 t49 sx9) sx9 fun t46 t47 t48 t49 sx10 =>
   P.oV 50 (evPick t44 (some (.b true)) (some t49)) fun t50 =>
   P.oG [52, 53, 54, 55] t50 false (fun (k : C4) => P.oV 53 (evOff 2 t2) fun t53 =>
    P.oV 54 (evLoad T0 sx10.h 9 t53) fun t54 =>
    P.oV 55 (evBin T0 .neq 9 false t35 t54) fun t55 =>
    k t35 t53 t54 t55 sx10) sx10 fun t52 t53 t54 t55 sx11 =>
   P.oV 56 (evPick t50 (some (.b true)) (some t55)) fun t56 =>
   P.oI t56 (Q (.b false) sx11)
   (P.oV 57 (evOff 0 t2) fun t57 =>
    P.oV 58 (evLoad T0 sx11.h 9 t57) fun t58 =>
    P.oV 59 (evOff 0 t3) fun t59 =>
    P.oV 60 (evLoad T0 sx11.h 9 t59) fun t60 =>
    P.oV 61 (evBin T0 .eql 9 false t58 t60) fun t61 =>
    P.oG [63, 64, 65, 66, 67] t61 true (fun (k : C5) => P.oV 63 (evOff 1 t2) fun t63 =>
     P.oV 64 (evLoad T0 sx11.h 9 t63) fun t64 =>
     P.oV 65 (evOff 1 t3) fun t65 =>
     P.oV 66 (evLoad T0 sx11.h 9 t65) fun t66 =>
     P.oV 67 (evBin T0 .eql 9 false t64 t66) fun t67 =>
     k t63 t64 t65 t66 t67 sx11) sx11 fun t63 t64 t65 t66 t67 sx12 =>
    P.oV 68 (evPick t61 (some t67) (some (.b false))) fun t68 =>
    P.oG [70, 71, 72, 73, 74] t68 true (fun (k : C5) => P.oV 70 (evOff 2 t2) fun t70 =>
     P.oV 71 (evLoad T0 sx12.h 9 t70) fun t71 =>
     P.oV 72 (evOff 2 t3) fun t72 =>
     P.oV 73 (evLoad T0 sx12.h 9 t72) fun t73 =>
     P.oV 74 (evBin T0 .eql 9 false t71 t73) fun t74 =>
     k t70 t71 t72 t73 t74 sx12) sx12 fun t70 t71 t72 t73 t74 sx13 =>
    P.oV 75 (evPick t68 (some t74) (some (.b false))) fun t75 =>
    P.oV 76 (evLoad T0 sx13.h 27 t2) fun t76 =>
    P.oC 77 24 [t76] sx13 fun t77 sx14 =>
    P.oV 78 (evLoad T0 sx13.h 27 t3) fun t78 =>
    P.oC 79 24 [t78] sx13 fun t79 sx15 =>
    P.oV 80 (evBin T0 .eql 9 false t77 t79) fun t80 =>
    P.oV 82 (evBin T0 .eql 4 false t80 t75) fun t82 =>
    P.oG [84] t82 true (fun (k : C1) => P.oC 84 10 [] sx13 fun t84 sx16 =>
     k t84 sx13) sx13 fun t84 sx16 =>
    P.oV 85 (evPick t82 (some t84) (some (.b false))) fun t85 =>
    Q t85 sx13))
theorem w8_eq (P : Prims) (a0 a1 : AV) (Q : AV → AS → Prop) : w8 P a0 a1 Q = vcBody P T0 Go.Proofs.Tryd.f8 (codeOf Go.Proofs.Tryd.f8) an8 [a0, a1] ⟨.nil, 0⟩ Q := by kernel_rfl
theorem r8 (a0 a1 : AV) {r : AV} (hi : AV.idfree.idfrees [a0, a1] = true) (hn : AV.norm.norms [a0, a1] = [a0, a1]) (h : w8 (prims T0) a0 a1 (fun r1 s1 => oZ T0 s1 r1 (fun r2 => r2 = r))) : R T0 8 [a0, a1] r :=
  R.mk (by kernel_rfl) (by kernel_rfl) (show T0.fn 8 = some Go.Proofs.Tryd.f8 by kernel_rfl) (by kernel_rfl) (by kernel_rfl) hi hn (by rw [w8_eq] at h; exact h)
/- orchestrator/orchestratorlaw13.heavy -/
def an9 : AN := (.seq none .leaf (.seq none .leaf (.seq none (.seq none .leaf (.two (.seq none .leaf .leaf) .leaf)) (.seq none (.seq none .leaf (.one (.loop [3, 4] (.seq none (.seq none .leaf (.two .leaf .leaf)) (.seq none (.one (.seq none .leaf (.two (.seq none .leaf .leaf) .leaf))) .leaf))))) (.seq none .leaf .leaf)))))
def w9 (P : Prims) (a0 : AV) (Q : AV → AS → Prop) : Prop :=
  P.oN 1 (.cells (AV.cells a0) 34 false) (fun id => (.ptr id 0)) ⟨Tr.nil, 0⟩ fun t1 sx1 =>
  P.oV 5 (evOff 0 t1) fun t5 =>
  P.oV 6 (evLoad T0 sx1.h 27 t5) fun t6 =>
  P.oN 3 (.cells [(.s []), (.s []), (.s []), (.i .i64 0), (.i .i64 0), (.i .i64 0), (.i .i64 0), (.b false), (.i .i64 0), (.nilz true), (.nilz true), (.nilz true), (.nilz true)] 27 false) (fun id => (.ptr id 0)) sx1 fun t3 sx2 =>
  P.oH (evStore T0 sx2.h 27 t3 t6) sx2 fun sx3 =>
  P.oV 7 (evOff 9 t3) fun t7 =>
  P.oV 8 (evLoad T0 sx3.h 22 t7) fun t8 =>
  P.oV 9 (evBuiltin T0 sx3.h .len [22] [t8]) fun t9 =>
  P.oV 10 (evBin T0 .gtr 3 true t9 (.i .i64 60)) fun t10 =>
  P.oG [12, 13, 14, 15] t10 false (fun (k : C4) => P.oV 12 (evOff 10 t3) fun t12 =>
   P.oV 13 (evLoad T0 sx3.h 23 t12) fun t13 =>
   P.oV 14 (evBuiltin T0 sx3.h .len [23] [t13]) fun t14 =>
   P.oV 15 (evBin T0 .gtr 3 true t14 (.i .i64 60)) fun t15 =>
   k t12 t13 t14 t15 sx3) sx3 fun t12 t13 t14 t15 sx4 =>
  P.oV 16 (evPick t10 (some (.b true)) (some t15)) fun t16 =>
  P.oG [18, 19, 20, 21] t16 false (fun (k : C4) => P.oV 18 (evOff 11 t3) fun t18 =>
   P.oV 19 (evLoad T0 sx4.h 24 t18) fun t19 =>
   P.oV 20 (evBuiltin T0 sx4.h .len [24] [t19]) fun t20 =>
   P.oV 21 (evBin T0 .gtr 3 true t20 (.i .i64 60)) fun t21 =>
   k t18 t19 t20 t21 sx4) sx4 fun t18 t19 t20 t21 sx5 =>
  P.oV 22 (evPick t16 (some (.b true)) (some t21)) fun t22 =>
  P.oG [24, 25, 26, 27] t22 false (fun (k : C4) => P.oV 24 (evOff 12 t3) fun t24 =>
   P.oV 25 (evLoad T0 sx5.h 25 t24) fun t25 =>
   P.oV 26 (evBuiltin T0 sx5.h .len [25] [t25]) fun t26 =>
   P.oV 27 (evBin T0 .gtr 3 true t26 (.i .i64 60)) fun t27 =>
   k t24 t25 t26 t27 sx5) sx5 fun t24 t25 t26 t27 sx6 =>
  P.oV 28 (evPick t22 (some (.b true)) (some t27)) fun t28 =>
  P.oG [30, 31, 32, 33] t28 false (fun (k : C4) => P.oV 30 (evOff 13 t1) fun t30 =>
   P.oV 31 (evLoad T0 sx6.h 32 t30) fun t31 =>
   P.oC 32 25 [t31, (.i .i64 200)] sx6 fun t32 sx7 =>
   P.oV 33 (evUn .not t32) fun t33 =>
   k t30 t31 t32 t33 sx7) sx6 fun t30 t31 t32 t33 sx7 =>
  P.oV 34 (evPick t28 (some (.b true)) (some t33)) fun t34 =>
  P.oG [36, 37, 38, 39] t34 false (fun (k : C4) => P.oV 36 (evOff 18 t1) fun t36 =>
   P.oV 37 (evLoad T0 sx7.h 32 t36) fun t37 =>
   P.oC 38 25 [t37, (.i .i64 200)] sx7 fun t38 sx8 =>
   P.oV 39 (evUn .not t38) fun t39 =>
   k t36 t37 t38 t39 sx8) sx7 fun t36 t37 t38 t39 sx8 =>
  P.oV 40 (evPick t34 (some (.b true)) (some t39)) fun t40 =>
  P.oI t40 (Q (.b true) sx8)
  (P.oL [3, 4] (fun (next : C2) t3x1 t4 sx9 =>
   P.oV 42 (evOff 12 t3x1) fun t42 =>
   P.oV 43 (evLoad T0 sx9.h 25 t42) fun t43 =>
   P.oV 44 (evBuiltin T0 sx9.h .len [25] [t43]) fun t44 =>
   P.oV 45 (evBin T0 .lss 3 false t4 t44) fun t45 =>
   P.oI t45 (P.oV 48 (evOff 12 t3x1) fun t48 =>
    P.oV 49 (evLoad T0 sx9.h 25 t48) fun t49 =>
    P.oV 51 (evIndexAddr T0 25 t49 t4) fun t51 =>
    P.oV 52 (evOff 1 t51) fun t52 =>
    P.oV 53 (evLoad T0 sx9.h 24 t52) fun t53 =>
    P.oV 54 (evBuiltin T0 sx9.h .len [24] [t53]) fun t54 =>
    P.oV 55 (evBin T0 .gtr 3 true t54 (.i .i64 700)) fun t55 =>
    P.oI t55 (Q (.b true) sx9)
    (P.oV 47 (evBin T0 .add 3 true t4 (.i .i64 1)) fun t47 =>
     next t3x1 t47 sx9))
   (Q (.b false) sx9)) t3 (.i .i64 0) sx8)
theorem w9_eq (P : Prims) (a0 : AV) (Q : AV → AS → Prop) : w9 P a0 Q = vcBody P T0 Go.Proofs.Tryd.f9 (codeOf Go.Proofs.Tryd.f9) an9 [a0] ⟨.nil, 0⟩ Q := by kernel_rfl
theorem r9 (a0 : AV) {r : AV} (hi : AV.idfree.idfrees [a0] = true) (hn : AV.norm.norms [a0] = [a0]) (h : w9 (prims T0) a0 (fun r1 s1 => oZ T0 s1 r1 (fun r2 => r2 = r))) : R T0 9 [a0] r :=
  R.mk (by kernel_rfl) (by kernel_rfl) (show T0.fn 9 = some Go.Proofs.Tryd.f9 by kernel_rfl) (by kernel_rfl) (by kernel_rfl) hi hn (by rw [w9_eq] at h; exact h)
/- orchestrator/orchestratorlaw13.awake -/
def an10 : AN := (.seq none .leaf (.seq none .leaf (.seq none .leaf (.seq none .leaf (.seq none .leaf .leaf)))))
def w10 (P : Prims) (Q : AV → AS → Prop) : Prop :=
  P.oC 12 15 [(.s [78, 111, 100, 101, 47, 47, 110, 49])] ⟨Tr.nil, 0⟩ fun t12 sx1 =>
  P.oV 13 (evExtract 0 t12) fun t13 =>
  P.oV 14 (evExtract 1 t12) fun t14 =>
  P.oV 15 (evExtract 2 t12) fun t15 =>
  P.oV 16 (evExtract 3 t12) fun t16 =>
  P.oC 18 15 [(.s [112, 111, 100, 47, 100, 101, 102, 97, 117, 108, 116, 47, 119, 101, 98])] sx1 fun t18 sx2 =>
  P.oV 19 (evExtract 0 t18) fun t19 =>
  P.oV 20 (evExtract 1 t18) fun t20 =>
  P.oV 21 (evExtract 2 t18) fun t21 =>
  P.oV 22 (evExtract 3 t18) fun t22 =>
  P.oV 24 (evBuild T0 43 [(2, (.i .i64 1))]) fun t24 =>
  P.oV 25 (evBuild T0 43 [(2, (.i .i64 2)), (3, (.b true))]) fun t25 =>
  P.oE (evLit T0 23 2 [(0, t24), (1, t25)]) fun b f =>
  P.oN 26 b f sx2 fun t26 sx3 =>
  P.oV 27 (evBuild T0 27 [(10, t26)]) fun t27 =>
  P.oC 28 18 [t27] sx3 fun t28 sx4 =>
  P.oV 29 (evExtract 0 t28) fun t29 =>
  P.oV 30 (evExtract 1 t28) fun t30 =>
  P.oN 9 (.cells [(.s []), (.s []), (.i .i64 0), (.b false), (.b false)] 43 false) (fun id => (.ptr id 0)) sx4 fun t9 sx5 =>
  P.oH (evStore T0 sx5.h 43 t9 t29) sx5 fun sx6 =>
  P.oC 31 17 [(.s [80, 111, 100]), (.s [100, 101, 102, 97, 117, 108, 116]), (.s [119, 101, 98, 45, 49])] sx6 fun t31 sx7 =>
  P.oV 32 (evBin T0 .eql 9 true t31 (.s [80, 111, 100, 47, 100, 101, 102, 97, 117, 108, 116, 47, 119, 101, 98, 45, 49])) fun t32 =>
  P.oG [34, 35] t32 true (fun (k : C2) => P.oV 35 (evBin T0 .eql 9 true t13 (.s [78, 111, 100, 101])) fun t35 =>
   k t13 t35 sx7) sx7 fun t34 t35 sx8 =>
  P.oV 36 (evPick t32 (some t35) (some (.b false))) fun t36 =>
  P.oG [38, 39] t36 true (fun (k : C2) => P.oV 39 (evBin T0 .eql 9 true t14 (.s [])) fun t39 =>
   k t14 t39 sx8) sx8 fun t38 t39 sx9 =>
  P.oV 40 (evPick t36 (some t39) (some (.b false))) fun t40 =>
  P.oG [42, 43] t40 true (fun (k : C2) => P.oV 43 (evBin T0 .eql 9 true t15 (.s [110, 49])) fun t43 =>
   k t15 t43 sx9) sx9 fun t42 t43 sx10 =>
  P.oV 44 (evPick t40 (some t43) (some (.b false))) fun t44 =>
  P.oG [46] t44 true (fun (k : C1) => k t16 sx10) sx10 fun t46 sx11 =>
  P.oV 47 (evPick t44 (some t46) (some (.b false))) fun t47 =>
  P.oG [49, 50] t47 true (fun (k : C2) => P.oV 50 (evUn .not t22) fun t50 =>
   k t22 t50 sx11) sx11 fun t49 t50 sx12 =>
  P.oV 51 (evPick t47 (some t50) (some (.b false))) fun t51 =>
  P.oG [53] t51 true (fun (k : C1) => k t30 sx12) sx12 fun t53 sx13 =>
  P.oV 54 (evPick t51 (some t53) (some (.b false))) fun t54 =>
  P.oG [56, 57, 58] t54 true (fun (k : C3) => P.oV 56 (evOff 2 t9) fun t56 =>
   P.oV 57 (evLoad T0 sx13.h 3 t56) fun t57 =>
   P.oV 58 (evBin T0 .eql 3 true t57 (.i .i64 2)) fun t58 =>
   k t56 t57 t58 sx13) sx13 fun t56 t57 t58 sx14 =>
  P.oV 59 (evPick t54 (some t58) (some (.b false))) fun t59 =>
  P.oG [61, 62] t59 true (fun (k : C2) => P.oC 61 22 [(.s [119, 101, 98]), (.i .i64 7)] sx14 fun t61 sx15 =>
   P.oV 62 (evBin T0 .eql 9 true t61 (.s [119, 101, 98, 45, 55])) fun t62 =>
   k t61 t62 sx15) sx14 fun t61 t62 sx15 =>
  P.oV 63 (evPick t59 (some t62) (some (.b false))) fun t63 =>
  P.oG [65, 66] t63 true (fun (k : C2) => P.oC 65 22 [(.s [97, 97, 97, 97, 97, 97, 97, 97, 97, 97, 98, 98, 98, 98, 98, 98, 98, 98, 98, 98, 99, 99, 99, 99, 99, 99, 99, 99, 99, 99, 100, 100, 100, 100, 100, 100, 100, 100, 100, 100]), (.i .i64 10)] sx15 fun t65 sx16 =>
   P.oV 66 (evBin T0 .eql 9 true t65 (.s [97, 97, 97, 97, 97, 97, 97, 97, 97, 97, 98, 98, 98, 98, 98, 98, 98, 98, 98, 98, 99, 99, 99, 99, 99, 99, 99, 99, 99, 99, 100, 100, 100, 100, 100, 100, 100, 45, 49, 48])) fun t66 =>
   k t65 t66 sx16) sx15 fun t65 t66 sx16 =>
  P.oV 67 (evPick t63 (some t66) (some (.b false))) fun t67 =>
  P.oG [69] t67 true (fun (k : C1) => P.oC 69 13 [(.s [97, 45, 49])] sx16 fun t69 sx17 =>
   k t69 sx17) sx16 fun t69 sx17 =>
  P.oV 70 (evPick t67 (some t69) (some (.b false))) fun t70 =>
  P.oG [72, 73] t70 true (fun (k : C2) => P.oC 72 13 [(.s [45, 97])] sx17 fun t72 sx18 =>
   P.oV 73 (evUn .not t72) fun t73 =>
   k t72 t73 sx18) sx17 fun t72 t73 sx18 =>
  P.oV 74 (evPick t70 (some t73) (some (.b false))) fun t74 =>
  P.oG [76, 77] t74 true (fun (k : C2) => P.oV 76 (evBuild T0 27 [(0, (.s [80, 111, 100])), (2, (.s [97]))]) fun t76 =>
   P.oC 77 11 [t76] sx18 fun t77 sx19 =>
   k t76 t77 sx19) sx18 fun t76 t77 sx19 =>
  P.oV 78 (evPick t74 (some t77) (some (.b false))) fun t78 =>
  P.oG [80, 81, 82] t78 true (fun (k : C3) => P.oV 80 (evBuild T0 27 [(0, (.s [80, 111, 100]))]) fun t80 =>
   P.oC 81 11 [t80] sx19 fun t81 sx20 =>
   P.oV 82 (evUn .not t81) fun t82 =>
   k t80 t81 t82 sx20) sx19 fun t80 t81 t82 sx20 =>
  P.oV 83 (evPick t78 (some t82) (some (.b false))) fun t83 =>
  P.oG [85, 86, 87] t83 true (fun (k : C3) => P.oV 85 (evBuild T0 34 []) fun t85 =>
   P.oV 86 (evBuild T0 34 []) fun t86 =>
   P.oC 87 20 [t85, t86] sx20 fun t87 sx21 =>
   k t85 t86 t87 sx21) sx20 fun t85 t86 t87 sx21 =>
  P.oV 88 (evPick t83 (some t87) (some (.b false))) fun t88 =>
  P.oG [90, 91, 92, 93, 94] t88 true (fun (k : C5) => P.oV 90 (evBuild T0 34 []) fun t90 =>
   P.oV 91 (evBuild T0 27 [(3, (.i .i64 1))]) fun t91 =>
   P.oV 92 (evBuild T0 34 [(0, t91)]) fun t92 =>
   P.oC 93 20 [t90, t92] sx21 fun t93 sx22 =>
   P.oV 94 (evUn .not t93) fun t94 =>
   k t90 t91 t92 t93 t94 sx22) sx21 fun t90 t91 t92 t93 t94 sx22 =>
  P.oV 95 (evPick t88 (some t94) (some (.b false))) fun t95 =>
  Q t95 sx22
theorem w10_eq (P : Prims) (Q : AV → AS → Prop) : w10 P  Q = vcBody P T0 Go.Proofs.Tryd.f10 (codeOf Go.Proofs.Tryd.f10) an10 [] ⟨.nil, 0⟩ Q := by kernel_rfl
theorem r10 {r : AV} (hi : AV.idfree.idfrees [] = true) (hn : AV.norm.norms [] = []) (h : w10 (prims T0)  (fun r1 s1 => oZ T0 s1 r1 (fun r2 => r2 = r))) : R T0 10 [] r :=
  R.mk (by kernel_rfl) (by kernel_rfl) (show T0.fn 10 = some Go.Proofs.Tryd.f10 by kernel_rfl) (by kernel_rfl) (by kernel_rfl) hi hn (by rw [w10_eq] at h; exact h)
/- orchestrator/meta.Valid -/
def an11 : AN := (.seq none .leaf (.seq none (.seq none .leaf (.two (.seq none .leaf .leaf) .leaf)) (.seq none .leaf .leaf)))
def w11 (P : Prims) (a0 : AV) (Q : AV → AS → Prop) : Prop :=
  P.oN 1 (.cells (AV.cells a0) 27 false) (fun id => (.ptr id 0)) ⟨Tr.nil, 0⟩ fun t1 sx1 =>
  P.oV 3 (evOff 3 t1) fun t3 =>
  P.oV 4 (evLoad T0 sx1.h 3 t3) fun t4 =>
  P.oV 5 (evOff 4 t1) fun t5 =>
  P.oV 6 (evLoad T0 sx1.h 3 t5) fun t6 =>
  P.oV 7 (evOff 5 t1) fun t7 =>
  P.oV 8 (evLoad T0 sx1.h 3 t7) fun t8 =>
  P.oV 9 (evOff 6 t1) fun t9 =>
  P.oV 10 (evLoad T0 sx1.h 3 t9) fun t10 =>
  P.oV 11 (evOff 8 t1) fun t11 =>
  P.oV 12 (evLoad T0 sx1.h 3 t11) fun t12 =>
  P.oV 13 (evBuiltin T0 sx1.h .min [3, 3, 3, 3, 3] [t4, t6, t8, t10, t12]) fun t13 =>
  P.oV 14 (evBin T0 .lss 3 true t13 (.i .i64 0)) fun t14 =>
  P.oG [16, 17, 18, 19] t14 false (fun (k : C4) => P.oV 16 (evOff 7 t1) fun t16 =>
   P.oV 17 (evLoad T0 sx1.h 4 t16) fun t17 =>
   P.oV 18 (evUn .not t17) fun t18 =>
   k t16 t17 t18 t18 sx1) sx1 fun t16 t17 t18 t19 sx2 =>
  P.oG [20, 21, 22] t19 true (fun (k : C3) => P.oV 20 (evOff 8 t1) fun t20 =>
   P.oV 21 (evLoad T0 sx2.h 3 t20) fun t21 =>
   P.oV 22 (evBin T0 .neq 3 true t21 (.i .i64 0)) fun t22 =>
   k t20 t21 t22 sx2) sx2 fun t20 t21 t22 sx3 =>
  P.oG [23] t14 false (fun (k : C1) => P.oV 23 (evPick t19 (some t22) (some (.b false))) fun t23 =>
   k t23 sx3) sx3 fun t23 sx4 =>
  P.oV 24 (evPick t14 (some (.b true)) (some t23)) fun t24 =>
  P.oI t24 (Q (.b false) sx4)
  (P.oV 25 (evOff 0 t1) fun t25 =>
   P.oV 26 (evLoad T0 sx4.h 9 t25) fun t26 =>
   P.oC 27 26 [t26] sx4 fun t27 sx5 =>
   P.oG [29, 30, 31] t27 true (fun (k : C3) => P.oV 29 (evOff 1 t1) fun t29 =>
    P.oV 30 (evLoad T0 sx5.h 9 t29) fun t30 =>
    P.oC 31 27 [t30] sx5 fun t31 sx6 =>
    k t29 t30 t31 sx6) sx5 fun t29 t30 t31 sx6 =>
   P.oV 32 (evPick t27 (some t31) (some (.b false))) fun t32 =>
   P.oG [34, 35, 36] t32 true (fun (k : C3) => P.oV 34 (evOff 2 t1) fun t34 =>
    P.oV 35 (evLoad T0 sx6.h 9 t34) fun t35 =>
    P.oC 36 13 [t35] sx6 fun t36 sx7 =>
    k t34 t35 t36 sx7) sx6 fun t34 t35 t36 sx7 =>
   P.oV 37 (evPick t32 (some t36) (some (.b false))) fun t37 =>
   P.oG [39, 40, 41] t37 true (fun (k : C3) => P.oV 39 (evOff 9 t1) fun t39 =>
    P.oV 40 (evLoad T0 sx7.h 22 t39) fun t40 =>
    P.oC 41 28 [t40] sx7 fun t41 sx8 =>
    k t39 t40 t41 sx8) sx7 fun t39 t40 t41 sx8 =>
   P.oV 42 (evPick t37 (some t41) (some (.b false))) fun t42 =>
   P.oG [44, 45, 46] t42 true (fun (k : C3) => P.oV 44 (evOff 10 t1) fun t44 =>
    P.oV 45 (evLoad T0 sx8.h 23 t44) fun t45 =>
    P.oC 46 29 [t45] sx8 fun t46 sx9 =>
    k t44 t45 t46 sx9) sx8 fun t44 t45 t46 sx9 =>
   P.oV 47 (evPick t42 (some t46) (some (.b false))) fun t47 =>
   P.oG [49, 50, 51] t47 true (fun (k : C3) => P.oV 49 (evOff 11 t1) fun t49 =>
    P.oV 50 (evLoad T0 sx9.h 24 t49) fun t50 =>
    P.oC 51 30 [t50] sx9 fun t51 sx10 =>
    k t49 t50 t51 sx10) sx9 fun t49 t50 t51 sx10 =>
   P.oV 52 (evPick t47 (some t51) (some (.b false))) fun t52 =>
   P.oG [54, 55, 56] t52 true (fun (k : C3) => P.oV 54 (evOff 12 t1) fun t54 =>
    P.oV 55 (evLoad T0 sx10.h 25 t54) fun t55 =>
    P.oC 56 31 [t55] sx10 fun t56 sx11 =>
    k t54 t55 t56 sx11) sx10 fun t54 t55 t56 sx11 =>
   P.oV 57 (evPick t52 (some t56) (some (.b false))) fun t57 =>
   Q t57 sx11)
theorem w11_eq (P : Prims) (a0 : AV) (Q : AV → AS → Prop) : w11 P a0 Q = vcBody P T0 Go.Proofs.Tryd.f11 (codeOf Go.Proofs.Tryd.f11) an11 [a0] ⟨.nil, 0⟩ Q := by kernel_rfl
theorem r11 (a0 : AV) {r : AV} (hi : AV.idfree.idfrees [a0] = true) (hn : AV.norm.norms [a0] = [a0]) (h : w11 (prims T0) a0 (fun r1 s1 => oZ T0 s1 r1 (fun r2 => r2 = r))) : R T0 11 [a0] r :=
  R.mk (by kernel_rfl) (by kernel_rfl) (show T0.fn 11 = some Go.Proofs.Tryd.f11 by kernel_rfl) (by kernel_rfl) (by kernel_rfl) hi hn (by rw [w11_eq] at h; exact h)
/- orchestrator/orchestratorref13.Valid -/
def an12 : AN := (.seq none .leaf (.seq none (.seq none .leaf (.two (.seq none .leaf .leaf) .leaf)) (.seq none (.seq none .leaf (.two (.seq none .leaf .leaf) .leaf)) (.seq none .leaf .leaf))))
def w12 (P : Prims) (a0 : AV) (Q : AV → AS → Prop) : Prop :=
  P.oN 1 (.cells (AV.cells a0) 27 false) (fun id => (.ptr id 0)) ⟨Tr.nil, 0⟩ fun t1 sx1 =>
  P.oV 3 (evOff 0 t1) fun t3 =>
  P.oV 4 (evLoad T0 sx1.h 9 t3) fun t4 =>
  P.oC 5 32 [t4] sx1 fun t5 sx2 =>
  P.oV 6 (evUn .not t5) fun t6 =>
  P.oG [8, 9, 10, 11] t6 false (fun (k : C4) => P.oV 8 (evOff 1 t1) fun t8 =>
   P.oV 9 (evLoad T0 sx2.h 9 t8) fun t9 =>
   P.oV 10 (evBin T0 .neq 9 true t9 (.s [])) fun t10 =>
   k t8 t9 t10 t10 sx2) sx2 fun t8 t9 t10 t11 sx3 =>
  P.oG [12, 13, 14, 15] t11 true (fun (k : C4) => P.oV 12 (evOff 1 t1) fun t12 =>
   P.oV 13 (evLoad T0 sx3.h 9 t12) fun t13 =>
   P.oC 14 14 [t13] sx3 fun t14 sx4 =>
   P.oV 15 (evUn .not t14) fun t15 =>
   k t12 t13 t14 t15 sx4) sx3 fun t12 t13 t14 t15 sx4 =>
  P.oG [16] t6 false (fun (k : C1) => P.oV 16 (evPick t11 (some t15) (some (.b false))) fun t16 =>
   k t16 sx4) sx4 fun t16 sx5 =>
  P.oV 17 (evPick t6 (some (.b true)) (some t16)) fun t17 =>
  P.oG [19, 20, 21, 22] t17 false (fun (k : C4) => P.oV 19 (evOff 2 t1) fun t19 =>
   P.oV 20 (evLoad T0 sx5.h 9 t19) fun t20 =>
   P.oC 21 14 [t20] sx5 fun t21 sx6 =>
   P.oV 22 (evUn .not t21) fun t22 =>
   k t19 t20 t21 t22 sx6) sx5 fun t19 t20 t21 t22 sx6 =>
  P.oV 23 (evPick t17 (some (.b true)) (some t22)) fun t23 =>
  P.oI t23 (Q (.b false) sx6)
  (P.oV 24 (evOff 3 t1) fun t24 =>
   P.oV 25 (evLoad T0 sx6.h 3 t24) fun t25 =>
   P.oV 26 (evBin T0 .lss 3 true t25 (.i .i64 0)) fun t26 =>
   P.oG [28, 29, 30] t26 false (fun (k : C3) => P.oV 28 (evOff 4 t1) fun t28 =>
    P.oV 29 (evLoad T0 sx6.h 3 t28) fun t29 =>
    P.oV 30 (evBin T0 .lss 3 true t29 (.i .i64 0)) fun t30 =>
    k t28 t29 t30 sx6) sx6 fun t28 t29 t30 sx7 =>
   P.oV 31 (evPick t26 (some (.b true)) (some t30)) fun t31 =>
   P.oG [33, 34, 35] t31 false (fun (k : C3) => P.oV 33 (evOff 5 t1) fun t33 =>
    P.oV 34 (evLoad T0 sx7.h 3 t33) fun t34 =>
    P.oV 35 (evBin T0 .lss 3 true t34 (.i .i64 0)) fun t35 =>
    k t33 t34 t35 sx7) sx7 fun t33 t34 t35 sx8 =>
   P.oV 36 (evPick t31 (some (.b true)) (some t35)) fun t36 =>
   P.oG [38, 39, 40] t36 false (fun (k : C3) => P.oV 38 (evOff 6 t1) fun t38 =>
    P.oV 39 (evLoad T0 sx8.h 3 t38) fun t39 =>
    P.oV 40 (evBin T0 .lss 3 true t39 (.i .i64 0)) fun t40 =>
    k t38 t39 t40 sx8) sx8 fun t38 t39 t40 sx9 =>
   P.oV 41 (evPick t36 (some (.b true)) (some t40)) fun t41 =>
   P.oG [43, 44, 45] t41 false (fun (k : C3) => P.oV 43 (evOff 8 t1) fun t43 =>
    P.oV 44 (evLoad T0 sx9.h 3 t43) fun t44 =>
    P.oV 45 (evBin T0 .lss 3 true t44 (.i .i64 0)) fun t45 =>
    k t43 t44 t45 sx9) sx9 fun t43 t44 t45 sx10 =>
   P.oV 46 (evPick t41 (some (.b true)) (some t45)) fun t46 =>
   P.oG [48, 49, 50, 51] t46 false (fun (k : C4) => P.oV 48 (evOff 7 t1) fun t48 =>
    P.oV 49 (evLoad T0 sx10.h 4 t48) fun t49 =>
    P.oV 50 (evUn .not t49) fun t50 =>
    k t48 t49 t50 t50 sx10) sx10 fun t48 t49 t50 t51 sx11 =>
   P.oG [52, 53, 54] t51 true (fun (k : C3) => P.oV 52 (evOff 8 t1) fun t52 =>
    P.oV 53 (evLoad T0 sx11.h 3 t52) fun t53 =>
    P.oV 54 (evBin T0 .neq 3 true t53 (.i .i64 0)) fun t54 =>
    k t52 t53 t54 sx11) sx11 fun t52 t53 t54 sx12 =>
   P.oG [55] t46 false (fun (k : C1) => P.oV 55 (evPick t51 (some t54) (some (.b false))) fun t55 =>
    k t55 sx12) sx12 fun t55 sx13 =>
   P.oV 56 (evPick t46 (some (.b true)) (some t55)) fun t56 =>
   P.oI t56 (Q (.b false) sx13)
   (P.oV 57 (evOff 9 t1) fun t57 =>
    P.oV 58 (evLoad T0 sx13.h 22 t57) fun t58 =>
    P.oC 59 33 [t58] sx13 fun t59 sx14 =>
    P.oG [61, 62, 63] t59 true (fun (k : C3) => P.oV 61 (evOff 10 t1) fun t61 =>
     P.oV 62 (evLoad T0 sx14.h 23 t61) fun t62 =>
     P.oC 63 34 [t62] sx14 fun t63 sx15 =>
     k t61 t62 t63 sx15) sx14 fun t61 t62 t63 sx15 =>
    P.oV 64 (evPick t59 (some t63) (some (.b false))) fun t64 =>
    P.oG [66, 67, 68] t64 true (fun (k : C3) => P.oV 66 (evOff 11 t1) fun t66 =>
     P.oV 67 (evLoad T0 sx15.h 24 t66) fun t67 =>
     P.oC 68 35 [t67] sx15 fun t68 sx16 =>
     k t66 t67 t68 sx16) sx15 fun t66 t67 t68 sx16 =>
    P.oV 69 (evPick t64 (some t68) (some (.b false))) fun t69 =>
    P.oG [71, 72, 73] t69 true (fun (k : C3) => P.oV 71 (evOff 12 t1) fun t71 =>
     P.oV 72 (evLoad T0 sx16.h 25 t71) fun t72 =>
     P.oC 73 36 [t72] sx16 fun t73 sx17 =>
     k t71 t72 t73 sx17) sx16 fun t71 t72 t73 sx17 =>
    P.oV 74 (evPick t69 (some t73) (some (.b false))) fun t74 =>
    Q t74 sx17))
theorem w12_eq (P : Prims) (a0 : AV) (Q : AV → AS → Prop) : w12 P a0 Q = vcBody P T0 Go.Proofs.Tryd.f12 (codeOf Go.Proofs.Tryd.f12) an12 [a0] ⟨.nil, 0⟩ Q := by kernel_rfl
theorem r12 (a0 : AV) {r : AV} (hi : AV.idfree.idfrees [a0] = true) (hn : AV.norm.norms [a0] = [a0]) (h : w12 (prims T0) a0 (fun r1 s1 => oZ T0 s1 r1 (fun r2 => r2 = r))) : R T0 12 [a0] r :=
  R.mk (by kernel_rfl) (by kernel_rfl) (show T0.fn 12 = some Go.Proofs.Tryd.f12 by kernel_rfl) (by kernel_rfl) (by kernel_rfl) hi hn (by rw [w12_eq] at h; exact h)
/- orchestrator/meta.ValidName -/
def an13 : AN := (.seq none .leaf (.seq none (.seq none .leaf (.one (.loop [0, 6, 7] (.seq none .leaf (.seq none (.two .leaf .leaf) (.seq none (.one (.seq none .leaf (.seq none .leaf (.seq none .leaf (.two (.seq none .leaf .leaf) .leaf))))) .leaf)))))) (.seq none .leaf .leaf)))
def w13 (P : Prims) (a0 : AV) (Q : AV → AS → Prop) : Prop :=
  P.oV 6 (evBuiltin T0 Tr.nil .len [9] [a0]) fun t6 =>
  P.oL [0, 6, 7] (fun (next : C3) t0 t6x1 t7 sx1 =>
  P.oV 8 (evBin T0 .lss 3 false t7 t6x1) fun t8 =>
  P.oI t8 (P.oV 12 (evIndex T0 9 t0 t7) fun t12 =>
   P.oV 14 (evBin T0 .geq 5 true t12 (.i .u8 97)) fun t14 =>
   P.oG [16, 17] t14 true (fun (k : C2) => P.oV 17 (evBin T0 .leq 5 true t12 (.i .u8 122)) fun t17 =>
    k t12 t17 sx1) sx1 fun t16 t17 sx2 =>
   P.oV 18 (evPick t14 (some t17) (some (.b false))) fun t18 =>
   P.oG [20, 21, 22] t18 false (fun (k : C3) => P.oV 21 (evBin T0 .geq 5 true t12 (.i .u8 48)) fun t21 =>
    k t12 t21 t21 sx2) sx2 fun t20 t21 t22 sx3 =>
   P.oG [23, 24] t22 true (fun (k : C2) => P.oV 24 (evBin T0 .leq 5 true t12 (.i .u8 57)) fun t24 =>
    k t12 t24 sx3) sx3 fun t23 t24 sx4 =>
   P.oG [25] t18 false (fun (k : C1) => P.oV 25 (evPick t22 (some t24) (some (.b false))) fun t25 =>
    k t25 sx4) sx4 fun t25 sx5 =>
   P.oV 26 (evPick t18 (some (.b true)) (some t25)) fun t26 =>
   P.oG [28, 29] t26 false (fun (k : C2) => P.oV 29 (evBin T0 .eql 5 true t12 (.i .u8 45)) fun t29 =>
    k t12 t29 sx5) sx5 fun t28 t29 sx6 =>
   P.oV 30 (evPick t26 (some (.b true)) (some t29)) fun t30 =>
   P.oV 31 (evUn .not t30) fun t31 =>
   P.oI t31 (Q (.b false) sx6)
   (P.oV 32 (evBin T0 .add 3 true t7 (.i .i64 1)) fun t32 =>
    next t0 t6x1 t32 sx6))
  (P.oV 34 (evBuiltin T0 sx1.h .len [9] [t0]) fun t34 =>
   P.oV 35 (evBin T0 .geq 3 true t34 (.i .i64 1)) fun t35 =>
   P.oG [37, 38, 39] t35 true (fun (k : C3) => P.oV 38 (evBuiltin T0 sx1.h .len [9] [t0]) fun t38 =>
    P.oV 39 (evBin T0 .leq 3 true t38 (.i .i64 40)) fun t39 =>
    k t0 t38 t39 sx1) sx1 fun t37 t38 t39 sx2 =>
   P.oV 40 (evPick t35 (some t39) (some (.b false))) fun t40 =>
   P.oG [42, 43, 44] t40 true (fun (k : C3) => P.oV 43 (evIndex T0 9 t0 (.i .i64 0)) fun t43 =>
    P.oV 44 (evBin T0 .neq 5 true t43 (.i .u8 45)) fun t44 =>
    k t0 t43 t44 sx2) sx2 fun t42 t43 t44 sx3 =>
   P.oV 45 (evPick t40 (some t44) (some (.b false))) fun t45 =>
   P.oG [47, 48, 49, 50, 51, 52] t45 true (fun (k : C6) => P.oV 49 (evBuiltin T0 sx3.h .len [9] [t0]) fun t49 =>
    P.oV 50 (evBin T0 .sub 3 true t49 (.i .i64 1)) fun t50 =>
    P.oV 51 (evIndex T0 9 t0 t50) fun t51 =>
    P.oV 52 (evBin T0 .neq 5 true t51 (.i .u8 45)) fun t52 =>
    k t0 t0 t49 t50 t51 t52 sx3) sx3 fun t47 t48 t49 t50 t51 t52 sx4 =>
   P.oV 53 (evPick t45 (some t52) (some (.b false))) fun t53 =>
   Q t53 sx4)) a0 t6 (.i .i64 0) ⟨Tr.nil, 0⟩
theorem w13_eq (P : Prims) (a0 : AV) (Q : AV → AS → Prop) : w13 P a0 Q = vcBody P T0 Go.Proofs.Tryd.f13 (codeOf Go.Proofs.Tryd.f13) an13 [a0] ⟨.nil, 0⟩ Q := by kernel_rfl
theorem r13 (a0 : AV) {r : AV} (hi : AV.idfree.idfrees [a0] = true) (hn : AV.norm.norms [a0] = [a0]) (h : w13 (prims T0) a0 (fun r1 s1 => oZ T0 s1 r1 (fun r2 => r2 = r))) : R T0 13 [a0] r :=
  R.mk (by kernel_rfl) (by kernel_rfl) (show T0.fn 13 = some Go.Proofs.Tryd.f13 by kernel_rfl) (by kernel_rfl) (by kernel_rfl) hi hn (by rw [w13_eq] at h; exact h)
/- orchestrator/orchestratorref13.ValidName -/
def an14 : AN := (.seq none .leaf (.seq none (.seq none .leaf (.two (.seq none .leaf .leaf) .leaf)) (.seq none (.seq none .leaf (.one (.loop [0, 3] (.seq none (.seq none .leaf (.two .leaf .leaf)) (.seq none (.one (.seq none .leaf (.two (.seq none .leaf .leaf) .leaf))) .leaf))))) (.seq none .leaf .leaf))))
def w14 (P : Prims) (a0 : AV) (Q : AV → AS → Prop) : Prop :=
  P.oV 5 (evBin T0 .eql 9 true a0 (.s [])) fun t5 =>
  P.oG [7, 8, 9] t5 false (fun (k : C3) => P.oV 8 (evBuiltin T0 Tr.nil .len [9] [a0]) fun t8 =>
   P.oV 9 (evBin T0 .gtr 3 true t8 (.i .i64 40)) fun t9 =>
   k a0 t8 t9 ⟨Tr.nil, 0⟩) ⟨Tr.nil, 0⟩ fun t7 t8 t9 sx1 =>
  P.oV 10 (evPick t5 (some (.b true)) (some t9)) fun t10 =>
  P.oG [12, 13, 14] t10 false (fun (k : C3) => P.oV 13 (evIndex T0 9 a0 (.i .i64 0)) fun t13 =>
   P.oV 14 (evBin T0 .eql 5 true t13 (.i .u8 45)) fun t14 =>
   k a0 t13 t14 sx1) sx1 fun t12 t13 t14 sx2 =>
  P.oV 15 (evPick t10 (some (.b true)) (some t14)) fun t15 =>
  P.oG [17, 18, 19, 20, 21, 22] t15 false (fun (k : C6) => P.oV 19 (evBuiltin T0 sx2.h .len [9] [a0]) fun t19 =>
   P.oV 20 (evBin T0 .sub 3 true t19 (.i .i64 1)) fun t20 =>
   P.oV 21 (evIndex T0 9 a0 t20) fun t21 =>
   P.oV 22 (evBin T0 .eql 5 true t21 (.i .u8 45)) fun t22 =>
   k a0 a0 t19 t20 t21 t22 sx2) sx2 fun t17 t18 t19 t20 t21 t22 sx3 =>
  P.oV 23 (evPick t15 (some (.b true)) (some t22)) fun t23 =>
  P.oI t23 (Q (.b false) sx3)
  (P.oL [0, 3] (fun (next : C2) t0 t3 sx4 =>
   P.oV 26 (evBuiltin T0 sx4.h .len [9] [t0]) fun t26 =>
   P.oV 27 (evBin T0 .lss 3 false t3 t26) fun t27 =>
   P.oI t27 (P.oV 32 (evIndex T0 9 t0 t3) fun t32 =>
    P.oV 33 (evBin T0 .geq 5 true t32 (.i .u8 97)) fun t33 =>
    P.oG [35, 36, 37, 38] t33 true (fun (k : C4) => P.oV 37 (evIndex T0 9 t0 t3) fun t37 =>
     P.oV 38 (evBin T0 .leq 5 true t37 (.i .u8 122)) fun t38 =>
     k t0 t3 t37 t38 sx4) sx4 fun t35 t36 t37 t38 sx5 =>
    P.oV 39 (evPick t33 (some t38) (some (.b false))) fun t39 =>
    P.oV 40 (evUn .not t39) fun t40 =>
    P.oG [42, 43, 44, 45, 46] t40 true (fun (k : C5) => P.oV 44 (evIndex T0 9 t0 t3) fun t44 =>
     P.oV 45 (evBin T0 .geq 5 true t44 (.i .u8 48)) fun t45 =>
     k t0 t3 t44 t45 t45 sx5) sx5 fun t42 t43 t44 t45 t46 sx6 =>
    P.oG [47, 48, 49, 50] t46 true (fun (k : C4) => P.oV 49 (evIndex T0 9 t0 t3) fun t49 =>
     P.oV 50 (evBin T0 .leq 5 true t49 (.i .u8 57)) fun t50 =>
     k t0 t3 t49 t50 sx6) sx6 fun t47 t48 t49 t50 sx7 =>
    P.oG [51, 52] t40 true (fun (k : C2) => P.oV 51 (evPick t46 (some t50) (some (.b false))) fun t51 =>
     P.oV 52 (evUn .not t51) fun t52 =>
     k t51 t52 sx7) sx7 fun t51 t52 sx8 =>
    P.oV 53 (evPick t40 (some t52) (some (.b false))) fun t53 =>
    P.oG [55, 56, 57, 58] t53 true (fun (k : C4) => P.oV 57 (evIndex T0 9 t0 t3) fun t57 =>
     P.oV 58 (evBin T0 .neq 5 true t57 (.i .u8 45)) fun t58 =>
     k t0 t3 t57 t58 sx8) sx8 fun t55 t56 t57 t58 sx9 =>
    P.oV 59 (evPick t53 (some t58) (some (.b false))) fun t59 =>
    P.oI t59 (Q (.b false) sx9)
    (P.oV 29 (evBin T0 .add 3 true t3 (.i .i64 1)) fun t29 =>
     next t0 t29 sx9))
   (Q (.b true) sx4)) a0 (.i .i64 0) sx3)
theorem w14_eq (P : Prims) (a0 : AV) (Q : AV → AS → Prop) : w14 P a0 Q = vcBody P T0 Go.Proofs.Tryd.f14 (codeOf Go.Proofs.Tryd.f14) an14 [a0] ⟨.nil, 0⟩ Q := by kernel_rfl
theorem r14 (a0 : AV) {r : AV} (hi : AV.idfree.idfrees [a0] = true) (hn : AV.norm.norms [a0] = [a0]) (h : w14 (prims T0) a0 (fun r1 s1 => oZ T0 s1 r1 (fun r2 => r2 = r))) : R T0 14 [a0] r :=
  R.mk (by kernel_rfl) (by kernel_rfl) (show T0.fn 14 = some Go.Proofs.Tryd.f14 by kernel_rfl) (by kernel_rfl) (by kernel_rfl) hi hn (by rw [w14_eq] at h; exact h)
/- orchestrator/meta.Split -/
def an15 : AN := (.seq none .leaf (.seq none .leaf (.seq none (.seq none .leaf (.two (.seq none .leaf .leaf) .leaf)) (.seq none .leaf .leaf))))
def w15 (P : Prims) (a0 : AV) (Q : AV → AS → Prop) : Prop :=
  P.oC 8 37 [a0, (.s [47])] ⟨Tr.nil, 0⟩ fun t8 sx1 =>
  P.oV 10 (evBuiltin T0 sx1.h .len [24] [t8]) fun t10 =>
  P.oV 11 (evBin T0 .neq 3 true t10 (.i .i64 3)) fun t11 =>
  P.oG [13, 14, 15, 16, 17] t11 false (fun (k : C5) => P.oV 14 (evIndexAddr T0 24 t8 (.i .i64 0)) fun t14 =>
   P.oV 15 (evLoad T0 sx1.h 9 t14) fun t15 =>
   P.oC 16 26 [t15] sx1 fun t16 sx2 =>
   P.oV 17 (evUn .not t16) fun t17 =>
   k t8 t14 t15 t16 t17 sx2) sx1 fun t13 t14 t15 t16 t17 sx2 =>
  P.oV 18 (evPick t11 (some (.b true)) (some t17)) fun t18 =>
  P.oG [20, 21, 22, 23, 24] t18 false (fun (k : C5) => P.oV 21 (evIndexAddr T0 24 t8 (.i .i64 1)) fun t21 =>
   P.oV 22 (evLoad T0 sx2.h 9 t21) fun t22 =>
   P.oC 23 27 [t22] sx2 fun t23 sx3 =>
   P.oV 24 (evUn .not t23) fun t24 =>
   k t8 t21 t22 t23 t24 sx3) sx2 fun t20 t21 t22 t23 t24 sx3 =>
  P.oV 25 (evPick t18 (some (.b true)) (some t24)) fun t25 =>
  P.oG [27, 28, 29, 30, 31] t25 false (fun (k : C5) => P.oV 28 (evIndexAddr T0 24 t8 (.i .i64 2)) fun t28 =>
   P.oV 29 (evLoad T0 sx3.h 9 t28) fun t29 =>
   P.oC 30 13 [t29] sx3 fun t30 sx4 =>
   P.oV 31 (evUn .not t30) fun t31 =>
   k t8 t28 t29 t30 t31 sx4) sx3 fun t27 t28 t29 t30 t31 sx4 =>
  P.oV 32 (evPick t25 (some (.b true)) (some t31)) fun t32 =>
  P.oI t32 (Q (.tup [(.s []), (.s []), (.s []), (.b false)]) sx4)
  (P.oV 34 (evIndexAddr T0 24 t8 (.i .i64 0)) fun t34 =>
   P.oV 35 (evLoad T0 sx4.h 9 t34) fun t35 =>
   P.oV 37 (evIndexAddr T0 24 t8 (.i .i64 1)) fun t37 =>
   P.oV 38 (evLoad T0 sx4.h 9 t37) fun t38 =>
   P.oV 40 (evIndexAddr T0 24 t8 (.i .i64 2)) fun t40 =>
   P.oV 41 (evLoad T0 sx4.h 9 t40) fun t41 =>
   Q (.tup [t35, t38, t41, (.b true)]) sx4)
theorem w15_eq (P : Prims) (a0 : AV) (Q : AV → AS → Prop) : w15 P a0 Q = vcBody P T0 Go.Proofs.Tryd.f15 (codeOf Go.Proofs.Tryd.f15) an15 [a0] ⟨.nil, 0⟩ Q := by kernel_rfl
theorem r15 (a0 : AV) {r : AV} (hi : AV.idfree.idfrees [a0] = true) (hn : AV.norm.norms [a0] = [a0]) (h : w15 (prims T0) a0 (fun r1 s1 => oZ T0 s1 r1 (fun r2 => r2 = r))) : R T0 15 [a0] r :=
  R.mk (by kernel_rfl) (by kernel_rfl) (show T0.fn 15 = some Go.Proofs.Tryd.f15 by kernel_rfl) (by kernel_rfl) (by kernel_rfl) hi hn (by rw [w15_eq] at h; exact h)
/- orchestrator/orchestratorref13.Split -/
def an16 : AN := (.seq none .leaf (.seq none .leaf (.seq none .leaf (.seq none (.seq none .leaf (.two (.seq none .leaf .leaf) .leaf)) (.seq none .leaf .leaf)))))
def w16 (P : Prims) (a0 : AV) (Q : AV → AS → Prop) : Prop :=
  P.oC 14 38 [a0] ⟨Tr.nil, 0⟩ fun t14 sx1 =>
  P.oV 15 (evExtract 0 t14) fun t15 =>
  P.oV 16 (evExtract 1 t14) fun t16 =>
  P.oV 17 (evExtract 2 t14) fun t17 =>
  P.oC 20 38 [t16] sx1 fun t20 sx2 =>
  P.oV 21 (evExtract 0 t20) fun t21 =>
  P.oV 22 (evExtract 1 t20) fun t22 =>
  P.oV 23 (evExtract 2 t20) fun t23 =>
  P.oV 25 (evUn .not t17) fun t25 =>
  P.oG [27, 28] t25 false (fun (k : C2) => P.oV 28 (evUn .not t23) fun t28 =>
   k t23 t28 sx2) sx2 fun t27 t28 sx3 =>
  P.oV 29 (evPick t25 (some (.b true)) (some t28)) fun t29 =>
  P.oG [31, 32, 33] t29 false (fun (k : C3) => P.oC 32 32 [t15] sx3 fun t32 sx4 =>
   P.oV 33 (evUn .not t32) fun t33 =>
   k t15 t32 t33 sx4) sx3 fun t31 t32 t33 sx4 =>
  P.oV 34 (evPick t29 (some (.b true)) (some t33)) fun t34 =>
  P.oG [36, 37, 38] t34 false (fun (k : C3) => P.oV 37 (evBin T0 .neq 9 true t21 (.s [])) fun t37 =>
   k t21 t37 t37 sx4) sx4 fun t36 t37 t38 sx5 =>
  P.oG [39, 40, 41] t38 true (fun (k : C3) => P.oC 40 14 [t21] sx5 fun t40 sx6 =>
   P.oV 41 (evUn .not t40) fun t41 =>
   k t21 t40 t41 sx6) sx5 fun t39 t40 t41 sx6 =>
  P.oG [42] t34 false (fun (k : C1) => P.oV 42 (evPick t38 (some t41) (some (.b false))) fun t42 =>
   k t42 sx6) sx6 fun t42 sx7 =>
  P.oV 43 (evPick t34 (some (.b true)) (some t42)) fun t43 =>
  P.oG [45, 46, 47] t43 false (fun (k : C3) => P.oC 46 14 [t22] sx7 fun t46 sx8 =>
   P.oV 47 (evUn .not t46) fun t47 =>
   k t22 t46 t47 sx8) sx7 fun t45 t46 t47 sx8 =>
  P.oV 48 (evPick t43 (some (.b true)) (some t47)) fun t48 =>
  P.oI t48 (Q (.tup [(.s []), (.s []), (.s []), (.b false)]) sx8)
  (Q (.tup [t15, t21, t22, (.b true)]) sx8)
theorem w16_eq (P : Prims) (a0 : AV) (Q : AV → AS → Prop) : w16 P a0 Q = vcBody P T0 Go.Proofs.Tryd.f16 (codeOf Go.Proofs.Tryd.f16) an16 [a0] ⟨.nil, 0⟩ Q := by kernel_rfl
theorem r16 (a0 : AV) {r : AV} (hi : AV.idfree.idfrees [a0] = true) (hn : AV.norm.norms [a0] = [a0]) (h : w16 (prims T0) a0 (fun r1 s1 => oZ T0 s1 r1 (fun r2 => r2 = r))) : R T0 16 [a0] r :=
  R.mk (by kernel_rfl) (by kernel_rfl) (show T0.fn 16 = some Go.Proofs.Tryd.f16 by kernel_rfl) (by kernel_rfl) (by kernel_rfl) hi hn (by rw [w16_eq] at h; exact h)
/- orchestrator/meta.Key -/
def an17 : AN := (.seq none .leaf (.seq none .leaf .leaf))
def w17 (P : Prims) (a0 a1 a2 : AV) (Q : AV → AS → Prop) : Prop :=
  P.oV 8 (evBin T0 .add 9 true a0 (.s [47])) fun t8 =>
  P.oV 10 (evBin T0 .add 9 false t8 a1) fun t10 =>
  P.oV 11 (evBin T0 .add 9 true t10 (.s [47])) fun t11 =>
  P.oV 13 (evBin T0 .add 9 false t11 a2) fun t13 =>
  Q t13 ⟨Tr.nil, 0⟩
theorem w17_eq (P : Prims) (a0 a1 a2 : AV) (Q : AV → AS → Prop) : w17 P a0 a1 a2 Q = vcBody P T0 Go.Proofs.Tryd.f17 (codeOf Go.Proofs.Tryd.f17) an17 [a0, a1, a2] ⟨.nil, 0⟩ Q := by kernel_rfl
theorem r17 (a0 a1 a2 : AV) {r : AV} (hi : AV.idfree.idfrees [a0, a1, a2] = true) (hn : AV.norm.norms [a0, a1, a2] = [a0, a1, a2]) (h : w17 (prims T0) a0 a1 a2 (fun r1 s1 => oZ T0 s1 r1 (fun r2 => r2 = r))) : R T0 17 [a0, a1, a2] r :=
  R.mk (by kernel_rfl) (by kernel_rfl) (show T0.fn 17 = some Go.Proofs.Tryd.f17 by kernel_rfl) (by kernel_rfl) (by kernel_rfl) hi hn (by rw [w17_eq] at h; exact h)
/- orchestrator/meta.Controller -/
def an18 : AN := (.seq none .leaf (.seq none (.seq none .leaf (.one (.loop [2, 7, 8, 9] (.seq none .leaf (.seq none (.two .leaf .leaf) (.seq none (.one (.seq none .leaf (.seq none .leaf (.two (.seq none .leaf .leaf) .leaf)))) .leaf)))))) (.seq none .leaf .leaf)))
def w18 (P : Prims) (a0 : AV) (Q : AV → AS → Prop) : Prop :=
  P.oN 1 (.cells (AV.cells a0) 27 false) (fun id => (.ptr id 0)) ⟨Tr.nil, 0⟩ fun t1 sx1 =>
  P.oN 2 (.cells [(.s []), (.s []), (.i .i64 0), (.b false), (.b false)] 43 false) (fun id => (.ptr id 0)) sx1 fun t2 sx2 =>
  P.oV 6 (evOff 10 t1) fun t6 =>
  P.oV 7 (evLoad T0 sx2.h 23 t6) fun t7 =>
  P.oV 8 (evBuiltin T0 sx2.h .len [23] [t7]) fun t8 =>
  P.oL [2, 7, 8, 9] (fun (next : C4) t2x1 t7x1 t8x1 t9 sx3 =>
  P.oV 10 (evBin T0 .lss 3 false t9 t8x1) fun t10 =>
  P.oI t10 (P.oV 11 (evIndexAddr T0 23 t7x1 t9) fun t11 =>
   P.oV 12 (evLoad T0 sx3.h 43 t11) fun t12 =>
   P.oN 5 (.cells [(.s []), (.s []), (.i .i64 0), (.b false), (.b false)] 43 false) (fun id => (.ptr id 0)) sx3 fun t5 sx4 =>
   P.oH (evStore T0 sx4.h 43 t5 t12) sx4 fun sx5 =>
   P.oV 13 (evOff 3 t5) fun t13 =>
   P.oV 14 (evLoad T0 sx5.h 4 t13) fun t14 =>
   P.oI t14 (P.oV 15 (evLoad T0 sx5.h 43 t5) fun t15 =>
    P.oH (evStore T0 sx5.h 43 t2x1 t15) sx5 fun sx6 =>
    P.oV 2 (evLoad T0 sx6.h 43 t2x1) fun t2x2 =>
    Q (.tup [t2x2, (.b true)]) sx6)
   (P.oV 16 (evBin T0 .add 3 true t9 (.i .i64 1)) fun t16 =>
    next t2x1 t7x1 t8x1 t16 sx5))
  (P.oV 17 (evBuild T0 43 []) fun t17 =>
   P.oH (evStore T0 sx3.h 43 t2x1 t17) sx3 fun sx4 =>
   P.oV 2 (evLoad T0 sx4.h 43 t2x1) fun t2x2 =>
   Q (.tup [t2x2, (.b false)]) sx4)) t2 t7 t8 (.i .i64 0) sx2
theorem w18_eq (P : Prims) (a0 : AV) (Q : AV → AS → Prop) : w18 P a0 Q = vcBody P T0 Go.Proofs.Tryd.f18 (codeOf Go.Proofs.Tryd.f18) an18 [a0] ⟨.nil, 0⟩ Q := by kernel_rfl
theorem r18 (a0 : AV) {r : AV} (hi : AV.idfree.idfrees [a0] = true) (hn : AV.norm.norms [a0] = [a0]) (h : w18 (prims T0) a0 (fun r1 s1 => oZ T0 s1 r1 (fun r2 => r2 = r))) : R T0 18 [a0] r :=
  R.mk (by kernel_rfl) (by kernel_rfl) (show T0.fn 18 = some Go.Proofs.Tryd.f18 by kernel_rfl) (by kernel_rfl) (by kernel_rfl) hi hn (by rw [w18_eq] at h; exact h)
/- orchestrator/orchestratorref13.Controller -/
def an19 : AN := (.seq none .leaf (.seq none (.seq none .leaf (.one (.loop [2, 1, 4] (.seq none (.seq none .leaf (.two .leaf .leaf)) (.seq none (.one (.seq none .leaf (.two (.seq none .leaf .leaf) .leaf))) .leaf))))) (.seq none .leaf .leaf)))
def w19 (P : Prims) (a0 : AV) (Q : AV → AS → Prop) : Prop :=
  P.oN 1 (.cells (AV.cells a0) 27 false) (fun id => (.ptr id 0)) ⟨Tr.nil, 0⟩ fun t1 sx1 =>
  P.oN 2 (.cells [(.s []), (.s []), (.i .i64 0), (.b false), (.b false)] 43 false) (fun id => (.ptr id 0)) sx1 fun t2 sx2 =>
  P.oL [2, 1, 4] (fun (next : C3) t2x1 t1x1 t4 sx3 =>
  P.oV 6 (evOff 10 t1x1) fun t6 =>
  P.oV 7 (evLoad T0 sx3.h 23 t6) fun t7 =>
  P.oV 8 (evBuiltin T0 sx3.h .len [23] [t7]) fun t8 =>
  P.oV 9 (evBin T0 .lss 3 false t4 t8) fun t9 =>
  P.oI t9 (P.oV 12 (evOff 10 t1x1) fun t12 =>
   P.oV 13 (evLoad T0 sx3.h 23 t12) fun t13 =>
   P.oV 15 (evIndexAddr T0 23 t13 t4) fun t15 =>
   P.oV 16 (evOff 3 t15) fun t16 =>
   P.oV 17 (evLoad T0 sx3.h 4 t16) fun t17 =>
   P.oI t17 (P.oV 18 (evOff 10 t1x1) fun t18 =>
    P.oV 19 (evLoad T0 sx3.h 23 t18) fun t19 =>
    P.oV 21 (evIndexAddr T0 23 t19 t4) fun t21 =>
    P.oV 22 (evLoad T0 sx3.h 43 t21) fun t22 =>
    P.oH (evStore T0 sx3.h 43 t2x1 t22) sx3 fun sx4 =>
    P.oV 2 (evLoad T0 sx4.h 43 t2x1) fun t2x2 =>
    Q (.tup [t2x2, (.b true)]) sx4)
   (P.oV 11 (evBin T0 .add 3 true t4 (.i .i64 1)) fun t11 =>
    next t2x1 t1x1 t11 sx3))
  (P.oV 23 (evBuild T0 43 []) fun t23 =>
   P.oH (evStore T0 sx3.h 43 t2x1 t23) sx3 fun sx4 =>
   P.oV 2 (evLoad T0 sx4.h 43 t2x1) fun t2x2 =>
   Q (.tup [t2x2, (.b false)]) sx4)) t2 t1 (.i .i64 0) sx2
theorem w19_eq (P : Prims) (a0 : AV) (Q : AV → AS → Prop) : w19 P a0 Q = vcBody P T0 Go.Proofs.Tryd.f19 (codeOf Go.Proofs.Tryd.f19) an19 [a0] ⟨.nil, 0⟩ Q := by kernel_rfl
theorem r19 (a0 : AV) {r : AV} (hi : AV.idfree.idfrees [a0] = true) (hn : AV.norm.norms [a0] = [a0]) (h : w19 (prims T0) a0 (fun r1 s1 => oZ T0 s1 r1 (fun r2 => r2 = r))) : R T0 19 [a0] r :=
  R.mk (by kernel_rfl) (by kernel_rfl) (show T0.fn 19 = some Go.Proofs.Tryd.f19 by kernel_rfl) (by kernel_rfl) (by kernel_rfl) hi hn (by rw [w19_eq] at h; exact h)
/- orchestrator/meta.Equal -/
def an20 : AN := (.seq none .leaf (.seq none .leaf (.seq none (.seq none .leaf (.two (.seq none .leaf .leaf) .leaf)) (.seq none (.seq none .leaf (.two (.seq none .leaf .leaf) .leaf)) (.seq none .leaf (.seq none .leaf .leaf))))))
def w20 (P : Prims) (a0 a1 : AV) (Q : AV → AS → Prop) : Prop :=
  P.oN 2 (.cells (AV.cells a0) 34 false) (fun id => (.ptr id 0)) ⟨Tr.nil, 0⟩ fun t2 sx1 =>
  P.oN 3 (.cells (AV.cells a1) 34 false) (fun id => (.ptr id 0)) sx1 fun t3 sx2 =>
  P.oV 8 (evOff 0 t2) fun t8 =>
  P.oV 9 (evLoad T0 sx2.h 27 t8) fun t9 =>
  P.oV 10 (evOff 0 t3) fun t10 =>
  P.oV 11 (evLoad T0 sx2.h 27 t10) fun t11 =>
  P.oT (readOK sx2.n [5, 4, 0, 1] [(5, ((sx2.n + 1), (some (.cells [(.s []), (.s []), (.s []), (.i .i64 0), (.i .i64 0), (.i .i64 0), (.i .i64 0), (.b false), (.i .i64 0), (.nilz true), (.nilz true), (.nilz true), (.nilz true)] 27 false)))), (4, (sx2.n, (some (.cells [(.s []), (.s []), (.s []), (.i .i64 0), (.i .i64 0), (.i .i64 0), (.i .i64 0), (.b false), (.i .i64 0), (.nilz true), (.nilz true), (.nilz true), (.nilz true)] 27 false))))] [(5, ((sx2.n + 1), (some (.cells [(.s []), (.s []), (.s []), (.i .i64 0), (.i .i64 0), (.i .i64 0), (.i .i64 0), (.b false), (.i .i64 0), (.nilz true), (.nilz true), (.nilz true), (.nilz true)] 27 false)))), (4, (sx2.n, (some (.cells [(.s []), (.s []), (.s []), (.i .i64 0), (.i .i64 0), (.i .i64 0), (.i .i64 0), (.b false), (.i .i64 0), (.nilz true), (.nilz true), (.nilz true), (.nilz true)] 27 false))))]) (P.oD (storeA T0 ((sx2.h.put sx2.n (some (.cells [(.s []), (.s []), (.s []), (.i .i64 0), (.i .i64 0), (.i .i64 0), (.i .i64 0), (.b false), (.i .i64 0), (.nilz true), (.nilz true), (.nilz true), (.nilz true)] 27 false))).put (sx2.n + 1) (some (.cells [(.s []), (.s []), (.s []), (.i .i64 0), (.i .i64 0), (.i .i64 0), (.i .i64 0), (.b false), (.i .i64 0), (.nilz true), (.nilz true), (.nilz true), (.nilz true)] 27 false))) 27 (.ptr sx2.n 0) t9) fun i b =>
  P.oT ((rdsOK sx2.n (befG [[], [0], [], [2], [], [], [5, 4, 0, 1], [5, 4, 0, 1, 6, 2, 3]]) [5, 4, 0, 1] [(5, ((sx2.n + 1), (some (.cells [(.s []), (.s []), (.s []), (.i .i64 0), (.i .i64 0), (.i .i64 0), (.i .i64 0), (.b false), (.i .i64 0), (.nilz true), (.nilz true), (.nilz true), (.nilz true)] 27 false)))), (4, (sx2.n, (some (.cells [(.s []), (.s []), (.s []), (.i .i64 0), (.i .i64 0), (.i .i64 0), (.i .i64 0), (.b false), (.i .i64 0), (.nilz true), (.nilz true), (.nilz true), (.nilz true)] 27 false))))] i [3, 2, 1, 0]) && (wrsOK [5, 4, 0, 1] i [(5, ((sx2.n + 1), (some (.cells [(.s []), (.s []), (.s []), (.i .i64 0), (.i .i64 0), (.i .i64 0), (.i .i64 0), (.b false), (.i .i64 0), (.nilz true), (.nilz true), (.nilz true), (.nilz true)] 27 false)))), (4, (sx2.n, (some (.cells [(.s []), (.s []), (.s []), (.i .i64 0), (.i .i64 0), (.i .i64 0), (.i .i64 0), (.b false), (.i .i64 0), (.nilz true), (.nilz true), (.nilz true), (.nilz true)] 27 false))))])) (P.oT (readOK sx2.n [5, 4, 0, 1, 6, 2, 3] [(6, (i, (some b))), (5, ((sx2.n + 1), (some (.cells [(.s []), (.s []), (.s []), (.i .i64 0), (.i .i64 0), (.i .i64 0), (.i .i64 0), (.b false), (.i .i64 0), (.nilz true), (.nilz true), (.nilz true), (.nilz true)] 27 false)))), (4, (sx2.n, (some (.cells [(.s []), (.s []), (.s []), (.i .i64 0), (.i .i64 0), (.i .i64 0), (.i .i64 0), (.b false), (.i .i64 0), (.nilz true), (.nilz true), (.nilz true), (.nilz true)] 27 false))))] [(6, (i, (some b))), (5, ((sx2.n + 1), (some (.cells [(.s []), (.s []), (.s []), (.i .i64 0), (.i .i64 0), (.i .i64 0), (.i .i64 0), (.b false), (.i .i64 0), (.nilz true), (.nilz true), (.nilz true), (.nilz true)] 27 false)))), (4, (sx2.n, (some (.cells [(.s []), (.s []), (.s []), (.i .i64 0), (.i .i64 0), (.i .i64 0), (.i .i64 0), (.b false), (.i .i64 0), (.nilz true), (.nilz true), (.nilz true), (.nilz true)] 27 false))))]) (P.oD (storeA T0 (((sx2.h.put sx2.n (some (.cells [(.s []), (.s []), (.s []), (.i .i64 0), (.i .i64 0), (.i .i64 0), (.i .i64 0), (.b false), (.i .i64 0), (.nilz true), (.nilz true), (.nilz true), (.nilz true)] 27 false))).put (sx2.n + 1) (some (.cells [(.s []), (.s []), (.s []), (.i .i64 0), (.i .i64 0), (.i .i64 0), (.i .i64 0), (.b false), (.i .i64 0), (.nilz true), (.nilz true), (.nilz true), (.nilz true)] 27 false))).put i (some b)) 27 (.ptr (sx2.n + 1) 0) t11) fun ix1 bx1 =>
  P.oT ((rdsOK sx2.n (befG [[], [0], [], [2], [], [], [5, 4, 0, 1], [5, 4, 0, 1, 6, 2, 3]]) [5, 4, 0, 1, 6, 2, 3] [(6, (i, (some b))), (5, ((sx2.n + 1), (some (.cells [(.s []), (.s []), (.s []), (.i .i64 0), (.i .i64 0), (.i .i64 0), (.i .i64 0), (.b false), (.i .i64 0), (.nilz true), (.nilz true), (.nilz true), (.nilz true)] 27 false)))), (4, (sx2.n, (some (.cells [(.s []), (.s []), (.s []), (.i .i64 0), (.i .i64 0), (.i .i64 0), (.i .i64 0), (.b false), (.i .i64 0), (.nilz true), (.nilz true), (.nilz true), (.nilz true)] 27 false))))] ix1 [3, 2, 1, 0]) && (wrsOK [5, 4, 0, 1, 6, 2, 3] ix1 [(6, (i, (some b))), (5, ((sx2.n + 1), (some (.cells [(.s []), (.s []), (.s []), (.i .i64 0), (.i .i64 0), (.i .i64 0), (.i .i64 0), (.b false), (.i .i64 0), (.nilz true), (.nilz true), (.nilz true), (.nilz true)] 27 false)))), (4, (sx2.n, (some (.cells [(.s []), (.s []), (.s []), (.i .i64 0), (.i .i64 0), (.i .i64 0), (.i .i64 0), (.b false), (.i .i64 0), (.nilz true), (.nilz true), (.nilz true), (.nilz true)] 27 false))))])) (P.oS ⟨((((sx2.h.put sx2.n (some (.cells [(.s []), (.s []), (.s []), (.i .i64 0), (.i .i64 0), (.i .i64 0), (.i .i64 0), (.b false), (.i .i64 0), (.nilz true), (.nilz true), (.nilz true), (.nilz true)] 27 false))).put (sx2.n + 1) (some (.cells [(.s []), (.s []), (.s []), (.i .i64 0), (.i .i64 0), (.i .i64 0), (.i .i64 0), (.b false), (.i .i64 0), (.nilz true), (.nilz true), (.nilz true), (.nilz true)] 27 false))).put i (some b)).put ix1 (some bx1)), ((sx2.n + 1) + 1)⟩ fun sx3 =>
  P.oV 12 (evLoad T0 sx3.h 27 (.ptr sx2.n 0)) fun t12 =>
  P.oC 13 39 [t12] sx3 fun t13 sx4 =>
  P.oV 14 (evLoad T0 sx3.h 27 (.ptr (sx2.n + 1) 0)) fun t14 =>
  P.oC 15 39 [t14] sx3 fun t15 sx5 =>
  P.oV 16 (evBin T0 .neq 62 false t13 t15) fun t16 =>
  P.oG [18, 19, 20, 21, 22] t16 false (fun (k : C5) => P.oV 18 (evOff 3 (.ptr sx2.n 0)) fun t18 =>
   P.oV 19 (evLoad T0 sx3.h 3 t18) fun t19 =>
   P.oV 20 (evOff 3 (.ptr (sx2.n + 1) 0)) fun t20 =>
   P.oV 21 (evLoad T0 sx3.h 3 t20) fun t21 =>
   P.oV 22 (evBin T0 .neq 3 false t19 t21) fun t22 =>
   k t18 t19 t20 t21 t22 sx3) sx3 fun t18 t19 t20 t21 t22 sx6 =>
  P.oV 23 (evPick t16 (some (.b true)) (some t22)) fun t23 =>
  P.oG [25, 26, 27, 28, 29] t23 false (fun (k : C5) => P.oV 25 (evOff 4 (.ptr sx2.n 0)) fun t25 =>
   P.oV 26 (evLoad T0 sx3.h 3 t25) fun t26 =>
   P.oV 27 (evOff 4 (.ptr (sx2.n + 1) 0)) fun t27 =>
   P.oV 28 (evLoad T0 sx3.h 3 t27) fun t28 =>
   P.oV 29 (evBin T0 .neq 3 false t26 t28) fun t29 =>
   k t25 t26 t27 t28 t29 sx3) sx3 fun t25 t26 t27 t28 t29 sx7 =>
  P.oV 30 (evPick t23 (some (.b true)) (some t29)) fun t30 =>
  P.oG [32, 33, 34, 35, 36] t30 false (fun (k : C5) => P.oV 32 (evOff 5 (.ptr sx2.n 0)) fun t32 =>
   P.oV 33 (evLoad T0 sx3.h 3 t32) fun t33 =>
   P.oV 34 (evOff 5 (.ptr (sx2.n + 1) 0)) fun t34 =>
   P.oV 35 (evLoad T0 sx3.h 3 t34) fun t35 =>
   P.oV 36 (evBin T0 .neq 3 false t33 t35) fun t36 =>
   k t32 t33 t34 t35 t36 sx3) sx3 fun t32 t33 t34 t35 t36 sx8 =>
  P.oV 37 (evPick t30 (some (.b true)) (some t36)) fun t37 =>
  P.oG [39, 40, 41, 42, 43] t37 false (fun (k : C5) => P.oV 39 (evOff 6 (.ptr sx2.n 0)) fun t39 =>
   P.oV 40 (evLoad T0 sx3.h 3 t39) fun t40 =>
   P.oV 41 (evOff 6 (.ptr (sx2.n + 1) 0)) fun t41 =>
   P.oV 42 (evLoad T0 sx3.h 3 t41) fun t42 =>
   P.oV 43 (evBin T0 .neq 3 false t40 t42) fun t43 =>
   k t39 t40 t41 t42 t43 sx3) sx3 fun t39 t40 t41 t42 t43 sx9 =>
  P.oV 44 (evPick t37 (some (.b true)) (some t43)) fun t44 =>
  P.oG [46, 47, 48, 49, 50] t44 false (fun (k : C5) => P.oV 46 (evOff 7 (.ptr sx2.n 0)) fun t46 =>
   P.oV 47 (evLoad T0 sx3.h 4 t46) fun t47 =>
   P.oV 48 (evOff 7 (.ptr (sx2.n + 1) 0)) fun t48 =>
   P.oV 49 (evLoad T0 sx3.h 4 t48) fun t49 =>
   P.oV 50 (evBin T0 .neq 4 false t47 t49) fun t50 =>
   k t46 t47 t48 t49 t50 sx3) sx3 fun t46 t47 t48 t49 t50 sx10 =>
  P.oV 51 (evPick t44 (some (.b true)) (some t50)) fun t51 =>
  P.oG [53, 54, 55, 56, 57] t51 false (fun (k : C5) => P.oV 53 (evOff 8 (.ptr sx2.n 0)) fun t53 =>
   P.oV 54 (evLoad T0 sx3.h 3 t53) fun t54 =>
   P.oV 55 (evOff 8 (.ptr (sx2.n + 1) 0)) fun t55 =>
   P.oV 56 (evLoad T0 sx3.h 3 t55) fun t56 =>
   P.oV 57 (evBin T0 .neq 3 false t54 t56) fun t57 =>
   k t53 t54 t55 t56 t57 sx3) sx3 fun t53 t54 t55 t56 t57 sx11 =>
  P.oV 58 (evPick t51 (some (.b true)) (some t57)) fun t58 =>
  P.oI t58 (Q (.b false) sx3)
  (P.oV 59 (evOff 9 (.ptr sx2.n 0)) fun t59 =>
   P.oV 60 (evLoad T0 sx3.h 22 t59) fun t60 =>
   P.oV 61 (evOff 9 (.ptr (sx2.n + 1) 0)) fun t61 =>
   P.oV 62 (evLoad T0 sx3.h 22 t61) fun t62 =>
   P.oC 63 40 [t60, t62] sx3 fun t63 sx12 =>
   P.oV 64 (evUn .not t63) fun t64 =>
   P.oG [66, 67, 68, 69, 70, 71] t64 false (fun (k : C6) => P.oV 66 (evOff 10 (.ptr sx2.n 0)) fun t66 =>
    P.oV 67 (evLoad T0 sx12.h 23 t66) fun t67 =>
    P.oV 68 (evOff 10 (.ptr (sx2.n + 1) 0)) fun t68 =>
    P.oV 69 (evLoad T0 sx12.h 23 t68) fun t69 =>
    P.oC 70 41 [t67, t69] sx12 fun t70 sx13 =>
    P.oV 71 (evUn .not t70) fun t71 =>
    k t66 t67 t68 t69 t70 t71 sx13) sx12 fun t66 t67 t68 t69 t70 t71 sx13 =>
   P.oV 72 (evPick t64 (some (.b true)) (some t71)) fun t72 =>
   P.oG [74, 75, 76, 77, 78, 79] t72 false (fun (k : C6) => P.oV 74 (evOff 11 (.ptr sx2.n 0)) fun t74 =>
    P.oV 75 (evLoad T0 sx13.h 24 t74) fun t75 =>
    P.oV 76 (evOff 11 (.ptr (sx2.n + 1) 0)) fun t76 =>
    P.oV 77 (evLoad T0 sx13.h 24 t76) fun t77 =>
    P.oC 78 42 [t75, t77] sx13 fun t78 sx14 =>
    P.oV 79 (evUn .not t78) fun t79 =>
    k t74 t75 t76 t77 t78 t79 sx14) sx13 fun t74 t75 t76 t77 t78 t79 sx14 =>
   P.oV 80 (evPick t72 (some (.b true)) (some t79)) fun t80 =>
   P.oI t80 (Q (.b false) sx14)
   (P.oV 81 (evOff 12 (.ptr sx2.n 0)) fun t81 =>
    P.oV 82 (evLoad T0 sx14.h 25 t81) fun t82 =>
    P.oV 83 (evOff 12 (.ptr (sx2.n + 1) 0)) fun t83 =>
    P.oV 84 (evLoad T0 sx14.h 25 t83) fun t84 =>
    P.oC 86 44 [t82, t84, (.fn 43 [] [])] sx14 fun t86 sx15 =>
    P.oG [88, 89, 90, 91, 92] t86 true (fun (k : C5) => P.oV 88 (evOff 13 t2) fun t88 =>
     P.oV 89 (evLoad T0 sx15.h 32 t88) fun t89 =>
     P.oV 90 (evOff 13 t3) fun t90 =>
     P.oV 91 (evLoad T0 sx15.h 32 t90) fun t91 =>
     P.oC 92 45 [t89, t91] sx15 fun t92 sx16 =>
     k t88 t89 t90 t91 t92 sx16) sx15 fun t88 t89 t90 t91 t92 sx16 =>
    P.oV 93 (evPick t86 (some t92) (some (.b false))) fun t93 =>
    P.oG [95, 96, 97, 98, 99] t93 true (fun (k : C5) => P.oV 95 (evOff 18 t2) fun t95 =>
     P.oV 96 (evLoad T0 sx16.h 32 t95) fun t96 =>
     P.oV 97 (evOff 18 t3) fun t97 =>
     P.oV 98 (evLoad T0 sx16.h 32 t97) fun t98 =>
     P.oC 99 45 [t96, t98] sx16 fun t99 sx17 =>
     k t95 t96 t97 t98 t99 sx17) sx16 fun t95 t96 t97 t98 t99 sx17 =>
    P.oV 100 (evPick t93 (some t99) (some (.b false))) fun t100 =>
    Q t100 sx17))))))
theorem w20_eq (P : Prims) (a0 a1 : AV) (Q : AV → AS → Prop) : w20 P a0 a1 Q = vcBody P T0 Go.Proofs.Tryd.f20 (codeOf Go.Proofs.Tryd.f20) an20 [a0, a1] ⟨.nil, 0⟩ Q := by kernel_rfl
theorem r20 (a0 a1 : AV) {r : AV} (hi : AV.idfree.idfrees [a0, a1] = true) (hn : AV.norm.norms [a0, a1] = [a0, a1]) (h : w20 (prims T0) a0 a1 (fun r1 s1 => oZ T0 s1 r1 (fun r2 => r2 = r))) : R T0 20 [a0, a1] r :=
  R.mk (by kernel_rfl) (by kernel_rfl) (show T0.fn 20 = some Go.Proofs.Tryd.f20 by kernel_rfl) (by kernel_rfl) (by kernel_rfl) hi hn (by rw [w20_eq] at h; exact h)
/- orchestrator/orchestratorref13.Equal -/
def an21 : AN := (.seq none .leaf (.seq none .leaf .leaf))
def w21 (P : Prims) (a0 a1 : AV) (Q : AV → AS → Prop) : Prop :=
  P.oN 2 (.cells (AV.cells a0) 34 false) (fun id => (.ptr id 0)) ⟨Tr.nil, 0⟩ fun t2 sx1 =>
  P.oN 3 (.cells (AV.cells a1) 34 false) (fun id => (.ptr id 0)) sx1 fun t3 sx2 =>
  P.oV 5 (evOff 0 t2) fun t5 =>
  P.oV 6 (evLoad T0 sx2.h 27 t5) fun t6 =>
  P.oV 7 (evOff 0 t3) fun t7 =>
  P.oV 8 (evLoad T0 sx2.h 27 t7) fun t8 =>
  P.oC 9 46 [t6, t8] sx2 fun t9 sx3 =>
  P.oG [11, 12, 13, 14, 15] t9 true (fun (k : C5) => P.oV 11 (evOff 13 t2) fun t11 =>
   P.oV 12 (evLoad T0 sx3.h 32 t11) fun t12 =>
   P.oV 13 (evOff 13 t3) fun t13 =>
   P.oV 14 (evLoad T0 sx3.h 32 t13) fun t14 =>
   P.oC 15 47 [t12, t14] sx3 fun t15 sx4 =>
   k t11 t12 t13 t14 t15 sx4) sx3 fun t11 t12 t13 t14 t15 sx4 =>
  P.oV 16 (evPick t9 (some t15) (some (.b false))) fun t16 =>
  P.oG [18, 19, 20, 21, 22] t16 true (fun (k : C5) => P.oV 18 (evOff 18 t2) fun t18 =>
   P.oV 19 (evLoad T0 sx4.h 32 t18) fun t19 =>
   P.oV 20 (evOff 18 t3) fun t20 =>
   P.oV 21 (evLoad T0 sx4.h 32 t20) fun t21 =>
   P.oC 22 47 [t19, t21] sx4 fun t22 sx5 =>
   k t18 t19 t20 t21 t22 sx5) sx4 fun t18 t19 t20 t21 t22 sx5 =>
  P.oV 23 (evPick t16 (some t22) (some (.b false))) fun t23 =>
  Q t23 sx5
theorem w21_eq (P : Prims) (a0 a1 : AV) (Q : AV → AS → Prop) : w21 P a0 a1 Q = vcBody P T0 Go.Proofs.Tryd.f21 (codeOf Go.Proofs.Tryd.f21) an21 [a0, a1] ⟨.nil, 0⟩ Q := by kernel_rfl
theorem r21 (a0 a1 : AV) {r : AV} (hi : AV.idfree.idfrees [a0, a1] = true) (hn : AV.norm.norms [a0, a1] = [a0, a1]) (h : w21 (prims T0) a0 a1 (fun r1 s1 => oZ T0 s1 r1 (fun r2 => r2 = r))) : R T0 21 [a0, a1] r :=
  R.mk (by kernel_rfl) (by kernel_rfl) (show T0.fn 21 = some Go.Proofs.Tryd.f21 by kernel_rfl) (by kernel_rfl) (by kernel_rfl) hi hn (by rw [w21_eq] at h; exact h)
/- orchestrator/meta.Child -/
def an22 : AN := (.seq none .leaf (.seq none .leaf (.seq none .leaf .leaf)))
def w22 (P : Prims) (a0 a1 : AV) (Q : AV → AS → Prop) : Prop :=
  P.oV 7 (evBuiltin T0 Tr.nil .max [3, 3] [a1, (.i .i64 0)]) fun t7 =>
  P.oC 8 48 [t7] ⟨Tr.nil, 0⟩ fun t8 sx1 =>
  P.oV 9 (evBin T0 .add 9 true (.s [45]) t8) fun t9 =>
  P.oV 12 (evBuiltin T0 sx1.h .len [9] [a0]) fun t12 =>
  P.oV 14 (evBuiltin T0 sx1.h .len [9] [t9]) fun t14 =>
  P.oV 15 (evBin T0 .sub 3 true (.i .i64 40) t14) fun t15 =>
  P.oV 16 (evBuiltin T0 sx1.h .min [3, 3] [t12, t15]) fun t16 =>
  P.oV 17 (evSlice T0 9 a0 none (some t16) none) fun t17 =>
  P.oV 19 (evBin T0 .add 9 false t17 t9) fun t19 =>
  Q t19 sx1
theorem w22_eq (P : Prims) (a0 a1 : AV) (Q : AV → AS → Prop) : w22 P a0 a1 Q = vcBody P T0 Go.Proofs.Tryd.f22 (codeOf Go.Proofs.Tryd.f22) an22 [a0, a1] ⟨.nil, 0⟩ Q := by kernel_rfl
theorem r22 (a0 a1 : AV) {r : AV} (hi : AV.idfree.idfrees [a0, a1] = true) (hn : AV.norm.norms [a0, a1] = [a0, a1]) (h : w22 (prims T0) a0 a1 (fun r1 s1 => oZ T0 s1 r1 (fun r2 => r2 = r))) : R T0 22 [a0, a1] r :=
  R.mk (by kernel_rfl) (by kernel_rfl) (show T0.fn 22 = some Go.Proofs.Tryd.f22 by kernel_rfl) (by kernel_rfl) (by kernel_rfl) hi hn (by rw [w22_eq] at h; exact h)
/- orchestrator/orchestratorref13.Child -/
def an23 : AN := (.seq none .leaf (.seq none .leaf (.seq none .leaf .leaf)))
def w23 (P : Prims) (a0 a1 : AV) (Q : AV → AS → Prop) : Prop :=
  P.oV 7 (evBuiltin T0 Tr.nil .max [3, 3] [a1, (.i .i64 0)]) fun t7 =>
  P.oC 8 49 [t7] ⟨Tr.nil, 0⟩ fun t8 sx1 =>
  P.oV 9 (evBin T0 .add 9 true (.s [45]) t8) fun t9 =>
  P.oV 12 (evBuiltin T0 sx1.h .len [9] [a0]) fun t12 =>
  P.oV 14 (evBuiltin T0 sx1.h .len [9] [t9]) fun t14 =>
  P.oV 15 (evBin T0 .sub 3 true (.i .i64 40) t14) fun t15 =>
  P.oV 16 (evBuiltin T0 sx1.h .min [3, 3] [t12, t15]) fun t16 =>
  P.oV 17 (evSlice T0 9 a0 none (some t16) none) fun t17 =>
  P.oV 19 (evBin T0 .add 9 false t17 t9) fun t19 =>
  Q t19 sx1
theorem w23_eq (P : Prims) (a0 a1 : AV) (Q : AV → AS → Prop) : w23 P a0 a1 Q = vcBody P T0 Go.Proofs.Tryd.f23 (codeOf Go.Proofs.Tryd.f23) an23 [a0, a1] ⟨.nil, 0⟩ Q := by kernel_rfl
theorem r23 (a0 a1 : AV) {r : AV} (hi : AV.idfree.idfrees [a0, a1] = true) (hn : AV.norm.norms [a0, a1] = [a0, a1]) (h : w23 (prims T0) a0 a1 (fun r1 s1 => oZ T0 s1 r1 (fun r2 => r2 = r))) : R T0 23 [a0, a1] r :=
  R.mk (by kernel_rfl) (by kernel_rfl) (show T0.fn 23 = some Go.Proofs.Tryd.f23 by kernel_rfl) (by kernel_rfl) (by kernel_rfl) hi hn (by rw [w23_eq] at h; exact h)
/- orchestrator/meta.KeyOf -/
def an24 : AN := (.seq none .leaf (.seq none .leaf .leaf))
def w24 (P : Prims) (a0 : AV) (Q : AV → AS → Prop) : Prop :=
  P.oN 1 (.cells (AV.cells a0) 27 false) (fun id => (.ptr id 0)) ⟨Tr.nil, 0⟩ fun t1 sx1 =>
  P.oV 3 (evOff 0 t1) fun t3 =>
  P.oV 4 (evLoad T0 sx1.h 9 t3) fun t4 =>
  P.oV 5 (evOff 1 t1) fun t5 =>
  P.oV 6 (evLoad T0 sx1.h 9 t5) fun t6 =>
  P.oV 7 (evOff 2 t1) fun t7 =>
  P.oV 8 (evLoad T0 sx1.h 9 t7) fun t8 =>
  P.oC 9 17 [t4, t6, t8] sx1 fun t9 sx2 =>
  Q t9 sx2
theorem w24_eq (P : Prims) (a0 : AV) (Q : AV → AS → Prop) : w24 P a0 Q = vcBody P T0 Go.Proofs.Tryd.f24 (codeOf Go.Proofs.Tryd.f24) an24 [a0] ⟨.nil, 0⟩ Q := by kernel_rfl
theorem r24 (a0 : AV) {r : AV} (hi : AV.idfree.idfrees [a0] = true) (hn : AV.norm.norms [a0] = [a0]) (h : w24 (prims T0) a0 (fun r1 s1 => oZ T0 s1 r1 (fun r2 => r2 = r))) : R T0 24 [a0] r :=
  R.mk (by kernel_rfl) (by kernel_rfl) (show T0.fn 24 = some Go.Proofs.Tryd.f24 by kernel_rfl) (by kernel_rfl) (by kernel_rfl) hi hn (by rw [w24_eq] at h; exact h)
/- orchestrator/orchestratorref04.Small -/
def an25 : AN := (.seq none .leaf (.seq none .leaf .leaf))
def w25 (P : Prims) (a0 a1 : AV) (Q : AV → AS → Prop) : Prop :=
  P.oN 2 (.cells (AV.cells a0) 32 false) (fun id => (.ptr id 0)) ⟨Tr.nil, 0⟩ fun t2 sx1 =>
  P.oV 5 (evLoad T0 sx1.h 32 t2) fun t5 =>
  P.oC 8 50 [t5, a1, a1] sx1 fun t8 sx2 =>
  P.oV 9 (evBin T0 .geq 3 true t8 (.i .i64 0)) fun t9 =>
  Q t9 sx2
theorem w25_eq (P : Prims) (a0 a1 : AV) (Q : AV → AS → Prop) : w25 P a0 a1 Q = vcBody P T0 Go.Proofs.Tryd.f25 (codeOf Go.Proofs.Tryd.f25) an25 [a0, a1] ⟨.nil, 0⟩ Q := by kernel_rfl
theorem r25 (a0 a1 : AV) {r : AV} (hi : AV.idfree.idfrees [a0, a1] = true) (hn : AV.norm.norms [a0, a1] = [a0, a1]) (h : w25 (prims T0) a0 a1 (fun r1 s1 => oZ T0 s1 r1 (fun r2 => r2 = r))) : R T0 25 [a0, a1] r :=
  R.mk (by kernel_rfl) (by kernel_rfl) (show T0.fn 25 = some Go.Proofs.Tryd.f25 by kernel_rfl) (by kernel_rfl) (by kernel_rfl) hi hn (by rw [w25_eq] at h; exact h)
/- orchestrator/meta.kind -/
def an26 : AN := (.seq none .leaf (.seq none (.seq none .leaf (.one (.loop [0, 6, 7] (.seq none .leaf (.seq none (.two .leaf .leaf) (.seq none (.one (.seq none .leaf (.seq none .leaf (.seq none .leaf (.two (.seq none .leaf .leaf) .leaf))))) .leaf)))))) (.seq none .leaf .leaf)))
def w26 (P : Prims) (a0 : AV) (Q : AV → AS → Prop) : Prop :=
  P.oV 6 (evBuiltin T0 Tr.nil .len [9] [a0]) fun t6 =>
  P.oL [0, 6, 7] (fun (next : C3) t0 t6x1 t7 sx1 =>
  P.oV 8 (evBin T0 .lss 3 false t7 t6x1) fun t8 =>
  P.oI t8 (P.oV 12 (evIndex T0 9 t0 t7) fun t12 =>
   P.oV 14 (evBin T0 .geq 5 true t12 (.i .u8 65)) fun t14 =>
   P.oG [16, 17] t14 true (fun (k : C2) => P.oV 17 (evBin T0 .leq 5 true t12 (.i .u8 90)) fun t17 =>
    k t12 t17 sx1) sx1 fun t16 t17 sx2 =>
   P.oV 18 (evPick t14 (some t17) (some (.b false))) fun t18 =>
   P.oG [20, 21, 22] t18 false (fun (k : C3) => P.oV 21 (evBin T0 .gtr 3 true t7 (.i .i64 0)) fun t21 =>
    k t7 t21 t21 sx2) sx2 fun t20 t21 t22 sx3 =>
   P.oG [23, 24] t22 true (fun (k : C2) => P.oV 24 (evBin T0 .geq 5 true t12 (.i .u8 97)) fun t24 =>
    k t12 t24 sx3) sx3 fun t23 t24 sx4 =>
   P.oG [25, 26] t18 false (fun (k : C2) => P.oV 25 (evPick t22 (some t24) (some (.b false))) fun t25 =>
    k t25 t25 sx4) sx4 fun t25 t26 sx5 =>
   P.oG [27, 28] t26 true (fun (k : C2) => P.oV 28 (evBin T0 .leq 5 true t12 (.i .u8 122)) fun t28 =>
    k t12 t28 sx5) sx5 fun t27 t28 sx6 =>
   P.oG [29] t18 false (fun (k : C1) => P.oV 29 (evPick t26 (some t28) (some (.b false))) fun t29 =>
    k t29 sx6) sx6 fun t29 sx7 =>
   P.oV 30 (evPick t18 (some (.b true)) (some t29)) fun t30 =>
   P.oV 31 (evUn .not t30) fun t31 =>
   P.oI t31 (Q (.b false) sx7)
   (P.oV 32 (evBin T0 .add 3 true t7 (.i .i64 1)) fun t32 =>
    next t0 t6x1 t32 sx7))
  (P.oV 34 (evBuiltin T0 sx1.h .len [9] [t0]) fun t34 =>
   P.oV 35 (evBin T0 .geq 3 true t34 (.i .i64 1)) fun t35 =>
   P.oG [37, 38, 39] t35 true (fun (k : C3) => P.oV 38 (evBuiltin T0 sx1.h .len [9] [t0]) fun t38 =>
    P.oV 39 (evBin T0 .leq 3 true t38 (.i .i64 40)) fun t39 =>
    k t0 t38 t39 sx1) sx1 fun t37 t38 t39 sx2 =>
   P.oV 40 (evPick t35 (some t39) (some (.b false))) fun t40 =>
   Q t40 sx2)) a0 t6 (.i .i64 0) ⟨Tr.nil, 0⟩
theorem w26_eq (P : Prims) (a0 : AV) (Q : AV → AS → Prop) : w26 P a0 Q = vcBody P T0 Go.Proofs.Tryd.f26 (codeOf Go.Proofs.Tryd.f26) an26 [a0] ⟨.nil, 0⟩ Q := by kernel_rfl
theorem r26 (a0 : AV) {r : AV} (hi : AV.idfree.idfrees [a0] = true) (hn : AV.norm.norms [a0] = [a0]) (h : w26 (prims T0) a0 (fun r1 s1 => oZ T0 s1 r1 (fun r2 => r2 = r))) : R T0 26 [a0] r :=
  R.mk (by kernel_rfl) (by kernel_rfl) (show T0.fn 26 = some Go.Proofs.Tryd.f26 by kernel_rfl) (by kernel_rfl) (by kernel_rfl) hi hn (by rw [w26_eq] at h; exact h)
/- orchestrator/meta.space -/
def an27 : AN := (.seq none .leaf (.seq none .leaf .leaf))
def w27 (P : Prims) (a0 : AV) (Q : AV → AS → Prop) : Prop :=
  P.oV 4 (evBin T0 .eql 9 true a0 (.s [])) fun t4 =>
  P.oG [6, 7] t4 false (fun (k : C2) => P.oC 7 13 [a0] ⟨Tr.nil, 0⟩ fun t7 sx1 =>
   k a0 t7 sx1) ⟨Tr.nil, 0⟩ fun t6 t7 sx1 =>
  P.oV 8 (evPick t4 (some (.b true)) (some t7)) fun t8 =>
  Q t8 sx1
theorem w27_eq (P : Prims) (a0 : AV) (Q : AV → AS → Prop) : w27 P a0 Q = vcBody P T0 Go.Proofs.Tryd.f27 (codeOf Go.Proofs.Tryd.f27) an27 [a0] ⟨.nil, 0⟩ Q := by kernel_rfl
theorem r27 (a0 : AV) {r : AV} (hi : AV.idfree.idfrees [a0] = true) (hn : AV.norm.norms [a0] = [a0]) (h : w27 (prims T0) a0 (fun r1 s1 => oZ T0 s1 r1 (fun r2 => r2 = r))) : R T0 27 [a0] r :=
  R.mk (by kernel_rfl) (by kernel_rfl) (show T0.fn 27 = some Go.Proofs.Tryd.f27 by kernel_rfl) (by kernel_rfl) (by kernel_rfl) hi hn (by rw [w27_eq] at h; exact h)
/- orchestrator/label.Valid -/
def an28 : AN := (.seq none .leaf (.seq none (.seq none .leaf (.two (.seq none .leaf .leaf) .leaf)) (.seq none (.seq none .leaf (.one (.loop [0, 8, 9, 10] (.seq none .leaf (.seq none (.two .leaf .leaf) (.seq none (.one (.seq none .leaf (.seq none .leaf (.two (.seq none .leaf .leaf) .leaf)))) .leaf)))))) (.seq none .leaf .leaf))))
def w28 (P : Prims) (a0 : AV) (Q : AV → AS → Prop) : Prop :=
  P.oV 6 (evBuiltin T0 Tr.nil .len [22] [a0]) fun t6 =>
  P.oV 7 (evBin T0 .gtr 3 true t6 (.i .i64 16)) fun t7 =>
  P.oI t7 (Q (.b false) ⟨Tr.nil, 0⟩)
  (P.oV 9 (evBuiltin T0 Tr.nil .len [22] [a0]) fun t9 =>
   P.oL [0, 8, 9, 10] (fun (next : C4) t0 t8 t9x1 t10 sx1 =>
   P.oV 11 (evBin T0 .lss 3 false t10 t9x1) fun t11 =>
   P.oI t11 (P.oV 13 (evIndexAddr T0 22 t8 t10) fun t13 =>
    P.oV 14 (evLoad T0 sx1.h 66 t13) fun t14 =>
    P.oN 4 (.cells [(.s []), (.s [])] 66 false) (fun id => (.ptr id 0)) sx1 fun t4 sx2 =>
    P.oH (evStore T0 sx2.h 66 t4 t14) sx2 fun sx3 =>
    P.oV 15 (evOff 0 t4) fun t15 =>
    P.oV 16 (evLoad T0 sx3.h 9 t15) fun t16 =>
    P.oC 17 51 [t16] sx3 fun t17 sx4 =>
    P.oV 18 (evUn .not t17) fun t18 =>
    P.oG [20, 21, 22, 23] t18 false (fun (k : C4) => P.oV 20 (evOff 1 t4) fun t20 =>
     P.oV 21 (evLoad T0 sx3.h 9 t20) fun t21 =>
     P.oC 22 52 [t21] sx3 fun t22 sx5 =>
     P.oV 23 (evUn .not t22) fun t23 =>
     k t20 t21 t22 t23 sx3) sx3 fun t20 t21 t22 t23 sx5 =>
    P.oV 24 (evPick t18 (some (.b true)) (some t23)) fun t24 =>
    P.oG [26, 27, 28] t24 false (fun (k : C3) => P.oV 27 (evBin T0 .gtr 3 true t10 (.i .i64 0)) fun t27 =>
     k t10 t27 t27 sx3) sx3 fun t26 t27 t28 sx6 =>
    P.oG [29, 30, 31, 32, 33, 34, 35, 36, 37] t28 true (fun (k : C9) => P.oV 29 (evOff 0 t4) fun t29 =>
     P.oV 30 (evLoad T0 sx3.h 9 t29) fun t30 =>
     P.oV 33 (evBin T0 .sub 3 true t10 (.i .i64 1)) fun t33 =>
     P.oV 34 (evIndexAddr T0 22 t0 t33) fun t34 =>
     P.oV 35 (evOff 0 t34) fun t35 =>
     P.oV 36 (evLoad T0 sx3.h 9 t35) fun t36 =>
     P.oV 37 (evBin T0 .leq 9 false t30 t36) fun t37 =>
     k t29 t30 t0 t10 t33 t34 t35 t36 t37 sx3) sx3 fun t29 t30 t31 t32 t33 t34 t35 t36 t37 sx7 =>
    P.oG [38] t24 false (fun (k : C1) => P.oV 38 (evPick t28 (some t37) (some (.b false))) fun t38 =>
     k t38 sx3) sx3 fun t38 sx8 =>
    P.oV 39 (evPick t24 (some (.b true)) (some t38)) fun t39 =>
    P.oI t39 (Q (.b false) sx3)
    (P.oV 40 (evBin T0 .add 3 true t10 (.i .i64 1)) fun t40 =>
     next t0 t8 t9x1 t40 sx3))
   (Q (.b true) sx1)) a0 a0 t9 (.i .i64 0) ⟨Tr.nil, 0⟩)
theorem w28_eq (P : Prims) (a0 : AV) (Q : AV → AS → Prop) : w28 P a0 Q = vcBody P T0 Go.Proofs.Tryd.f28 (codeOf Go.Proofs.Tryd.f28) an28 [a0] ⟨.nil, 0⟩ Q := by kernel_rfl
theorem r28 (a0 : AV) {r : AV} (hi : AV.idfree.idfrees [a0] = true) (hn : AV.norm.norms [a0] = [a0]) (h : w28 (prims T0) a0 (fun r1 s1 => oZ T0 s1 r1 (fun r2 => r2 = r))) : R T0 28 [a0] r :=
  R.mk (by kernel_rfl) (by kernel_rfl) (show T0.fn 28 = some Go.Proofs.Tryd.f28 by kernel_rfl) (by kernel_rfl) (by kernel_rfl) hi hn (by rw [w28_eq] at h; exact h)
/- orchestrator/meta.owners -/
def an29 : AN := (.seq none .leaf (.seq none .leaf (.seq none .leaf (.seq none (.seq none .leaf (.one (.loop [4, 0, 3, 8, 9, 10] (.seq none .leaf (.seq none (.two .leaf .leaf) (.seq (some [4, 0, 3, 8, 9, 10]) (.one (.seq none .leaf (.seq none (.seq none .leaf (.two (.seq none .leaf .leaf) .leaf)) (.seq none .leaf (.seq none .leaf (.two .leaf .leaf)))))) .leaf)))))) (.seq none .leaf .leaf)))))
def w29 (P : Prims) (a0 : AV) (Q : AV → AS → Prop) : Prop :=
  P.oN 7 (.map []) (fun id => (.mp id)) ⟨Tr.nil, 0⟩ fun t7 sx1 =>
  P.oV 9 (evBuiltin T0 sx1.h .len [23] [a0]) fun t9 =>
  P.oL [4, 0, 3, 8, 9, 10] (fun (next : C6) t4 t0 t3 t8 t9x1 t10 sx2 =>
  P.oV 11 (evBin T0 .lss 3 false t10 t9x1) fun t11 =>
  P.oI t11 (P.oJ [4, 0, 3, 8, 9, 10] (fun (k : C6) =>
    P.oV 12 (evIndexAddr T0 23 t8 t10) fun t12 =>
    P.oV 13 (evLoad T0 sx2.h 43 t12) fun t13 =>
    P.oN 6 (.cells [(.s []), (.s []), (.i .i64 0), (.b false), (.b false)] 43 false) (fun id => (.ptr id 0)) sx2 fun t6 sx3 =>
    P.oH (evStore T0 sx3.h 43 t6 t13) sx3 fun sx4 =>
    P.oV 14 (evOff 0 t6) fun t14 =>
    P.oV 15 (evLoad T0 sx4.h 9 t14) fun t15 =>
    P.oC 16 26 [t15] sx4 fun t16 sx5 =>
    P.oV 17 (evUn .not t16) fun t17 =>
    P.oG [19, 20, 21, 22] t17 false (fun (kx1 : C4) => P.oV 19 (evOff 1 t6) fun t19 =>
     P.oV 20 (evLoad T0 sx5.h 9 t19) fun t20 =>
     P.oC 21 13 [t20] sx5 fun t21 sx6 =>
     P.oV 22 (evUn .not t21) fun t22 =>
     kx1 t19 t20 t21 t22 sx6) sx5 fun t19 t20 t21 t22 sx6 =>
    P.oV 23 (evPick t17 (some (.b true)) (some t22)) fun t23 =>
    P.oG [25, 26, 27] t23 false (fun (kx1 : C3) => P.oV 25 (evOff 2 t6) fun t25 =>
     P.oV 26 (evLoad T0 sx6.h 3 t25) fun t26 =>
     P.oV 27 (evBin T0 .leq 3 true t26 (.i .i64 0)) fun t27 =>
     kx1 t25 t26 t27 sx6) sx6 fun t25 t26 t27 sx7 =>
    P.oV 28 (evPick t23 (some (.b true)) (some t27)) fun t28 =>
    P.oG [30, 31, 32, 33] t28 false (fun (kx1 : C4) => P.oV 31 (evOff 2 t6) fun t31 =>
     P.oV 32 (evLoad T0 sx7.h 3 t31) fun t32 =>
     P.oV 33 (evLookup T0 sx7.h 74 t3 t32 false) fun t33 =>
     kx1 t3 t31 t32 t33 sx7) sx7 fun t30 t31 t32 t33 sx8 =>
    P.oV 34 (evPick t28 (some (.b true)) (some t33)) fun t34 =>
    P.oI t34 (Q (.b false) sx8)
    (P.oV 36 (evOff 2 t6) fun t36 =>
     P.oV 37 (evLoad T0 sx8.h 3 t36) fun t37 =>
     P.oH (evMapUpdate T0 sx8.h 74 t3 t37 (.b true)) sx8 fun sx9 =>
     P.oV 38 (evOff 3 t6) fun t38 =>
     P.oV 39 (evLoad T0 sx9.h 4 t38) fun t39 =>
     P.oI t39 (P.oV 41 (evBin T0 .add 3 true t4 (.i .i64 1)) fun t41 =>
      k t41 t0 t3 t8 t9x1 t10 sx9)
     (k t4 t0 t3 t8 t9x1 t10 sx9)))
   (fun t4x1 t0x1 t3x1 t8x1 t9x2 t10x1 sx3 =>
   P.oV 42 (evBin T0 .add 3 true t10x1 (.i .i64 1)) fun t42 =>
   next t4x1 t0x1 t3x1 t8x1 t9x2 t42 sx3))
  (P.oV 44 (evBuiltin T0 sx2.h .len [23] [t0]) fun t44 =>
   P.oV 45 (evBin T0 .leq 3 true t44 (.i .i64 16)) fun t45 =>
   P.oG [47, 48] t45 true (fun (k : C2) => P.oV 48 (evBin T0 .leq 3 true t4 (.i .i64 1)) fun t48 =>
    k t4 t48 sx2) sx2 fun t47 t48 sx3 =>
   P.oV 49 (evPick t45 (some t48) (some (.b false))) fun t49 =>
   Q t49 sx3)) (.i .i64 0) a0 t7 a0 t9 (.i .i64 0) sx1
theorem w29_eq (P : Prims) (a0 : AV) (Q : AV → AS → Prop) : w29 P a0 Q = vcBody P T0 Go.Proofs.Tryd.f29 (codeOf Go.Proofs.Tryd.f29) an29 [a0] ⟨.nil, 0⟩ Q := by kernel_rfl
theorem r29 (a0 : AV) {r : AV} (hi : AV.idfree.idfrees [a0] = true) (hn : AV.norm.norms [a0] = [a0]) (h : w29 (prims T0) a0 (fun r1 s1 => oZ T0 s1 r1 (fun r2 => r2 = r))) : R T0 29 [a0] r :=
  R.mk (by kernel_rfl) (by kernel_rfl) (show T0.fn 29 = some Go.Proofs.Tryd.f29 by kernel_rfl) (by kernel_rfl) (by kernel_rfl) hi hn (by rw [w29_eq] at h; exact h)
/- orchestrator/meta.finalizers -/
def an30 : AN := (.seq none .leaf (.seq none .leaf (.seq none (.seq none .leaf (.one (.loop [0, 3, 7, 8, 9] (.seq none .leaf (.seq none (.two .leaf .leaf) (.seq none (.one (.seq none .leaf (.seq none (.seq none .leaf (.two (.seq none .leaf .leaf) .leaf)) .leaf))) .leaf)))))) (.seq none .leaf .leaf))))
def w30 (P : Prims) (a0 : AV) (Q : AV → AS → Prop) : Prop :=
  P.oN 6 (.map []) (fun id => (.mp id)) ⟨Tr.nil, 0⟩ fun t6 sx1 =>
  P.oV 8 (evBuiltin T0 sx1.h .len [24] [a0]) fun t8 =>
  P.oL [0, 3, 7, 8, 9] (fun (next : C5) t0 t3 t7 t8x1 t9 sx2 =>
  P.oV 10 (evBin T0 .lss 3 false t9 t8x1) fun t10 =>
  P.oI t10 (P.oV 11 (evIndexAddr T0 24 t7 t9) fun t11 =>
   P.oV 12 (evLoad T0 sx2.h 9 t11) fun t12 =>
   P.oC 14 13 [t12] sx2 fun t14 sx3 =>
   P.oV 15 (evUn .not t14) fun t15 =>
   P.oG [17, 18, 19] t15 false (fun (k : C3) => P.oV 19 (evLookup T0 sx3.h 75 t3 t12 false) fun t19 =>
    k t3 t12 t19 sx3) sx3 fun t17 t18 t19 sx4 =>
   P.oV 20 (evPick t15 (some (.b true)) (some t19)) fun t20 =>
   P.oI t20 (Q (.b false) sx4)
   (P.oH (evMapUpdate T0 sx4.h 75 t3 t12 (.b true)) sx4 fun sx5 =>
    P.oV 23 (evBin T0 .add 3 true t9 (.i .i64 1)) fun t23 =>
    next t0 t3 t7 t8x1 t23 sx5))
  (P.oV 25 (evBuiltin T0 sx2.h .len [24] [t0]) fun t25 =>
   P.oV 26 (evBin T0 .leq 3 true t25 (.i .i64 16)) fun t26 =>
   Q t26 sx2)) a0 t6 a0 t8 (.i .i64 0) sx1
theorem w30_eq (P : Prims) (a0 : AV) (Q : AV → AS → Prop) : w30 P a0 Q = vcBody P T0 Go.Proofs.Tryd.f30 (codeOf Go.Proofs.Tryd.f30) an30 [a0] ⟨.nil, 0⟩ Q := by kernel_rfl
theorem r30 (a0 : AV) {r : AV} (hi : AV.idfree.idfrees [a0] = true) (hn : AV.norm.norms [a0] = [a0]) (h : w30 (prims T0) a0 (fun r1 s1 => oZ T0 s1 r1 (fun r2 => r2 = r))) : R T0 30 [a0] r :=
  R.mk (by kernel_rfl) (by kernel_rfl) (show T0.fn 30 = some Go.Proofs.Tryd.f30 by kernel_rfl) (by kernel_rfl) (by kernel_rfl) hi hn (by rw [w30_eq] at h; exact h)
/- orchestrator/meta.managers -/
def an31 : AN := (.seq none .leaf (.seq none (.seq none .leaf (.one (.loop [0, 5, 6, 7] (.seq none .leaf (.seq none (.two .leaf .leaf) (.seq none (.one (.seq none .leaf (.seq none .leaf (.two (.seq none .leaf .leaf) .leaf)))) .leaf)))))) (.seq none .leaf .leaf)))
def w31 (P : Prims) (a0 : AV) (Q : AV → AS → Prop) : Prop :=
  P.oV 6 (evBuiltin T0 Tr.nil .len [25] [a0]) fun t6 =>
  P.oL [0, 5, 6, 7] (fun (next : C4) t0 t5 t6x1 t7 sx1 =>
  P.oV 8 (evBin T0 .lss 3 false t7 t6x1) fun t8 =>
  P.oI t8 (P.oV 10 (evIndexAddr T0 25 t5 t7) fun t10 =>
   P.oV 11 (evLoad T0 sx1.h 54 t10) fun t11 =>
   P.oN 4 (.cells [(.s []), (.nilz true)] 54 false) (fun id => (.ptr id 0)) sx1 fun t4 sx2 =>
   P.oH (evStore T0 sx2.h 54 t4 t11) sx2 fun sx3 =>
   P.oV 12 (evOff 0 t4) fun t12 =>
   P.oV 13 (evLoad T0 sx3.h 9 t12) fun t13 =>
   P.oC 14 13 [t13] sx3 fun t14 sx4 =>
   P.oV 15 (evUn .not t14) fun t15 =>
   P.oG [17, 18, 19] t15 false (fun (k : C3) => P.oV 18 (evBin T0 .gtr 3 true t7 (.i .i64 0)) fun t18 =>
    k t7 t18 t18 sx3) sx3 fun t17 t18 t19 sx5 =>
   P.oG [20, 21, 22, 23, 24, 25, 26, 27, 28] t19 true (fun (k : C9) => P.oV 22 (evBin T0 .sub 3 true t7 (.i .i64 1)) fun t22 =>
    P.oV 23 (evIndexAddr T0 25 t0 t22) fun t23 =>
    P.oV 24 (evOff 0 t23) fun t24 =>
    P.oV 25 (evLoad T0 sx3.h 9 t24) fun t25 =>
    P.oV 26 (evOff 0 t4) fun t26 =>
    P.oV 27 (evLoad T0 sx3.h 9 t26) fun t27 =>
    P.oV 28 (evBin T0 .geq 9 false t25 t27) fun t28 =>
    k t0 t7 t22 t23 t24 t25 t26 t27 t28 sx3) sx3 fun t20 t21 t22 t23 t24 t25 t26 t27 t28 sx6 =>
   P.oG [29] t15 false (fun (k : C1) => P.oV 29 (evPick t19 (some t28) (some (.b false))) fun t29 =>
    k t29 sx3) sx3 fun t29 sx7 =>
   P.oV 30 (evPick t15 (some (.b true)) (some t29)) fun t30 =>
   P.oG [32, 33, 34, 35] t30 false (fun (k : C4) => P.oV 32 (evOff 1 t4) fun t32 =>
    P.oV 33 (evLoad T0 sx3.h 24 t32) fun t33 =>
    P.oV 34 (evBuiltin T0 sx3.h .len [24] [t33]) fun t34 =>
    P.oV 35 (evBin T0 .lss 3 true t34 (.i .i64 1)) fun t35 =>
    k t32 t33 t34 t35 sx3) sx3 fun t32 t33 t34 t35 sx8 =>
   P.oV 36 (evPick t30 (some (.b true)) (some t35)) fun t36 =>
   P.oG [38, 39, 40, 41] t36 false (fun (k : C4) => P.oV 38 (evOff 1 t4) fun t38 =>
    P.oV 39 (evLoad T0 sx3.h 24 t38) fun t39 =>
    P.oV 40 (evBuiltin T0 sx3.h .len [24] [t39]) fun t40 =>
    P.oV 41 (evBin T0 .gtr 3 true t40 (.i .i64 600)) fun t41 =>
    k t38 t39 t40 t41 sx3) sx3 fun t38 t39 t40 t41 sx9 =>
   P.oV 42 (evPick t36 (some (.b true)) (some t41)) fun t42 =>
   P.oG [44, 45, 46, 47] t42 false (fun (k : C4) => P.oV 44 (evOff 1 t4) fun t44 =>
    P.oV 45 (evLoad T0 sx3.h 24 t44) fun t45 =>
    P.oC 46 53 [t45] sx3 fun t46 sx10 =>
    P.oV 47 (evUn .not t46) fun t47 =>
    k t44 t45 t46 t47 sx3) sx3 fun t44 t45 t46 t47 sx10 =>
   P.oV 48 (evPick t42 (some (.b true)) (some t47)) fun t48 =>
   P.oI t48 (Q (.b false) sx3)
   (P.oV 49 (evBin T0 .add 3 true t7 (.i .i64 1)) fun t49 =>
    next t0 t5 t6x1 t49 sx3))
  (P.oV 51 (evBuiltin T0 sx1.h .len [25] [t0]) fun t51 =>
   P.oV 52 (evBin T0 .leq 3 true t51 (.i .i64 16)) fun t52 =>
   Q t52 sx1)) a0 a0 t6 (.i .i64 0) ⟨Tr.nil, 0⟩
theorem w31_eq (P : Prims) (a0 : AV) (Q : AV → AS → Prop) : w31 P a0 Q = vcBody P T0 Go.Proofs.Tryd.f31 (codeOf Go.Proofs.Tryd.f31) an31 [a0] ⟨.nil, 0⟩ Q := by kernel_rfl
theorem r31 (a0 : AV) {r : AV} (hi : AV.idfree.idfrees [a0] = true) (hn : AV.norm.norms [a0] = [a0]) (h : w31 (prims T0) a0 (fun r1 s1 => oZ T0 s1 r1 (fun r2 => r2 = r))) : R T0 31 [a0] r :=
  R.mk (by kernel_rfl) (by kernel_rfl) (show T0.fn 31 = some Go.Proofs.Tryd.f31 by kernel_rfl) (by kernel_rfl) (by kernel_rfl) hi hn (by rw [w31_eq] at h; exact h)
/- orchestrator/orchestratorref13.ValidKind -/
def an32 : AN := (.seq none .leaf (.seq none (.seq none .leaf (.two (.seq none .leaf .leaf) .leaf)) (.seq none (.seq none .leaf (.one (.loop [0, 3] (.seq none (.seq none .leaf (.two .leaf .leaf)) (.seq none (.one (.seq none .leaf (.two (.seq none .leaf .leaf) .leaf))) .leaf))))) (.seq none .leaf .leaf))))
def w32 (P : Prims) (a0 : AV) (Q : AV → AS → Prop) : Prop :=
  P.oV 5 (evBin T0 .eql 9 true a0 (.s [])) fun t5 =>
  P.oG [7, 8, 9] t5 false (fun (k : C3) => P.oV 8 (evBuiltin T0 Tr.nil .len [9] [a0]) fun t8 =>
   P.oV 9 (evBin T0 .gtr 3 true t8 (.i .i64 40)) fun t9 =>
   k a0 t8 t9 ⟨Tr.nil, 0⟩) ⟨Tr.nil, 0⟩ fun t7 t8 t9 sx1 =>
  P.oV 10 (evPick t5 (some (.b true)) (some t9)) fun t10 =>
  P.oG [12, 13, 14] t10 false (fun (k : C3) => P.oV 13 (evIndex T0 9 a0 (.i .i64 0)) fun t13 =>
   P.oV 14 (evBin T0 .lss 5 true t13 (.i .u8 65)) fun t14 =>
   k a0 t13 t14 sx1) sx1 fun t12 t13 t14 sx2 =>
  P.oV 15 (evPick t10 (some (.b true)) (some t14)) fun t15 =>
  P.oG [17, 18, 19] t15 false (fun (k : C3) => P.oV 18 (evIndex T0 9 a0 (.i .i64 0)) fun t18 =>
   P.oV 19 (evBin T0 .gtr 5 true t18 (.i .u8 90)) fun t19 =>
   k a0 t18 t19 sx2) sx2 fun t17 t18 t19 sx3 =>
  P.oV 20 (evPick t15 (some (.b true)) (some t19)) fun t20 =>
  P.oI t20 (Q (.b false) sx3)
  (P.oL [0, 3] (fun (next : C2) t0 t3 sx4 =>
   P.oV 23 (evBuiltin T0 sx4.h .len [9] [t0]) fun t23 =>
   P.oV 24 (evBin T0 .lss 3 false t3 t23) fun t24 =>
   P.oI t24 (P.oV 29 (evIndex T0 9 t0 t3) fun t29 =>
    P.oV 30 (evBin T0 .geq 5 true t29 (.i .u8 97)) fun t30 =>
    P.oG [32, 33, 34, 35] t30 true (fun (k : C4) => P.oV 34 (evIndex T0 9 t0 t3) fun t34 =>
     P.oV 35 (evBin T0 .leq 5 true t34 (.i .u8 122)) fun t35 =>
     k t0 t3 t34 t35 sx4) sx4 fun t32 t33 t34 t35 sx5 =>
    P.oV 36 (evPick t30 (some t35) (some (.b false))) fun t36 =>
    P.oV 37 (evUn .not t36) fun t37 =>
    P.oG [39, 40, 41, 42, 43] t37 true (fun (k : C5) => P.oV 41 (evIndex T0 9 t0 t3) fun t41 =>
     P.oV 42 (evBin T0 .geq 5 true t41 (.i .u8 65)) fun t42 =>
     k t0 t3 t41 t42 t42 sx5) sx5 fun t39 t40 t41 t42 t43 sx6 =>
    P.oG [44, 45, 46, 47] t43 true (fun (k : C4) => P.oV 46 (evIndex T0 9 t0 t3) fun t46 =>
     P.oV 47 (evBin T0 .leq 5 true t46 (.i .u8 90)) fun t47 =>
     k t0 t3 t46 t47 sx6) sx6 fun t44 t45 t46 t47 sx7 =>
    P.oG [48, 49] t37 true (fun (k : C2) => P.oV 48 (evPick t43 (some t47) (some (.b false))) fun t48 =>
     P.oV 49 (evUn .not t48) fun t49 =>
     k t48 t49 sx7) sx7 fun t48 t49 sx8 =>
    P.oV 50 (evPick t37 (some t49) (some (.b false))) fun t50 =>
    P.oI t50 (Q (.b false) sx8)
    (P.oV 26 (evBin T0 .add 3 true t3 (.i .i64 1)) fun t26 =>
     next t0 t26 sx8))
   (Q (.b true) sx4)) a0 (.i .i64 0) sx3)
theorem w32_eq (P : Prims) (a0 : AV) (Q : AV → AS → Prop) : w32 P a0 Q = vcBody P T0 Go.Proofs.Tryd.f32 (codeOf Go.Proofs.Tryd.f32) an32 [a0] ⟨.nil, 0⟩ Q := by kernel_rfl
theorem r32 (a0 : AV) {r : AV} (hi : AV.idfree.idfrees [a0] = true) (hn : AV.norm.norms [a0] = [a0]) (h : w32 (prims T0) a0 (fun r1 s1 => oZ T0 s1 r1 (fun r2 => r2 = r))) : R T0 32 [a0] r :=
  R.mk (by kernel_rfl) (by kernel_rfl) (show T0.fn 32 = some Go.Proofs.Tryd.f32 by kernel_rfl) (by kernel_rfl) (by kernel_rfl) hi hn (by rw [w32_eq] at h; exact h)
/- orchestrator/orchestratorref03.Valid -/
def an33 : AN := (.seq none .leaf (.seq none (.seq none .leaf (.two (.seq none .leaf .leaf) .leaf)) (.seq none (.seq none .leaf (.one (.loop [0, 3] (.seq none (.seq none .leaf (.two .leaf .leaf)) (.seq none (.one (.seq none .leaf (.two (.seq none .leaf .leaf) .leaf))) .leaf))))) (.seq none .leaf .leaf))))
def w33 (P : Prims) (a0 : AV) (Q : AV → AS → Prop) : Prop :=
  P.oV 5 (evBuiltin T0 Tr.nil .len [22] [a0]) fun t5 =>
  P.oV 6 (evBin T0 .gtr 3 true t5 (.i .i64 16)) fun t6 =>
  P.oI t6 (Q (.b false) ⟨Tr.nil, 0⟩)
  (P.oL [0, 3] (fun (next : C2) t0 t3 sx1 =>
   P.oV 9 (evBuiltin T0 sx1.h .len [22] [t0]) fun t9 =>
   P.oV 10 (evBin T0 .lss 3 false t3 t9) fun t10 =>
   P.oI t10 (P.oV 15 (evIndexAddr T0 22 t0 t3) fun t15 =>
    P.oV 16 (evOff 0 t15) fun t16 =>
    P.oV 17 (evLoad T0 sx1.h 9 t16) fun t17 =>
    P.oC 18 54 [t17] sx1 fun t18 sx2 =>
    P.oV 19 (evUn .not t18) fun t19 =>
    P.oG [21, 22, 23, 24, 25, 26, 27] t19 false (fun (k : C7) => P.oV 23 (evIndexAddr T0 22 t0 t3) fun t23 =>
     P.oV 24 (evOff 1 t23) fun t24 =>
     P.oV 25 (evLoad T0 sx1.h 9 t24) fun t25 =>
     P.oC 26 55 [t25] sx1 fun t26 sx3 =>
     P.oV 27 (evUn .not t26) fun t27 =>
     k t0 t3 t23 t24 t25 t26 t27 sx1) sx1 fun t21 t22 t23 t24 t25 t26 t27 sx3 =>
    P.oV 28 (evPick t19 (some (.b true)) (some t27)) fun t28 =>
    P.oG [30, 31, 32] t28 false (fun (k : C3) => P.oV 31 (evBin T0 .gtr 3 true t3 (.i .i64 0)) fun t31 =>
     k t3 t31 t31 sx1) sx1 fun t30 t31 t32 sx4 =>
    P.oG [33, 34, 35, 36, 37, 38, 39, 40, 41, 42, 43, 44] t32 true (fun (k : C12) => P.oV 35 (evBin T0 .sub 3 true t3 (.i .i64 1)) fun t35 =>
     P.oV 36 (evIndexAddr T0 22 t0 t35) fun t36 =>
     P.oV 37 (evOff 0 t36) fun t37 =>
     P.oV 38 (evLoad T0 sx1.h 9 t37) fun t38 =>
     P.oV 41 (evIndexAddr T0 22 t0 t3) fun t41 =>
     P.oV 42 (evOff 0 t41) fun t42 =>
     P.oV 43 (evLoad T0 sx1.h 9 t42) fun t43 =>
     P.oV 44 (evBin T0 .geq 9 false t38 t43) fun t44 =>
     k t0 t3 t35 t36 t37 t38 t0 t3 t41 t42 t43 t44 sx1) sx1 fun t33 t34 t35 t36 t37 t38 t39 t40 t41 t42 t43 t44 sx5 =>
    P.oG [45] t28 false (fun (k : C1) => P.oV 45 (evPick t32 (some t44) (some (.b false))) fun t45 =>
     k t45 sx1) sx1 fun t45 sx6 =>
    P.oV 46 (evPick t28 (some (.b true)) (some t45)) fun t46 =>
    P.oI t46 (Q (.b false) sx1)
    (P.oV 12 (evBin T0 .add 3 true t3 (.i .i64 1)) fun t12 =>
     next t0 t12 sx1))
   (Q (.b true) sx1)) a0 (.i .i64 0) ⟨Tr.nil, 0⟩)
theorem w33_eq (P : Prims) (a0 : AV) (Q : AV → AS → Prop) : w33 P a0 Q = vcBody P T0 Go.Proofs.Tryd.f33 (codeOf Go.Proofs.Tryd.f33) an33 [a0] ⟨.nil, 0⟩ Q := by kernel_rfl
theorem r33 (a0 : AV) {r : AV} (hi : AV.idfree.idfrees [a0] = true) (hn : AV.norm.norms [a0] = [a0]) (h : w33 (prims T0) a0 (fun r1 s1 => oZ T0 s1 r1 (fun r2 => r2 = r))) : R T0 33 [a0] r :=
  R.mk (by kernel_rfl) (by kernel_rfl) (show T0.fn 33 = some Go.Proofs.Tryd.f33 by kernel_rfl) (by kernel_rfl) (by kernel_rfl) hi hn (by rw [w33_eq] at h; exact h)
/- orchestrator/orchestratorref13.owners -/
def an34 : AN := (.seq none .leaf (.seq none .leaf (.seq none (.seq none .leaf (.one (.loop [3, 0, 4] (.seq none (.seq none .leaf (.two .leaf .leaf)) (.seq none (.one (.seq none (.seq none .leaf (.two (.seq none .leaf .leaf) .leaf)) (.seq (some [3, 0, 4]) (.seq none .leaf (.two .leaf .leaf)) (.seq none .leaf (.one (.loop [3, 0, 4, 5] (.seq none (.seq none .leaf (.two .leaf .leaf)) (.seq none (.one (.seq none .leaf (.two (.seq none .leaf .leaf) .leaf))) .leaf)))))))) .leaf))))) (.seq none .leaf .leaf))))
def w34 (P : Prims) (a0 : AV) (Q : AV → AS → Prop) : Prop :=
  P.oL [3, 0, 4] (fun (next : C3) t3 t0 t4 sx1 =>
  P.oV 8 (evBuiltin T0 sx1.h .len [23] [t0]) fun t8 =>
  P.oV 9 (evBin T0 .lss 3 false t4 t8) fun t9 =>
  P.oI t9 (P.oV 14 (evIndexAddr T0 23 t0 t4) fun t14 =>
   P.oV 15 (evOff 0 t14) fun t15 =>
   P.oV 16 (evLoad T0 sx1.h 9 t15) fun t16 =>
   P.oC 17 32 [t16] sx1 fun t17 sx2 =>
   P.oV 18 (evUn .not t17) fun t18 =>
   P.oG [20, 21, 22, 23, 24, 25, 26] t18 false (fun (k : C7) => P.oV 22 (evIndexAddr T0 23 t0 t4) fun t22 =>
    P.oV 23 (evOff 1 t22) fun t23 =>
    P.oV 24 (evLoad T0 sx2.h 9 t23) fun t24 =>
    P.oC 25 14 [t24] sx2 fun t25 sx3 =>
    P.oV 26 (evUn .not t25) fun t26 =>
    k t0 t4 t22 t23 t24 t25 t26 sx3) sx2 fun t20 t21 t22 t23 t24 t25 t26 sx3 =>
   P.oV 27 (evPick t18 (some (.b true)) (some t26)) fun t27 =>
   P.oG [29, 30, 31, 32, 33, 34] t27 false (fun (k : C6) => P.oV 31 (evIndexAddr T0 23 t0 t4) fun t31 =>
    P.oV 32 (evOff 2 t31) fun t32 =>
    P.oV 33 (evLoad T0 sx3.h 3 t32) fun t33 =>
    P.oV 34 (evBin T0 .leq 3 true t33 (.i .i64 0)) fun t34 =>
    k t0 t4 t31 t32 t33 t34 sx3) sx3 fun t29 t30 t31 t32 t33 t34 sx4 =>
   P.oV 35 (evPick t27 (some (.b true)) (some t34)) fun t35 =>
   P.oI t35 (Q (.b false) sx4)
   (P.oJ [3, 0, 4] (fun (k : C3) =>
     P.oV 38 (evIndexAddr T0 23 t0 t4) fun t38 =>
     P.oV 39 (evOff 3 t38) fun t39 =>
     P.oV 40 (evLoad T0 sx4.h 4 t39) fun t40 =>
     P.oI t40 (P.oV 42 (evBin T0 .add 3 true t3 (.i .i64 1)) fun t42 =>
      k t42 t0 t4 sx4)
     (k t3 t0 t4 sx4))
    (fun t3x1 t0x1 t4x1 sx5 =>
    P.oL [3, 0, 4, 5] (fun (nextx1 : C4) t3x2 t0x2 t4x2 t5 sx6 =>
    P.oV 45 (evBin T0 .lss 3 false t5 t4x2) fun t45 =>
    P.oI t45 (P.oV 50 (evIndexAddr T0 23 t0x2 t5) fun t50 =>
     P.oV 51 (evOff 2 t50) fun t51 =>
     P.oV 52 (evLoad T0 sx6.h 3 t51) fun t52 =>
     P.oV 55 (evIndexAddr T0 23 t0x2 t4x2) fun t55 =>
     P.oV 56 (evOff 2 t55) fun t56 =>
     P.oV 57 (evLoad T0 sx6.h 3 t56) fun t57 =>
     P.oV 58 (evBin T0 .eql 3 false t52 t57) fun t58 =>
     P.oI t58 (Q (.b false) sx6)
     (P.oV 47 (evBin T0 .add 3 true t5 (.i .i64 1)) fun t47 =>
      nextx1 t3x2 t0x2 t4x2 t47 sx6))
    (P.oV 11 (evBin T0 .add 3 true t4x2 (.i .i64 1)) fun t11 =>
     next t3x2 t0x2 t11 sx6)) t3x1 t0x1 t4x1 (.i .i64 0) sx5)))
  (P.oV 60 (evBuiltin T0 sx1.h .len [23] [t0]) fun t60 =>
   P.oV 61 (evBin T0 .leq 3 true t60 (.i .i64 16)) fun t61 =>
   P.oG [63, 64] t61 true (fun (k : C2) => P.oV 64 (evBin T0 .leq 3 true t3 (.i .i64 1)) fun t64 =>
    k t3 t64 sx1) sx1 fun t63 t64 sx2 =>
   P.oV 65 (evPick t61 (some t64) (some (.b false))) fun t65 =>
   Q t65 sx2)) (.i .i64 0) a0 (.i .i64 0) ⟨Tr.nil, 0⟩
theorem w34_eq (P : Prims) (a0 : AV) (Q : AV → AS → Prop) : w34 P a0 Q = vcBody P T0 Go.Proofs.Tryd.f34 (codeOf Go.Proofs.Tryd.f34) an34 [a0] ⟨.nil, 0⟩ Q := by kernel_rfl
theorem r34 (a0 : AV) {r : AV} (hi : AV.idfree.idfrees [a0] = true) (hn : AV.norm.norms [a0] = [a0]) (h : w34 (prims T0) a0 (fun r1 s1 => oZ T0 s1 r1 (fun r2 => r2 = r))) : R T0 34 [a0] r :=
  R.mk (by kernel_rfl) (by kernel_rfl) (show T0.fn 34 = some Go.Proofs.Tryd.f34 by kernel_rfl) (by kernel_rfl) (by kernel_rfl) hi hn (by rw [w34_eq] at h; exact h)
/- orchestrator/orchestratorref13.finalizers -/
def an35 : AN := (.seq none .leaf (.seq none (.seq none .leaf (.one (.loop [0, 3] (.seq none (.seq none .leaf (.two .leaf .leaf)) (.seq none (.one (.seq none (.seq none .leaf (.two (.seq none .leaf .leaf) .leaf)) (.seq none .leaf (.one (.loop [0, 3, 4] (.seq none (.seq none .leaf (.two .leaf .leaf)) (.seq none (.one (.seq none .leaf (.two (.seq none .leaf .leaf) .leaf))) .leaf))))))) .leaf))))) (.seq none .leaf .leaf)))
def w35 (P : Prims) (a0 : AV) (Q : AV → AS → Prop) : Prop :=
  P.oL [0, 3] (fun (next : C2) t0 t3 sx1 =>
  P.oV 7 (evBuiltin T0 sx1.h .len [24] [t0]) fun t7 =>
  P.oV 8 (evBin T0 .lss 3 false t3 t7) fun t8 =>
  P.oI t8 (P.oV 13 (evIndexAddr T0 24 t0 t3) fun t13 =>
   P.oV 14 (evLoad T0 sx1.h 9 t13) fun t14 =>
   P.oC 15 14 [t14] sx1 fun t15 sx2 =>
   P.oV 16 (evUn .not t15) fun t16 =>
   P.oI t16 (Q (.b false) sx2)
   (P.oL [0, 3, 4] (fun (nextx1 : C3) t0x1 t3x1 t4 sx3 =>
    P.oV 19 (evBin T0 .lss 3 false t4 t3x1) fun t19 =>
    P.oI t19 (P.oV 24 (evIndexAddr T0 24 t0x1 t4) fun t24 =>
     P.oV 25 (evLoad T0 sx3.h 9 t24) fun t25 =>
     P.oV 28 (evIndexAddr T0 24 t0x1 t3x1) fun t28 =>
     P.oV 29 (evLoad T0 sx3.h 9 t28) fun t29 =>
     P.oV 30 (evBin T0 .eql 9 false t25 t29) fun t30 =>
     P.oI t30 (Q (.b false) sx3)
     (P.oV 21 (evBin T0 .add 3 true t4 (.i .i64 1)) fun t21 =>
      nextx1 t0x1 t3x1 t21 sx3))
    (P.oV 10 (evBin T0 .add 3 true t3x1 (.i .i64 1)) fun t10 =>
     next t0x1 t10 sx3)) t0 t3 (.i .i64 0) sx2))
  (P.oV 32 (evBuiltin T0 sx1.h .len [24] [t0]) fun t32 =>
   P.oV 33 (evBin T0 .leq 3 true t32 (.i .i64 16)) fun t33 =>
   Q t33 sx1)) a0 (.i .i64 0) ⟨Tr.nil, 0⟩
theorem w35_eq (P : Prims) (a0 : AV) (Q : AV → AS → Prop) : w35 P a0 Q = vcBody P T0 Go.Proofs.Tryd.f35 (codeOf Go.Proofs.Tryd.f35) an35 [a0] ⟨.nil, 0⟩ Q := by kernel_rfl
theorem r35 (a0 : AV) {r : AV} (hi : AV.idfree.idfrees [a0] = true) (hn : AV.norm.norms [a0] = [a0]) (h : w35 (prims T0) a0 (fun r1 s1 => oZ T0 s1 r1 (fun r2 => r2 = r))) : R T0 35 [a0] r :=
  R.mk (by kernel_rfl) (by kernel_rfl) (show T0.fn 35 = some Go.Proofs.Tryd.f35 by kernel_rfl) (by kernel_rfl) (by kernel_rfl) hi hn (by rw [w35_eq] at h; exact h)
/- orchestrator/orchestratorref13.managers -/
def an36 : AN := (.seq none .leaf (.seq none (.seq none .leaf (.one (.loop [0, 3] (.seq none (.seq none .leaf (.two .leaf .leaf)) (.seq none (.one (.seq none (.seq none .leaf (.two (.seq none .leaf .leaf) .leaf)) (.seq none .leaf (.two (.seq none .leaf .leaf) .leaf)))) .leaf))))) (.seq none .leaf .leaf)))
def w36 (P : Prims) (a0 : AV) (Q : AV → AS → Prop) : Prop :=
  P.oL [0, 3] (fun (next : C2) t0 t3 sx1 =>
  P.oV 6 (evBuiltin T0 sx1.h .len [25] [t0]) fun t6 =>
  P.oV 7 (evBin T0 .lss 3 false t3 t6) fun t7 =>
  P.oI t7 (P.oV 12 (evIndexAddr T0 25 t0 t3) fun t12 =>
   P.oV 13 (evOff 0 t12) fun t13 =>
   P.oV 14 (evLoad T0 sx1.h 9 t13) fun t14 =>
   P.oC 15 14 [t14] sx1 fun t15 sx2 =>
   P.oV 16 (evUn .not t15) fun t16 =>
   P.oG [18, 19, 20] t16 false (fun (k : C3) => P.oV 19 (evBin T0 .gtr 3 true t3 (.i .i64 0)) fun t19 =>
    k t3 t19 t19 sx1) sx1 fun t18 t19 t20 sx3 =>
   P.oG [21, 22, 23, 24, 25, 26, 27, 28, 29, 30, 31, 32] t20 true (fun (k : C12) => P.oV 23 (evIndexAddr T0 25 t0 t3) fun t23 =>
    P.oV 24 (evOff 0 t23) fun t24 =>
    P.oV 25 (evLoad T0 sx1.h 9 t24) fun t25 =>
    P.oV 28 (evBin T0 .sub 3 true t3 (.i .i64 1)) fun t28 =>
    P.oV 29 (evIndexAddr T0 25 t0 t28) fun t29 =>
    P.oV 30 (evOff 0 t29) fun t30 =>
    P.oV 31 (evLoad T0 sx1.h 9 t30) fun t31 =>
    P.oV 32 (evBin T0 .leq 9 false t25 t31) fun t32 =>
    k t0 t3 t23 t24 t25 t0 t3 t28 t29 t30 t31 t32 sx1) sx1 fun t21 t22 t23 t24 t25 t26 t27 t28 t29 t30 t31 t32 sx4 =>
   P.oG [33] t16 false (fun (k : C1) => P.oV 33 (evPick t20 (some t32) (some (.b false))) fun t33 =>
    k t33 sx1) sx1 fun t33 sx5 =>
   P.oV 34 (evPick t16 (some (.b true)) (some t33)) fun t34 =>
   P.oI t34 (Q (.b false) sx1)
   (P.oV 37 (evIndexAddr T0 25 t0 t3) fun t37 =>
    P.oV 38 (evOff 1 t37) fun t38 =>
    P.oV 39 (evLoad T0 sx1.h 24 t38) fun t39 =>
    P.oV 40 (evBuiltin T0 sx1.h .len [24] [t39]) fun t40 =>
    P.oV 41 (evBin T0 .lss 3 true t40 (.i .i64 1)) fun t41 =>
    P.oG [43, 44, 45, 46, 47, 48, 49] t41 false (fun (k : C7) => P.oV 45 (evIndexAddr T0 25 t0 t3) fun t45 =>
     P.oV 46 (evOff 1 t45) fun t46 =>
     P.oV 47 (evLoad T0 sx1.h 24 t46) fun t47 =>
     P.oV 48 (evBuiltin T0 sx1.h .len [24] [t47]) fun t48 =>
     P.oV 49 (evBin T0 .gtr 3 true t48 (.i .i64 600)) fun t49 =>
     k t0 t3 t45 t46 t47 t48 t49 sx1) sx1 fun t43 t44 t45 t46 t47 t48 t49 sx6 =>
    P.oV 50 (evPick t41 (some (.b true)) (some t49)) fun t50 =>
    P.oG [52, 53, 54, 55, 56, 57, 58] t50 false (fun (k : C7) => P.oV 54 (evIndexAddr T0 25 t0 t3) fun t54 =>
     P.oV 55 (evOff 1 t54) fun t55 =>
     P.oV 56 (evLoad T0 sx6.h 24 t55) fun t56 =>
     P.oC 57 56 [t56] sx6 fun t57 sx7 =>
     P.oV 58 (evUn .not t57) fun t58 =>
     k t0 t3 t54 t55 t56 t57 t58 sx7) sx6 fun t52 t53 t54 t55 t56 t57 t58 sx7 =>
    P.oV 59 (evPick t50 (some (.b true)) (some t58)) fun t59 =>
    P.oI t59 (Q (.b false) sx7)
    (P.oV 9 (evBin T0 .add 3 true t3 (.i .i64 1)) fun t9 =>
     next t0 t9 sx7)))
  (P.oV 61 (evBuiltin T0 sx1.h .len [25] [t0]) fun t61 =>
   P.oV 62 (evBin T0 .leq 3 true t61 (.i .i64 16)) fun t62 =>
   Q t62 sx1)) a0 (.i .i64 0) ⟨Tr.nil, 0⟩
theorem w36_eq (P : Prims) (a0 : AV) (Q : AV → AS → Prop) : w36 P a0 Q = vcBody P T0 Go.Proofs.Tryd.f36 (codeOf Go.Proofs.Tryd.f36) an36 [a0] ⟨.nil, 0⟩ Q := by kernel_rfl
theorem r36 (a0 : AV) {r : AV} (hi : AV.idfree.idfrees [a0] = true) (hn : AV.norm.norms [a0] = [a0]) (h : w36 (prims T0) a0 (fun r1 s1 => oZ T0 s1 r1 (fun r2 => r2 = r))) : R T0 36 [a0] r :=
  R.mk (by kernel_rfl) (by kernel_rfl) (show T0.fn 36 = some Go.Proofs.Tryd.f36 by kernel_rfl) (by kernel_rfl) (by kernel_rfl) hi hn (by rw [w36_eq] at h; exact h)
/- strings.Split -/
def an37 : AN := (.seq none .leaf (.seq none .leaf .leaf))
def w37 (P : Prims) (a0 a1 : AV) (Q : AV → AS → Prop) : Prop :=
  P.oC 7 57 [a0, a1, (.i .i64 0), (.i .i64 (-1))] ⟨Tr.nil, 0⟩ fun t7 sx1 =>
  Q t7 sx1
theorem w37_eq (P : Prims) (a0 a1 : AV) (Q : AV → AS → Prop) : w37 P a0 a1 Q = vcBody P T0 Go.Proofs.Tryd.f37 (codeOf Go.Proofs.Tryd.f37) an37 [a0, a1] ⟨.nil, 0⟩ Q := by kernel_rfl
theorem r37 (a0 a1 : AV) {r : AV} (hi : AV.idfree.idfrees [a0, a1] = true) (hn : AV.norm.norms [a0, a1] = [a0, a1]) (h : w37 (prims T0) a0 a1 (fun r1 s1 => oZ T0 s1 r1 (fun r2 => r2 = r))) : R T0 37 [a0, a1] r :=
  R.mk (by kernel_rfl) (by kernel_rfl) (show T0.fn 37 = some Go.Proofs.Tryd.f37 by kernel_rfl) (by kernel_rfl) (by kernel_rfl) hi hn (by rw [w37_eq] at h; exact h)
/- orchestrator/orchestratorref13.cut -/
def an38 : AN := (.seq none .leaf (.seq none (.seq none .leaf (.one (.loop [0, 5] (.seq none (.seq none .leaf (.two .leaf .leaf)) (.seq none (.one (.seq none .leaf (.two (.seq none .leaf .leaf) .leaf))) .leaf))))) (.seq none .leaf .leaf)))
def w38 (P : Prims) (a0 : AV) (Q : AV → AS → Prop) : Prop :=
  P.oL [0, 5] (fun (next : C2) t0 t5 sx1 =>
  P.oV 8 (evBuiltin T0 sx1.h .len [9] [t0]) fun t8 =>
  P.oV 9 (evBin T0 .lss 3 false t5 t8) fun t9 =>
  P.oI t9 (P.oV 14 (evIndex T0 9 t0 t5) fun t14 =>
   P.oV 15 (evBin T0 .eql 5 true t14 (.i .u8 47)) fun t15 =>
   P.oI t15 (P.oV 18 (evSlice T0 9 t0 none (some t5) none) fun t18 =>
    P.oV 21 (evBin T0 .add 3 true t5 (.i .i64 1)) fun t21 =>
    P.oV 22 (evSlice T0 9 t0 (some t21) none none) fun t22 =>
    Q (.tup [t18, t22, (.b true)]) sx1)
   (P.oV 11 (evBin T0 .add 3 true t5 (.i .i64 1)) fun t11 =>
    next t0 t11 sx1))
  (Q (.tup [(.s []), (.s []), (.b false)]) sx1)) a0 (.i .i64 0) ⟨Tr.nil, 0⟩
theorem w38_eq (P : Prims) (a0 : AV) (Q : AV → AS → Prop) : w38 P a0 Q = vcBody P T0 Go.Proofs.Tryd.f38 (codeOf Go.Proofs.Tryd.f38) an38 [a0] ⟨.nil, 0⟩ Q := by kernel_rfl
theorem r38 (a0 : AV) {r : AV} (hi : AV.idfree.idfrees [a0] = true) (hn : AV.norm.norms [a0] = [a0]) (h : w38 (prims T0) a0 (fun r1 s1 => oZ T0 s1 r1 (fun r2 => r2 = r))) : R T0 38 [a0] r :=
  R.mk (by kernel_rfl) (by kernel_rfl) (show T0.fn 38 = some Go.Proofs.Tryd.f38 by kernel_rfl) (by kernel_rfl) (by kernel_rfl) hi hn (by rw [w38_eq] at h; exact h)
/- orchestrator/meta.parts -/
def an39 : AN := (.seq none .leaf (.seq none .leaf .leaf))
def w39 (P : Prims) (a0 : AV) (Q : AV → AS → Prop) : Prop :=
  P.oN 1 (.cells (AV.cells a0) 27 false) (fun id => (.ptr id 0)) ⟨Tr.nil, 0⟩ fun t1 sx1 =>
  P.oN 2 (.cells [(.s []), (.s []), (.s [])] 62 false) (fun id => (.ptr id 0)) sx1 fun t2 sx2 =>
  P.oV 3 (evOff 0 t1) fun t3 =>
  P.oV 4 (evLoad T0 sx2.h 9 t3) fun t4 =>
  P.oV 5 (evOff 1 t1) fun t5 =>
  P.oV 6 (evLoad T0 sx2.h 9 t5) fun t6 =>
  P.oV 7 (evOff 2 t1) fun t7 =>
  P.oV 8 (evLoad T0 sx2.h 9 t7) fun t8 =>
  P.oV 9 (evBuild T0 62 [(0, t4), (1, t6), (2, t8)]) fun t9 =>
  P.oH (evStore T0 sx2.h 62 t2 t9) sx2 fun sx3 =>
  P.oV 2 (evLoad T0 sx3.h 62 t2) fun t2x1 =>
  Q t2x1 sx3
theorem w39_eq (P : Prims) (a0 : AV) (Q : AV → AS → Prop) : w39 P a0 Q = vcBody P T0 Go.Proofs.Tryd.f39 (codeOf Go.Proofs.Tryd.f39) an39 [a0] ⟨.nil, 0⟩ Q := by kernel_rfl
theorem r39 (a0 : AV) {r : AV} (hi : AV.idfree.idfrees [a0] = true) (hn : AV.norm.norms [a0] = [a0]) (h : w39 (prims T0) a0 (fun r1 s1 => oZ T0 s1 r1 (fun r2 => r2 = r))) : R T0 39 [a0] r :=
  R.mk (by kernel_rfl) (by kernel_rfl) (show T0.fn 39 = some Go.Proofs.Tryd.f39 by kernel_rfl) (by kernel_rfl) (by kernel_rfl) hi hn (by rw [w39_eq] at h; exact h)
/- slices.Equal[[]orchestrator/api.Label,orchestrator/api.Label] -/
def an40 : AN := (.seq none .leaf (.seq none (.seq none .leaf (.two (.seq none .leaf .leaf) .leaf)) (.seq none (.seq none .leaf (.one (.loop [1, 0, 12, 13] (.seq none .leaf (.seq none (.two .leaf .leaf) (.seq none (.one (.seq none .leaf (.seq none .leaf (.two (.seq none .leaf .leaf) .leaf)))) .leaf)))))) (.seq none .leaf .leaf))))
def w40 (P : Prims) (a0 a1 : AV) (Q : AV → AS → Prop) : Prop :=
  P.oV 7 (evBuiltin T0 Tr.nil .len [22] [a0]) fun t7 =>
  P.oV 9 (evBuiltin T0 Tr.nil .len [22] [a1]) fun t9 =>
  P.oV 10 (evBin T0 .neq 3 false t7 t9) fun t10 =>
  P.oI t10 (Q (.b false) ⟨Tr.nil, 0⟩)
  (P.oV 12 (evBuiltin T0 Tr.nil .len [22] [a0]) fun t12 =>
   P.oL [1, 0, 12, 13] (fun (next : C4) t1 t0 t12x1 t13 sx1 =>
   P.oV 14 (evBin T0 .lss 3 false t13 t12x1) fun t14 =>
   P.oI t14 (P.oV 18 (evIndexAddr T0 22 t0 t13) fun t18 =>
    P.oV 19 (evLoad T0 sx1.h 66 t18) fun t19 =>
    P.oV 22 (evIndexAddr T0 22 t1 t13) fun t22 =>
    P.oV 23 (evLoad T0 sx1.h 66 t22) fun t23 =>
    P.oV 24 (evBin T0 .neq 66 false t19 t23) fun t24 =>
    P.oI t24 (Q (.b false) sx1)
    (P.oV 25 (evBin T0 .add 3 true t13 (.i .i64 1)) fun t25 =>
     next t1 t0 t12x1 t25 sx1))
   (Q (.b true) sx1)) a1 a0 t12 (.i .i64 0) ⟨Tr.nil, 0⟩)
theorem w40_eq (P : Prims) (a0 a1 : AV) (Q : AV → AS → Prop) : w40 P a0 a1 Q = vcBody P T0 Go.Proofs.Tryd.f40 (codeOf Go.Proofs.Tryd.f40) an40 [a0, a1] ⟨.nil, 0⟩ Q := by kernel_rfl
theorem r40 (a0 a1 : AV) {r : AV} (hi : AV.idfree.idfrees [a0, a1] = true) (hn : AV.norm.norms [a0, a1] = [a0, a1]) (h : w40 (prims T0) a0 a1 (fun r1 s1 => oZ T0 s1 r1 (fun r2 => r2 = r))) : R T0 40 [a0, a1] r :=
  R.mk (by kernel_rfl) (by kernel_rfl) (show T0.fn 40 = some Go.Proofs.Tryd.f40 by kernel_rfl) (by kernel_rfl) (by kernel_rfl) hi hn (by rw [w40_eq] at h; exact h)
/- slices.Equal[[]orchestrator/api.Owner,orchestrator/api.Owner] -/
def an41 : AN := (.seq none .leaf (.seq none (.seq none .leaf (.two (.seq none .leaf .leaf) .leaf)) (.seq none (.seq none .leaf (.one (.loop [1, 0, 12, 13] (.seq none .leaf (.seq none (.two .leaf .leaf) (.seq none (.one (.seq none .leaf (.seq none .leaf (.two (.seq none .leaf .leaf) .leaf)))) .leaf)))))) (.seq none .leaf .leaf))))
def w41 (P : Prims) (a0 a1 : AV) (Q : AV → AS → Prop) : Prop :=
  P.oV 7 (evBuiltin T0 Tr.nil .len [23] [a0]) fun t7 =>
  P.oV 9 (evBuiltin T0 Tr.nil .len [23] [a1]) fun t9 =>
  P.oV 10 (evBin T0 .neq 3 false t7 t9) fun t10 =>
  P.oI t10 (Q (.b false) ⟨Tr.nil, 0⟩)
  (P.oV 12 (evBuiltin T0 Tr.nil .len [23] [a0]) fun t12 =>
   P.oL [1, 0, 12, 13] (fun (next : C4) t1 t0 t12x1 t13 sx1 =>
   P.oV 14 (evBin T0 .lss 3 false t13 t12x1) fun t14 =>
   P.oI t14 (P.oV 18 (evIndexAddr T0 23 t0 t13) fun t18 =>
    P.oV 19 (evLoad T0 sx1.h 43 t18) fun t19 =>
    P.oV 22 (evIndexAddr T0 23 t1 t13) fun t22 =>
    P.oV 23 (evLoad T0 sx1.h 43 t22) fun t23 =>
    P.oV 24 (evBin T0 .neq 43 false t19 t23) fun t24 =>
    P.oI t24 (Q (.b false) sx1)
    (P.oV 25 (evBin T0 .add 3 true t13 (.i .i64 1)) fun t25 =>
     next t1 t0 t12x1 t25 sx1))
   (Q (.b true) sx1)) a1 a0 t12 (.i .i64 0) ⟨Tr.nil, 0⟩)
theorem w41_eq (P : Prims) (a0 a1 : AV) (Q : AV → AS → Prop) : w41 P a0 a1 Q = vcBody P T0 Go.Proofs.Tryd.f41 (codeOf Go.Proofs.Tryd.f41) an41 [a0, a1] ⟨.nil, 0⟩ Q := by kernel_rfl
theorem r41 (a0 a1 : AV) {r : AV} (hi : AV.idfree.idfrees [a0, a1] = true) (hn : AV.norm.norms [a0, a1] = [a0, a1]) (h : w41 (prims T0) a0 a1 (fun r1 s1 => oZ T0 s1 r1 (fun r2 => r2 = r))) : R T0 41 [a0, a1] r :=
  R.mk (by kernel_rfl) (by kernel_rfl) (show T0.fn 41 = some Go.Proofs.Tryd.f41 by kernel_rfl) (by kernel_rfl) (by kernel_rfl) hi hn (by rw [w41_eq] at h; exact h)
/- slices.Equal[[]string,string] -/
def an42 : AN := (.seq none .leaf (.seq none (.seq none .leaf (.two (.seq none .leaf .leaf) .leaf)) (.seq none (.seq none .leaf (.one (.loop [1, 0, 12, 13] (.seq none .leaf (.seq none (.two .leaf .leaf) (.seq none (.one (.seq none .leaf (.seq none .leaf (.two (.seq none .leaf .leaf) .leaf)))) .leaf)))))) (.seq none .leaf .leaf))))
def w42 (P : Prims) (a0 a1 : AV) (Q : AV → AS → Prop) : Prop :=
  P.oV 7 (evBuiltin T0 Tr.nil .len [24] [a0]) fun t7 =>
  P.oV 9 (evBuiltin T0 Tr.nil .len [24] [a1]) fun t9 =>
  P.oV 10 (evBin T0 .neq 3 false t7 t9) fun t10 =>
  P.oI t10 (Q (.b false) ⟨Tr.nil, 0⟩)
  (P.oV 12 (evBuiltin T0 Tr.nil .len [24] [a0]) fun t12 =>
   P.oL [1, 0, 12, 13] (fun (next : C4) t1 t0 t12x1 t13 sx1 =>
   P.oV 14 (evBin T0 .lss 3 false t13 t12x1) fun t14 =>
   P.oI t14 (P.oV 18 (evIndexAddr T0 24 t0 t13) fun t18 =>
    P.oV 19 (evLoad T0 sx1.h 9 t18) fun t19 =>
    P.oV 22 (evIndexAddr T0 24 t1 t13) fun t22 =>
    P.oV 23 (evLoad T0 sx1.h 9 t22) fun t23 =>
    P.oV 24 (evBin T0 .neq 9 false t19 t23) fun t24 =>
    P.oI t24 (Q (.b false) sx1)
    (P.oV 25 (evBin T0 .add 3 true t13 (.i .i64 1)) fun t25 =>
     next t1 t0 t12x1 t25 sx1))
   (Q (.b true) sx1)) a1 a0 t12 (.i .i64 0) ⟨Tr.nil, 0⟩)
theorem w42_eq (P : Prims) (a0 a1 : AV) (Q : AV → AS → Prop) : w42 P a0 a1 Q = vcBody P T0 Go.Proofs.Tryd.f42 (codeOf Go.Proofs.Tryd.f42) an42 [a0, a1] ⟨.nil, 0⟩ Q := by kernel_rfl
theorem r42 (a0 a1 : AV) {r : AV} (hi : AV.idfree.idfrees [a0, a1] = true) (hn : AV.norm.norms [a0, a1] = [a0, a1]) (h : w42 (prims T0) a0 a1 (fun r1 s1 => oZ T0 s1 r1 (fun r2 => r2 = r))) : R T0 42 [a0, a1] r :=
  R.mk (by kernel_rfl) (by kernel_rfl) (show T0.fn 42 = some Go.Proofs.Tryd.f42 by kernel_rfl) (by kernel_rfl) (by kernel_rfl) hi hn (by rw [w42_eq] at h; exact h)
/- orchestrator/meta.Equal$1 -/
def an43 : AN := (.seq none .leaf (.seq none .leaf .leaf))
def w43 (P : Prims) (a0 a1 : AV) (Q : AV → AS → Prop) : Prop :=
  P.oN 2 (.cells (AV.cells a0) 54 false) (fun id => (.ptr id 0)) ⟨Tr.nil, 0⟩ fun t2 sx1 =>
  P.oN 3 (.cells (AV.cells a1) 54 false) (fun id => (.ptr id 0)) sx1 fun t3 sx2 =>
  P.oV 5 (evOff 0 t2) fun t5 =>
  P.oV 6 (evLoad T0 sx2.h 9 t5) fun t6 =>
  P.oV 7 (evOff 0 t3) fun t7 =>
  P.oV 8 (evLoad T0 sx2.h 9 t7) fun t8 =>
  P.oV 9 (evBin T0 .eql 9 false t6 t8) fun t9 =>
  P.oG [11, 12, 13, 14, 15] t9 true (fun (k : C5) => P.oV 11 (evOff 1 t2) fun t11 =>
   P.oV 12 (evLoad T0 sx2.h 24 t11) fun t12 =>
   P.oV 13 (evOff 1 t3) fun t13 =>
   P.oV 14 (evLoad T0 sx2.h 24 t13) fun t14 =>
   P.oC 15 42 [t12, t14] sx2 fun t15 sx3 =>
   k t11 t12 t13 t14 t15 sx3) sx2 fun t11 t12 t13 t14 t15 sx3 =>
  P.oV 16 (evPick t9 (some t15) (some (.b false))) fun t16 =>
  Q t16 sx3
theorem w43_eq (P : Prims) (a0 a1 : AV) (Q : AV → AS → Prop) : w43 P a0 a1 Q = vcBody P T0 Go.Proofs.Tryd.f43 (codeOf Go.Proofs.Tryd.f43) an43 [a0, a1] ⟨.nil, 0⟩ Q := by kernel_rfl
theorem r43 (a0 a1 : AV) {r : AV} (hi : AV.idfree.idfrees [a0, a1] = true) (hn : AV.norm.norms [a0, a1] = [a0, a1]) (h : w43 (prims T0) a0 a1 (fun r1 s1 => oZ T0 s1 r1 (fun r2 => r2 = r))) : R T0 43 [a0, a1] r :=
  R.mk (by kernel_rfl) (by kernel_rfl) (show T0.fn 43 = some Go.Proofs.Tryd.f43 by kernel_rfl) (by kernel_rfl) (by kernel_rfl) hi hn (by rw [w43_eq] at h; exact h)
/- slices.EqualFunc[[]orchestrator/api.Manager,[]orchestrator/api.Manager,orchestrator/api.Manager,orchestrator/api.Manager] -/
def an44 : AN := (.seq none .leaf (.seq none (.seq none .leaf (.two (.seq none .leaf .leaf) .leaf)) (.seq none (.seq none .leaf (.one (.loop [2, 1, 15, 16, 17] (.seq none .leaf (.seq none (.two .leaf .leaf) (.seq none (.one (.seq none .leaf (.seq none .leaf (.seq none .leaf (.two (.seq none .leaf .leaf) .leaf))))) .leaf)))))) (.seq none .leaf .leaf))))
def w44 (P : Prims) (a0 a1 a2 : AV) (Q : AV → AS → Prop) : Prop :=
  P.oV 11 (evBuiltin T0 Tr.nil .len [25] [a0]) fun t11 =>
  P.oV 13 (evBuiltin T0 Tr.nil .len [25] [a1]) fun t13 =>
  P.oV 14 (evBin T0 .neq 3 false t11 t13) fun t14 =>
  P.oI t14 (Q (.b false) ⟨Tr.nil, 0⟩)
  (P.oV 16 (evBuiltin T0 Tr.nil .len [25] [a0]) fun t16 =>
   P.oL [2, 1, 15, 16, 17] (fun (next : C5) t2 t1 t15 t16x1 t17 sx1 =>
   P.oV 18 (evBin T0 .lss 3 false t17 t16x1) fun t18 =>
   P.oI t18 (P.oV 20 (evIndexAddr T0 25 t15 t17) fun t20 =>
    P.oV 21 (evLoad T0 sx1.h 54 t20) fun t21 =>
    P.oN 8 (.cells [(.s []), (.nilz true)] 54 false) (fun id => (.ptr id 0)) sx1 fun t8 sx2 =>
    P.oH (evStore T0 sx2.h 54 t8 t21) sx2 fun sx3 =>
    P.oV 24 (evIndexAddr T0 25 t1 t17) fun t24 =>
    P.oV 25 (evLoad T0 sx3.h 54 t24) fun t25 =>
    P.oN 9 (.cells [(.s []), (.nilz true)] 54 false) (fun id => (.ptr id 0)) sx3 fun t9 sx4 =>
    P.oH (evStore T0 sx4.h 54 t9 t25) sx4 fun sx5 =>
    P.oV 27 (evLoad T0 sx5.h 54 t8) fun t27 =>
    P.oV 28 (evLoad T0 sx5.h 54 t9) fun t28 =>
    P.oF 29 t2 [t27, t28] sx5 fun t29 sx6 =>
    P.oV 30 (evUn .not t29) fun t30 =>
    P.oI t30 (Q (.b false) sx6)
    (P.oV 31 (evBin T0 .add 3 true t17 (.i .i64 1)) fun t31 =>
     next t2 t1 t15 t16x1 t31 sx6))
   (Q (.b true) sx1)) a2 a1 a0 t16 (.i .i64 0) ⟨Tr.nil, 0⟩)
theorem w44_eq (P : Prims) (a0 a1 a2 : AV) (Q : AV → AS → Prop) : w44 P a0 a1 a2 Q = vcBody P T0 Go.Proofs.Tryd.f44 (codeOf Go.Proofs.Tryd.f44) an44 [a0, a1, a2] ⟨.nil, 0⟩ Q := by kernel_rfl
theorem r44 (a0 a1 a2 : AV) {r : AV} (hi : AV.idfree.idfrees [a0, a1, a2] = true) (hn : AV.norm.norms [a0, a1, a2] = [a0, a1, a2]) (h : w44 (prims T0) a0 a1 a2 (fun r1 s1 => oZ T0 s1 r1 (fun r2 => r2 = r))) : R T0 44 [a0, a1, a2] r :=
  R.mk (by kernel_rfl) (by kernel_rfl) (show T0.fn 44 = some Go.Proofs.Tryd.f44 by kernel_rfl) (by kernel_rfl) (by kernel_rfl) hi hn (by rw [w44_eq] at h; exact h)
/- orchestrator/value.Equal -/
def an45 : AN := (.seq none .leaf (.seq none .leaf .leaf))
def w45 (P : Prims) (a0 a1 : AV) (Q : AV → AS → Prop) : Prop :=
  P.oN 2 (.cells (AV.cells a0) 32 false) (fun id => (.ptr id 0)) ⟨Tr.nil, 0⟩ fun t2 sx1 =>
  P.oN 3 (.cells (AV.cells a1) 32 false) (fun id => (.ptr id 0)) sx1 fun t3 sx2 =>
  P.oV 5 (evLoad T0 sx2.h 32 t2) fun t5 =>
  P.oV 6 (evLoad T0 sx2.h 32 t3) fun t6 =>
  P.oC 7 58 [t5, t6] sx2 fun t7 sx3 =>
  P.oV 8 (evBin T0 .eql 3 true t7 (.i .i64 0)) fun t8 =>
  Q t8 sx3
theorem w45_eq (P : Prims) (a0 a1 : AV) (Q : AV → AS → Prop) : w45 P a0 a1 Q = vcBody P T0 Go.Proofs.Tryd.f45 (codeOf Go.Proofs.Tryd.f45) an45 [a0, a1] ⟨.nil, 0⟩ Q := by kernel_rfl
theorem r45 (a0 a1 : AV) {r : AV} (hi : AV.idfree.idfrees [a0, a1] = true) (hn : AV.norm.norms [a0, a1] = [a0, a1]) (h : w45 (prims T0) a0 a1 (fun r1 s1 => oZ T0 s1 r1 (fun r2 => r2 = r))) : R T0 45 [a0, a1] r :=
  R.mk (by kernel_rfl) (by kernel_rfl) (show T0.fn 45 = some Go.Proofs.Tryd.f45 by kernel_rfl) (by kernel_rfl) (by kernel_rfl) hi hn (by rw [w45_eq] at h; exact h)
/- orchestrator/orchestratorref13.SameMeta -/
def an46 : AN := (.seq none .leaf (.seq none (.seq none .leaf (.two (.seq none .leaf .leaf) .leaf)) (.seq none (.seq none .leaf (.two (.seq none .leaf .leaf) .leaf)) (.seq none (.seq none .leaf (.one (.loop [3, 2, 5] (.seq none (.seq none .leaf (.two .leaf .leaf)) (.seq none (.one (.seq none .leaf (.two (.seq none .leaf .leaf) .leaf))) .leaf))))) (.seq none (.seq none .leaf (.one (.loop [3, 2, 6] (.seq none (.seq none .leaf (.two .leaf .leaf)) (.seq none (.one (.seq none .leaf (.two (.seq none .leaf .leaf) .leaf))) .leaf))))) (.seq none (.seq none .leaf (.one (.loop [3, 2, 7] (.seq none (.seq none .leaf (.two .leaf .leaf)) (.seq none (.one (.seq none .leaf (.two (.seq none .leaf .leaf) .leaf))) .leaf))))) (.seq none .leaf .leaf)))))))
def w46 (P : Prims) (a0 a1 : AV) (Q : AV → AS → Prop) : Prop :=
  P.oN 2 (.cells (AV.cells a0) 27 false) (fun id => (.ptr id 0)) ⟨Tr.nil, 0⟩ fun t2 sx1 =>
  P.oN 3 (.cells (AV.cells a1) 27 false) (fun id => (.ptr id 0)) sx1 fun t3 sx2 =>
  P.oV 8 (evLoad T0 sx2.h 27 t2) fun t8 =>
  P.oC 9 59 [t8] sx2 fun t9 sx3 =>
  P.oV 10 (evLoad T0 sx2.h 27 t3) fun t10 =>
  P.oC 11 59 [t10] sx2 fun t11 sx4 =>
  P.oV 12 (evBin T0 .neq 9 false t9 t11) fun t12 =>
  P.oG [14, 15, 16, 17, 18] t12 false (fun (k : C5) => P.oV 14 (evOff 0 t2) fun t14 =>
   P.oV 15 (evLoad T0 sx2.h 9 t14) fun t15 =>
   P.oV 16 (evOff 0 t3) fun t16 =>
   P.oV 17 (evLoad T0 sx2.h 9 t16) fun t17 =>
   P.oV 18 (evBin T0 .neq 9 false t15 t17) fun t18 =>
   k t14 t15 t16 t17 t18 sx2) sx2 fun t14 t15 t16 t17 t18 sx5 =>
  P.oV 19 (evPick t12 (some (.b true)) (some t18)) fun t19 =>
  P.oG [21, 22, 23, 24, 25] t19 false (fun (k : C5) => P.oV 21 (evOff 1 t2) fun t21 =>
   P.oV 22 (evLoad T0 sx2.h 9 t21) fun t22 =>
   P.oV 23 (evOff 1 t3) fun t23 =>
   P.oV 24 (evLoad T0 sx2.h 9 t23) fun t24 =>
   P.oV 25 (evBin T0 .neq 9 false t22 t24) fun t25 =>
   k t21 t22 t23 t24 t25 sx2) sx2 fun t21 t22 t23 t24 t25 sx6 =>
  P.oV 26 (evPick t19 (some (.b true)) (some t25)) fun t26 =>
  P.oG [28, 29, 30, 31, 32] t26 false (fun (k : C5) => P.oV 28 (evOff 3 t2) fun t28 =>
   P.oV 29 (evLoad T0 sx2.h 3 t28) fun t29 =>
   P.oV 30 (evOff 3 t3) fun t30 =>
   P.oV 31 (evLoad T0 sx2.h 3 t30) fun t31 =>
   P.oV 32 (evBin T0 .neq 3 false t29 t31) fun t32 =>
   k t28 t29 t30 t31 t32 sx2) sx2 fun t28 t29 t30 t31 t32 sx7 =>
  P.oV 33 (evPick t26 (some (.b true)) (some t32)) fun t33 =>
  P.oG [35, 36, 37, 38, 39] t33 false (fun (k : C5) => P.oV 35 (evOff 4 t2) fun t35 =>
   P.oV 36 (evLoad T0 sx2.h 3 t35) fun t36 =>
   P.oV 37 (evOff 4 t3) fun t37 =>
   P.oV 38 (evLoad T0 sx2.h 3 t37) fun t38 =>
   P.oV 39 (evBin T0 .neq 3 false t36 t38) fun t39 =>
   k t35 t36 t37 t38 t39 sx2) sx2 fun t35 t36 t37 t38 t39 sx8 =>
  P.oV 40 (evPick t33 (some (.b true)) (some t39)) fun t40 =>
  P.oG [42, 43, 44, 45, 46] t40 false (fun (k : C5) => P.oV 42 (evOff 5 t2) fun t42 =>
   P.oV 43 (evLoad T0 sx2.h 3 t42) fun t43 =>
   P.oV 44 (evOff 5 t3) fun t44 =>
   P.oV 45 (evLoad T0 sx2.h 3 t44) fun t45 =>
   P.oV 46 (evBin T0 .neq 3 false t43 t45) fun t46 =>
   k t42 t43 t44 t45 t46 sx2) sx2 fun t42 t43 t44 t45 t46 sx9 =>
  P.oV 47 (evPick t40 (some (.b true)) (some t46)) fun t47 =>
  P.oG [49, 50, 51, 52, 53] t47 false (fun (k : C5) => P.oV 49 (evOff 6 t2) fun t49 =>
   P.oV 50 (evLoad T0 sx2.h 3 t49) fun t50 =>
   P.oV 51 (evOff 6 t3) fun t51 =>
   P.oV 52 (evLoad T0 sx2.h 3 t51) fun t52 =>
   P.oV 53 (evBin T0 .neq 3 false t50 t52) fun t53 =>
   k t49 t50 t51 t52 t53 sx2) sx2 fun t49 t50 t51 t52 t53 sx10 =>
  P.oV 54 (evPick t47 (some (.b true)) (some t53)) fun t54 =>
  P.oG [56, 57, 58, 59, 60] t54 false (fun (k : C5) => P.oV 56 (evOff 7 t2) fun t56 =>
   P.oV 57 (evLoad T0 sx2.h 4 t56) fun t57 =>
   P.oV 58 (evOff 7 t3) fun t58 =>
   P.oV 59 (evLoad T0 sx2.h 4 t58) fun t59 =>
   P.oV 60 (evBin T0 .neq 4 false t57 t59) fun t60 =>
   k t56 t57 t58 t59 t60 sx2) sx2 fun t56 t57 t58 t59 t60 sx11 =>
  P.oV 61 (evPick t54 (some (.b true)) (some t60)) fun t61 =>
  P.oG [63, 64, 65, 66, 67] t61 false (fun (k : C5) => P.oV 63 (evOff 8 t2) fun t63 =>
   P.oV 64 (evLoad T0 sx2.h 3 t63) fun t64 =>
   P.oV 65 (evOff 8 t3) fun t65 =>
   P.oV 66 (evLoad T0 sx2.h 3 t65) fun t66 =>
   P.oV 67 (evBin T0 .neq 3 false t64 t66) fun t67 =>
   k t63 t64 t65 t66 t67 sx2) sx2 fun t63 t64 t65 t66 t67 sx12 =>
  P.oV 68 (evPick t61 (some (.b true)) (some t67)) fun t68 =>
  P.oI t68 (Q (.b false) sx2)
  (P.oV 69 (evOff 9 t2) fun t69 =>
   P.oV 70 (evLoad T0 sx2.h 22 t69) fun t70 =>
   P.oV 71 (evBuiltin T0 sx2.h .len [22] [t70]) fun t71 =>
   P.oV 72 (evOff 9 t3) fun t72 =>
   P.oV 73 (evLoad T0 sx2.h 22 t72) fun t73 =>
   P.oV 74 (evBuiltin T0 sx2.h .len [22] [t73]) fun t74 =>
   P.oV 75 (evBin T0 .neq 3 false t71 t74) fun t75 =>
   P.oG [77, 78, 79, 80, 81, 82, 83] t75 false (fun (k : C7) => P.oV 77 (evOff 10 t2) fun t77 =>
    P.oV 78 (evLoad T0 sx2.h 23 t77) fun t78 =>
    P.oV 79 (evBuiltin T0 sx2.h .len [23] [t78]) fun t79 =>
    P.oV 80 (evOff 10 t3) fun t80 =>
    P.oV 81 (evLoad T0 sx2.h 23 t80) fun t81 =>
    P.oV 82 (evBuiltin T0 sx2.h .len [23] [t81]) fun t82 =>
    P.oV 83 (evBin T0 .neq 3 false t79 t82) fun t83 =>
    k t77 t78 t79 t80 t81 t82 t83 sx2) sx2 fun t77 t78 t79 t80 t81 t82 t83 sx13 =>
   P.oV 84 (evPick t75 (some (.b true)) (some t83)) fun t84 =>
   P.oG [86, 87, 88, 89, 90, 91, 92] t84 false (fun (k : C7) => P.oV 86 (evOff 12 t2) fun t86 =>
    P.oV 87 (evLoad T0 sx13.h 25 t86) fun t87 =>
    P.oV 88 (evBuiltin T0 sx13.h .len [25] [t87]) fun t88 =>
    P.oV 89 (evOff 12 t3) fun t89 =>
    P.oV 90 (evLoad T0 sx13.h 25 t89) fun t90 =>
    P.oV 91 (evBuiltin T0 sx13.h .len [25] [t90]) fun t91 =>
    P.oV 92 (evBin T0 .neq 3 false t88 t91) fun t92 =>
    k t86 t87 t88 t89 t90 t91 t92 sx13) sx13 fun t86 t87 t88 t89 t90 t91 t92 sx14 =>
   P.oV 93 (evPick t84 (some (.b true)) (some t92)) fun t93 =>
   P.oG [95, 96, 97, 98, 99, 100] t93 false (fun (k : C6) => P.oV 95 (evOff 11 t2) fun t95 =>
    P.oV 96 (evLoad T0 sx14.h 24 t95) fun t96 =>
    P.oV 97 (evOff 11 t3) fun t97 =>
    P.oV 98 (evLoad T0 sx14.h 24 t97) fun t98 =>
    P.oC 99 60 [t96, t98] sx14 fun t99 sx15 =>
    P.oV 100 (evUn .not t99) fun t100 =>
    k t95 t96 t97 t98 t99 t100 sx15) sx14 fun t95 t96 t97 t98 t99 t100 sx15 =>
   P.oV 101 (evPick t93 (some (.b true)) (some t100)) fun t101 =>
   P.oI t101 (Q (.b false) sx15)
   (P.oL [3, 2, 5] (fun (next : C3) t3x1 t2x1 t5 sx16 =>
    P.oV 103 (evOff 9 t2x1) fun t103 =>
    P.oV 104 (evLoad T0 sx16.h 22 t103) fun t104 =>
    P.oV 105 (evBuiltin T0 sx16.h .len [22] [t104]) fun t105 =>
    P.oV 106 (evBin T0 .lss 3 false t5 t105) fun t106 =>
    P.oI t106 (P.oV 109 (evOff 9 t2x1) fun t109 =>
     P.oV 110 (evLoad T0 sx16.h 22 t109) fun t110 =>
     P.oV 112 (evIndexAddr T0 22 t110 t5) fun t112 =>
     P.oV 113 (evLoad T0 sx16.h 66 t112) fun t113 =>
     P.oV 114 (evOff 9 t3x1) fun t114 =>
     P.oV 115 (evLoad T0 sx16.h 22 t114) fun t115 =>
     P.oV 117 (evIndexAddr T0 22 t115 t5) fun t117 =>
     P.oV 118 (evLoad T0 sx16.h 66 t117) fun t118 =>
     P.oV 119 (evBin T0 .neq 66 false t113 t118) fun t119 =>
     P.oI t119 (Q (.b false) sx16)
     (P.oV 108 (evBin T0 .add 3 true t5 (.i .i64 1)) fun t108 =>
      next t3x1 t2x1 t108 sx16))
    (P.oL [3, 2, 6] (fun (nextx1 : C3) t3x2 t2x2 t6 sx17 =>
     P.oV 121 (evOff 10 t2x2) fun t121 =>
     P.oV 122 (evLoad T0 sx17.h 23 t121) fun t122 =>
     P.oV 123 (evBuiltin T0 sx17.h .len [23] [t122]) fun t123 =>
     P.oV 124 (evBin T0 .lss 3 false t6 t123) fun t124 =>
     P.oI t124 (P.oV 127 (evOff 10 t2x2) fun t127 =>
      P.oV 128 (evLoad T0 sx17.h 23 t127) fun t128 =>
      P.oV 130 (evIndexAddr T0 23 t128 t6) fun t130 =>
      P.oV 131 (evLoad T0 sx17.h 43 t130) fun t131 =>
      P.oV 132 (evOff 10 t3x2) fun t132 =>
      P.oV 133 (evLoad T0 sx17.h 23 t132) fun t133 =>
      P.oV 135 (evIndexAddr T0 23 t133 t6) fun t135 =>
      P.oV 136 (evLoad T0 sx17.h 43 t135) fun t136 =>
      P.oV 137 (evBin T0 .neq 43 false t131 t136) fun t137 =>
      P.oI t137 (Q (.b false) sx17)
      (P.oV 126 (evBin T0 .add 3 true t6 (.i .i64 1)) fun t126 =>
       nextx1 t3x2 t2x2 t126 sx17))
     (P.oL [3, 2, 7] (fun (nextx2 : C3) t3x3 t2x3 t7 sx18 =>
      P.oV 139 (evOff 12 t2x3) fun t139 =>
      P.oV 140 (evLoad T0 sx18.h 25 t139) fun t140 =>
      P.oV 141 (evBuiltin T0 sx18.h .len [25] [t140]) fun t141 =>
      P.oV 142 (evBin T0 .lss 3 false t7 t141) fun t142 =>
      P.oI t142 (P.oV 145 (evOff 12 t2x3) fun t145 =>
       P.oV 146 (evLoad T0 sx18.h 25 t145) fun t146 =>
       P.oV 148 (evIndexAddr T0 25 t146 t7) fun t148 =>
       P.oV 149 (evOff 0 t148) fun t149 =>
       P.oV 150 (evLoad T0 sx18.h 9 t149) fun t150 =>
       P.oV 151 (evOff 12 t3x3) fun t151 =>
       P.oV 152 (evLoad T0 sx18.h 25 t151) fun t152 =>
       P.oV 154 (evIndexAddr T0 25 t152 t7) fun t154 =>
       P.oV 155 (evOff 0 t154) fun t155 =>
       P.oV 156 (evLoad T0 sx18.h 9 t155) fun t156 =>
       P.oV 157 (evBin T0 .neq 9 false t150 t156) fun t157 =>
       P.oG [159, 160, 161, 162, 163, 164, 165, 166, 167, 168, 169, 170, 171, 172] t157 false (fun (k : C14) => P.oV 159 (evOff 12 t2x3) fun t159 =>
        P.oV 160 (evLoad T0 sx18.h 25 t159) fun t160 =>
        P.oV 162 (evIndexAddr T0 25 t160 t7) fun t162 =>
        P.oV 163 (evOff 1 t162) fun t163 =>
        P.oV 164 (evLoad T0 sx18.h 24 t163) fun t164 =>
        P.oV 165 (evOff 12 t3x3) fun t165 =>
        P.oV 166 (evLoad T0 sx18.h 25 t165) fun t166 =>
        P.oV 168 (evIndexAddr T0 25 t166 t7) fun t168 =>
        P.oV 169 (evOff 1 t168) fun t169 =>
        P.oV 170 (evLoad T0 sx18.h 24 t169) fun t170 =>
        P.oC 171 60 [t164, t170] sx18 fun t171 sx19 =>
        P.oV 172 (evUn .not t171) fun t172 =>
        k t159 t160 t7 t162 t163 t164 t165 t166 t7 t168 t169 t170 t171 t172 sx18) sx18 fun t159 t160 t161 t162 t163 t164 t165 t166 t167 t168 t169 t170 t171 t172 sx19 =>
       P.oV 173 (evPick t157 (some (.b true)) (some t172)) fun t173 =>
       P.oI t173 (Q (.b false) sx18)
       (P.oV 144 (evBin T0 .add 3 true t7 (.i .i64 1)) fun t144 =>
        nextx2 t3x3 t2x3 t144 sx18))
      (Q (.b true) sx18)) t3x2 t2x2 (.i .i64 0) sx17)) t3x1 t2x1 (.i .i64 0) sx16)) t3 t2 (.i .i64 0) sx15))
theorem w46_eq (P : Prims) (a0 a1 : AV) (Q : AV → AS → Prop) : w46 P a0 a1 Q = vcBody P T0 Go.Proofs.Tryd.f46 (codeOf Go.Proofs.Tryd.f46) an46 [a0, a1] ⟨.nil, 0⟩ Q := by kernel_rfl
theorem r46 (a0 a1 : AV) {r : AV} (hi : AV.idfree.idfrees [a0, a1] = true) (hn : AV.norm.norms [a0, a1] = [a0, a1]) (h : w46 (prims T0) a0 a1 (fun r1 s1 => oZ T0 s1 r1 (fun r2 => r2 = r))) : R T0 46 [a0, a1] r :=
  R.mk (by kernel_rfl) (by kernel_rfl) (show T0.fn 46 = some Go.Proofs.Tryd.f46 by kernel_rfl) (by kernel_rfl) (by kernel_rfl) hi hn (by rw [w46_eq] at h; exact h)
/- orchestrator/orchestratorref04.Equal -/
def an47 : AN := (.seq none .leaf (.seq none .leaf .leaf))
def w47 (P : Prims) (a0 a1 : AV) (Q : AV → AS → Prop) : Prop :=
  P.oN 2 (.cells (AV.cells a0) 32 false) (fun id => (.ptr id 0)) ⟨Tr.nil, 0⟩ fun t2 sx1 =>
  P.oN 3 (.cells (AV.cells a1) 32 false) (fun id => (.ptr id 0)) sx1 fun t3 sx2 =>
  P.oV 5 (evLoad T0 sx2.h 32 t2) fun t5 =>
  P.oV 6 (evLoad T0 sx2.h 32 t3) fun t6 =>
  P.oC 7 61 [t5, t6] sx2 fun t7 sx3 =>
  P.oV 8 (evBin T0 .eql 3 true t7 (.i .i64 0)) fun t8 =>
  Q t8 sx3
theorem w47_eq (P : Prims) (a0 a1 : AV) (Q : AV → AS → Prop) : w47 P a0 a1 Q = vcBody P T0 Go.Proofs.Tryd.f47 (codeOf Go.Proofs.Tryd.f47) an47 [a0, a1] ⟨.nil, 0⟩ Q := by kernel_rfl
theorem r47 (a0 a1 : AV) {r : AV} (hi : AV.idfree.idfrees [a0, a1] = true) (hn : AV.norm.norms [a0, a1] = [a0, a1]) (h : w47 (prims T0) a0 a1 (fun r1 s1 => oZ T0 s1 r1 (fun r2 => r2 = r))) : R T0 47 [a0, a1] r :=
  R.mk (by kernel_rfl) (by kernel_rfl) (show T0.fn 47 = some Go.Proofs.Tryd.f47 by kernel_rfl) (by kernel_rfl) (by kernel_rfl) hi hn (by rw [w47_eq] at h; exact h)
/- strconv.Itoa -/
def an48 : AN := (.seq none .leaf (.seq none .leaf .leaf))
def w48 (P : Prims) (a0 : AV) (Q : AV → AS → Prop) : Prop :=
  P.oC 4 62 [a0] ⟨Tr.nil, 0⟩ fun t4 sx1 =>
  Q t4 sx1
theorem w48_eq (P : Prims) (a0 : AV) (Q : AV → AS → Prop) : w48 P a0 Q = vcBody P T0 Go.Proofs.Tryd.f48 (codeOf Go.Proofs.Tryd.f48) an48 [a0] ⟨.nil, 0⟩ Q := by kernel_rfl
theorem r48 (a0 : AV) {r : AV} (hi : AV.idfree.idfrees [a0] = true) (hn : AV.norm.norms [a0] = [a0]) (h : w48 (prims T0) a0 (fun r1 s1 => oZ T0 s1 r1 (fun r2 => r2 = r))) : R T0 48 [a0] r :=
  R.mk (by kernel_rfl) (by kernel_rfl) (show T0.fn 48 = some Go.Proofs.Tryd.f48 by kernel_rfl) (by kernel_rfl) (by kernel_rfl) hi hn (by rw [w48_eq] at h; exact h)
/- orchestrator/orchestratorref13.digits -/
def an49 : AN := (.seq none .leaf (.seq none .leaf (.seq none (.one (.loop [3, 0] (.seq none (.seq none .leaf (.two .leaf .leaf)) (.one (.seq none .leaf .leaf))))) (.seq none .leaf .leaf))))
def w49 (P : Prims) (a0 : AV) (Q : AV → AS → Prop) : Prop :=
  P.oV 5 (evBin T0 .rem 3 true a0 (.i .i64 10)) fun t5 =>
  P.oV 6 (evBin T0 .add 3 true (.i .i64 48) t5) fun t6 =>
  P.oV 7 (evConv T0 Tr.nil 3 5 t6) fun t7 =>
  P.oE (evLit T0 78 1 [(0, t7)]) fun b f =>
  P.oN 8 b f ⟨Tr.nil, 0⟩ fun t8 sx1 =>
  P.oV 9 (evConv T0 sx1.h 78 9 t8) fun t9 =>
  P.oL [3, 0] (fun (next : C2) t3 t0 sx2 =>
  P.oV 11 (evBin T0 .geq 3 true t0 (.i .i64 10)) fun t11 =>
  P.oI t11 (P.oV 13 (evBin T0 .quo 3 true t0 (.i .i64 10)) fun t13 =>
   P.oV 15 (evBin T0 .rem 3 true t13 (.i .i64 10)) fun t15 =>
   P.oV 16 (evBin T0 .add 3 true (.i .i64 48) t15) fun t16 =>
   P.oV 17 (evConv T0 sx2.h 3 5 t16) fun t17 =>
   P.oE (evLit T0 78 1 [(0, t17)]) fun bx1 fx1 =>
   P.oN 18 bx1 fx1 sx2 fun t18 sx3 =>
   P.oV 19 (evConv T0 sx3.h 78 9 t18) fun t19 =>
   P.oV 21 (evBin T0 .add 9 false t19 t3) fun t21 =>
   next t21 t13 sx3)
  (Q t3 sx2)) t9 a0 sx1
theorem w49_eq (P : Prims) (a0 : AV) (Q : AV → AS → Prop) : w49 P a0 Q = vcBody P T0 Go.Proofs.Tryd.f49 (codeOf Go.Proofs.Tryd.f49) an49 [a0] ⟨.nil, 0⟩ Q := by kernel_rfl
theorem r49 (a0 : AV) {r : AV} (hi : AV.idfree.idfrees [a0] = true) (hn : AV.norm.norms [a0] = [a0]) (h : w49 (prims T0) a0 (fun r1 s1 => oZ T0 s1 r1 (fun r2 => r2 = r))) : R T0 49 [a0] r :=
  R.mk (by kernel_rfl) (by kernel_rfl) (show T0.fn 49 = some Go.Proofs.Tryd.f49 by kernel_rfl) (by kernel_rfl) (by kernel_rfl) hi hn (by rw [w49_eq] at h; exact h)
/- orchestrator/orchestratorref04.count -/
def an50 : AN := (.seq none .leaf (.seq none (.seq none .leaf (.two (.seq none .leaf .leaf) .leaf)) (.seq none .leaf (.seq none (.seq none .leaf (.one (.loop [1, 2, 3, 7] (.seq none (.seq none .leaf (.two .leaf .leaf)) (.seq none (.one .leaf) .leaf))))) (.seq none (.seq none .leaf (.one (.loop [1, 2, 3, 8] (.seq none (.seq none .leaf (.two .leaf .leaf)) (.seq none (.one (.seq none (.seq none .leaf (.two (.seq none .leaf .leaf) .leaf)) .leaf)) .leaf))))) (.seq none .leaf .leaf))))))
def w50 (P : Prims) (a0 a1 a2 : AV) (Q : AV → AS → Prop) : Prop :=
  P.oN 3 (.cells (AV.cells a0) 32 false) (fun id => (.ptr id 0)) ⟨Tr.nil, 0⟩ fun t3 sx1 =>
  P.oV 10 (evBin T0 .leq 3 true a1 (.i .i64 0)) fun t10 =>
  P.oG [12, 13] t10 false (fun (k : C2) => P.oV 13 (evBin T0 .leq 3 true a2 (.i .i64 0)) fun t13 =>
   k a2 t13 sx1) sx1 fun t12 t13 sx2 =>
  P.oV 14 (evPick t10 (some (.b true)) (some t13)) fun t14 =>
  P.oG [16, 17, 18, 19] t14 false (fun (k : C4) => P.oV 16 (evOff 2 t3) fun t16 =>
   P.oV 17 (evLoad T0 sx2.h 9 t16) fun t17 =>
   P.oV 18 (evBuiltin T0 sx2.h .len [9] [t17]) fun t18 =>
   P.oV 19 (evBin T0 .gtr 3 true t18 (.i .i64 1000)) fun t19 =>
   k t16 t17 t18 t19 sx2) sx2 fun t16 t17 t18 t19 sx3 =>
  P.oV 20 (evPick t14 (some (.b true)) (some t19)) fun t20 =>
  P.oI t20 (Q (.i .i64 (-1)) sx3)
  (P.oV 22 (evBin T0 .sub 3 true a1 (.i .i64 1)) fun t22 =>
   P.oL [1, 2, 3, 7] (fun (next : C4) t1 t2 t3x1 t7 sx4 =>
   P.oV 24 (evOff 3 t3x1) fun t24 =>
   P.oV 25 (evLoad T0 sx4.h 29 t24) fun t25 =>
   P.oV 26 (evBuiltin T0 sx4.h .len [29] [t25]) fun t26 =>
   P.oV 27 (evBin T0 .lss 3 false t7 t26) fun t27 =>
   P.oG [29, 30] t27 true (fun (k : C2) => P.oV 30 (evBin T0 .geq 3 true t1 (.i .i64 0)) fun t30 =>
    k t1 t30 sx4) sx4 fun t29 t30 sx5 =>
   P.oV 31 (evPick t27 (some t30) (some (.b false))) fun t31 =>
   P.oI t31 (P.oV 34 (evOff 3 t3x1) fun t34 =>
    P.oV 35 (evLoad T0 sx5.h 29 t34) fun t35 =>
    P.oV 37 (evIndexAddr T0 29 t35 t7) fun t37 =>
    P.oV 38 (evLoad T0 sx5.h 32 t37) fun t38 =>
    P.oV 41 (evBin T0 .sub 3 true t2 (.i .i64 1)) fun t41 =>
    P.oC 42 50 [t38, t1, t41] sx5 fun t42 sx6 =>
    P.oV 33 (evBin T0 .add 3 true t7 (.i .i64 1)) fun t33 =>
    next t42 t2 t3x1 t33 sx6)
   (P.oL [1, 2, 3, 8] (fun (nextx1 : C4) t1x1 t2x1 t3x2 t8 sx6 =>
    P.oV 44 (evOff 4 t3x2) fun t44 =>
    P.oV 45 (evLoad T0 sx6.h 30 t44) fun t45 =>
    P.oV 46 (evBuiltin T0 sx6.h .len [30] [t45]) fun t46 =>
    P.oV 47 (evBin T0 .lss 3 false t8 t46) fun t47 =>
    P.oG [49, 50] t47 true (fun (k : C2) => P.oV 50 (evBin T0 .geq 3 true t1x1 (.i .i64 0)) fun t50 =>
     k t1x1 t50 sx6) sx6 fun t49 t50 sx7 =>
    P.oV 51 (evPick t47 (some t50) (some (.b false))) fun t51 =>
    P.oI t51 (P.oV 54 (evOff 4 t3x2) fun t54 =>
     P.oV 55 (evLoad T0 sx7.h 30 t54) fun t55 =>
     P.oV 57 (evIndexAddr T0 30 t55 t8) fun t57 =>
     P.oV 58 (evOff 0 t57) fun t58 =>
     P.oV 59 (evLoad T0 sx7.h 9 t58) fun t59 =>
     P.oV 60 (evBuiltin T0 sx7.h .len [9] [t59]) fun t60 =>
     P.oV 61 (evBin T0 .gtr 3 true t60 (.i .i64 1000)) fun t61 =>
     P.oI t61 (Q (.i .i64 (-1)) sx7)
     (P.oV 62 (evOff 4 t3x2) fun t62 =>
      P.oV 63 (evLoad T0 sx7.h 30 t62) fun t63 =>
      P.oV 65 (evIndexAddr T0 30 t63 t8) fun t65 =>
      P.oV 66 (evOff 1 t65) fun t66 =>
      P.oV 67 (evLoad T0 sx7.h 32 t66) fun t67 =>
      P.oV 70 (evBin T0 .sub 3 true t2x1 (.i .i64 1)) fun t70 =>
      P.oC 71 50 [t67, t1x1, t70] sx7 fun t71 sx8 =>
      P.oV 53 (evBin T0 .add 3 true t8 (.i .i64 1)) fun t53 =>
      nextx1 t71 t2x1 t3x2 t53 sx8))
    (Q t1x1 sx7)) t1 t2 t3x1 (.i .i64 0) sx5)) t22 a2 t3 (.i .i64 0) sx3)
theorem w50_eq (P : Prims) (a0 a1 a2 : AV) (Q : AV → AS → Prop) : w50 P a0 a1 a2 Q = vcBody P T0 Go.Proofs.Tryd.f50 (codeOf Go.Proofs.Tryd.f50) an50 [a0, a1, a2] ⟨.nil, 0⟩ Q := by kernel_rfl
theorem r50 (a0 a1 a2 : AV) {r : AV} (hi : AV.idfree.idfrees [a0, a1, a2] = true) (hn : AV.norm.norms [a0, a1, a2] = [a0, a1, a2]) (h : w50 (prims T0) a0 a1 a2 (fun r1 s1 => oZ T0 s1 r1 (fun r2 => r2 = r))) : R T0 50 [a0, a1, a2] r :=
  R.mk (by kernel_rfl) (by kernel_rfl) (show T0.fn 50 = some Go.Proofs.Tryd.f50 by kernel_rfl) (by kernel_rfl) (by kernel_rfl) hi hn (by rw [w50_eq] at h; exact h)
/- orchestrator/label.validKey -/
def an51 : AN := (.seq none .leaf (.seq none (.seq none .leaf (.two (.seq none .leaf .leaf) .leaf)) (.seq none (.seq none .leaf (.one (.loop [0, 22, 23] (.seq none .leaf (.seq none (.two .leaf .leaf) (.seq none (.one (.seq none .leaf (.seq none .leaf (.two (.seq none .leaf .leaf) .leaf)))) .leaf)))))) (.seq none .leaf .leaf))))
def w51 (P : Prims) (a0 : AV) (Q : AV → AS → Prop) : Prop :=
  P.oV 5 (evBin T0 .eql 9 true a0 (.s [])) fun t5 =>
  P.oG [7, 8, 9] t5 false (fun (k : C3) => P.oV 8 (evBuiltin T0 Tr.nil .len [9] [a0]) fun t8 =>
   P.oV 9 (evBin T0 .gtr 3 true t8 (.i .i64 40)) fun t9 =>
   k a0 t8 t9 ⟨Tr.nil, 0⟩) ⟨Tr.nil, 0⟩ fun t7 t8 t9 sx1 =>
  P.oV 10 (evPick t5 (some (.b true)) (some t9)) fun t10 =>
  P.oG [12, 13, 14] t10 false (fun (k : C3) => P.oV 13 (evIndex T0 9 a0 (.i .i64 0)) fun t13 =>
   P.oV 14 (evBin T0 .lss 5 true t13 (.i .u8 97)) fun t14 =>
   k a0 t13 t14 sx1) sx1 fun t12 t13 t14 sx2 =>
  P.oV 15 (evPick t10 (some (.b true)) (some t14)) fun t15 =>
  P.oG [17, 18, 19] t15 false (fun (k : C3) => P.oV 18 (evIndex T0 9 a0 (.i .i64 0)) fun t18 =>
   P.oV 19 (evBin T0 .gtr 5 true t18 (.i .u8 122)) fun t19 =>
   k a0 t18 t19 sx2) sx2 fun t17 t18 t19 sx3 =>
  P.oV 20 (evPick t15 (some (.b true)) (some t19)) fun t20 =>
  P.oI t20 (Q (.b false) sx3)
  (P.oV 22 (evBuiltin T0 sx3.h .len [9] [a0]) fun t22 =>
   P.oL [0, 22, 23] (fun (next : C3) t0 t22x1 t23 sx4 =>
   P.oV 24 (evBin T0 .lss 3 false t23 t22x1) fun t24 =>
   P.oI t24 (P.oV 28 (evIndex T0 9 t0 t23) fun t28 =>
    P.oC 29 63 [t28] sx4 fun t29 sx5 =>
    P.oV 30 (evUn .not t29) fun t30 =>
    P.oI t30 (Q (.b false) sx5)
    (P.oV 31 (evBin T0 .add 3 true t23 (.i .i64 1)) fun t31 =>
     next t0 t22x1 t31 sx5))
   (Q (.b true) sx4)) a0 t22 (.i .i64 0) sx3)
theorem w51_eq (P : Prims) (a0 : AV) (Q : AV → AS → Prop) : w51 P a0 Q = vcBody P T0 Go.Proofs.Tryd.f51 (codeOf Go.Proofs.Tryd.f51) an51 [a0] ⟨.nil, 0⟩ Q := by kernel_rfl
theorem r51 (a0 : AV) {r : AV} (hi : AV.idfree.idfrees [a0] = true) (hn : AV.norm.norms [a0] = [a0]) (h : w51 (prims T0) a0 (fun r1 s1 => oZ T0 s1 r1 (fun r2 => r2 = r))) : R T0 51 [a0] r :=
  R.mk (by kernel_rfl) (by kernel_rfl) (show T0.fn 51 = some Go.Proofs.Tryd.f51 by kernel_rfl) (by kernel_rfl) (by kernel_rfl) hi hn (by rw [w51_eq] at h; exact h)
/- orchestrator/label.validValue -/
def an52 : AN := (.seq none .leaf (.seq none (.seq none .leaf (.two (.seq none .leaf .leaf) .leaf)) (.seq none (.seq none .leaf (.one (.loop [0, 8, 9] (.seq none .leaf (.seq none (.two .leaf .leaf) (.seq none (.one (.seq none .leaf (.seq none .leaf (.two (.seq none .leaf .leaf) .leaf)))) .leaf)))))) (.seq none .leaf .leaf))))
def w52 (P : Prims) (a0 : AV) (Q : AV → AS → Prop) : Prop :=
  P.oV 5 (evBuiltin T0 Tr.nil .len [9] [a0]) fun t5 =>
  P.oV 6 (evBin T0 .gtr 3 true t5 (.i .i64 40)) fun t6 =>
  P.oI t6 (Q (.b false) ⟨Tr.nil, 0⟩)
  (P.oV 8 (evBuiltin T0 Tr.nil .len [9] [a0]) fun t8 =>
   P.oL [0, 8, 9] (fun (next : C3) t0 t8x1 t9 sx1 =>
   P.oV 10 (evBin T0 .lss 3 false t9 t8x1) fun t10 =>
   P.oI t10 (P.oV 14 (evIndex T0 9 t0 t9) fun t14 =>
    P.oC 15 63 [t14] sx1 fun t15 sx2 =>
    P.oV 16 (evUn .not t15) fun t16 =>
    P.oG [18, 19, 20, 21] t16 false (fun (k : C4) => P.oV 20 (evIndex T0 9 t0 t9) fun t20 =>
     P.oV 21 (evBin T0 .eql 5 true t20 (.i .u8 47)) fun t21 =>
     k t0 t9 t20 t21 sx2) sx2 fun t18 t19 t20 t21 sx3 =>
    P.oV 22 (evPick t16 (some (.b true)) (some t21)) fun t22 =>
    P.oI t22 (Q (.b false) sx3)
    (P.oV 23 (evBin T0 .add 3 true t9 (.i .i64 1)) fun t23 =>
     next t0 t8x1 t23 sx3))
   (Q (.b true) sx1)) a0 t8 (.i .i64 0) ⟨Tr.nil, 0⟩)
theorem w52_eq (P : Prims) (a0 : AV) (Q : AV → AS → Prop) : w52 P a0 Q = vcBody P T0 Go.Proofs.Tryd.f52 (codeOf Go.Proofs.Tryd.f52) an52 [a0] ⟨.nil, 0⟩ Q := by kernel_rfl
theorem r52 (a0 : AV) {r : AV} (hi : AV.idfree.idfrees [a0] = true) (hn : AV.norm.norms [a0] = [a0]) (h : w52 (prims T0) a0 (fun r1 s1 => oZ T0 s1 r1 (fun r2 => r2 = r))) : R T0 52 [a0] r :=
  R.mk (by kernel_rfl) (by kernel_rfl) (show T0.fn 52 = some Go.Proofs.Tryd.f52 by kernel_rfl) (by kernel_rfl) (by kernel_rfl) hi hn (by rw [w52_eq] at h; exact h)
/- orchestrator/meta.rising -/
def an53 : AN := (.seq none .leaf (.seq none (.seq none .leaf (.one (.loop [0, 3] (.seq none (.seq none .leaf (.two .leaf .leaf)) (.seq none (.one (.seq none .leaf (.two (.seq none .leaf .leaf) .leaf))) .leaf))))) (.seq none .leaf .leaf)))
def w53 (P : Prims) (a0 : AV) (Q : AV → AS → Prop) : Prop :=
  P.oL [0, 3] (fun (next : C2) t0 t3 sx1 =>
  P.oV 6 (evBuiltin T0 sx1.h .len [24] [t0]) fun t6 =>
  P.oV 7 (evBin T0 .lss 3 false t3 t6) fun t7 =>
  P.oI t7 (P.oV 12 (evBin T0 .sub 3 true t3 (.i .i64 1)) fun t12 =>
   P.oV 13 (evIndexAddr T0 24 t0 t12) fun t13 =>
   P.oV 14 (evLoad T0 sx1.h 9 t13) fun t14 =>
   P.oV 17 (evIndexAddr T0 24 t0 t3) fun t17 =>
   P.oV 18 (evLoad T0 sx1.h 9 t17) fun t18 =>
   P.oV 19 (evBin T0 .geq 9 false t14 t18) fun t19 =>
   P.oI t19 (Q (.b false) sx1)
   (P.oV 9 (evBin T0 .add 3 true t3 (.i .i64 1)) fun t9 =>
    next t0 t9 sx1))
  (Q (.b true) sx1)) a0 (.i .i64 1) ⟨Tr.nil, 0⟩
theorem w53_eq (P : Prims) (a0 : AV) (Q : AV → AS → Prop) : w53 P a0 Q = vcBody P T0 Go.Proofs.Tryd.f53 (codeOf Go.Proofs.Tryd.f53) an53 [a0] ⟨.nil, 0⟩ Q := by kernel_rfl
theorem r53 (a0 : AV) {r : AV} (hi : AV.idfree.idfrees [a0] = true) (hn : AV.norm.norms [a0] = [a0]) (h : w53 (prims T0) a0 (fun r1 s1 => oZ T0 s1 r1 (fun r2 => r2 = r))) : R T0 53 [a0] r :=
  R.mk (by kernel_rfl) (by kernel_rfl) (show T0.fn 53 = some Go.Proofs.Tryd.f53 by kernel_rfl) (by kernel_rfl) (by kernel_rfl) hi hn (by rw [w53_eq] at h; exact h)
/- orchestrator/orchestratorref03.ValidKey -/
def an54 : AN := (.seq none .leaf (.seq none (.seq none .leaf (.two (.seq none .leaf .leaf) .leaf)) (.seq none (.seq none .leaf (.one (.loop [0, 3] (.seq none (.seq none .leaf (.two .leaf .leaf)) (.seq none (.one (.seq none .leaf (.two (.seq none .leaf .leaf) .leaf))) .leaf))))) (.seq none .leaf .leaf))))
def w54 (P : Prims) (a0 : AV) (Q : AV → AS → Prop) : Prop :=
  P.oV 5 (evBuiltin T0 Tr.nil .len [9] [a0]) fun t5 =>
  P.oV 6 (evBin T0 .lss 3 true t5 (.i .i64 1)) fun t6 =>
  P.oG [8, 9, 10] t6 false (fun (k : C3) => P.oV 9 (evBuiltin T0 Tr.nil .len [9] [a0]) fun t9 =>
   P.oV 10 (evBin T0 .gtr 3 true t9 (.i .i64 40)) fun t10 =>
   k a0 t9 t10 ⟨Tr.nil, 0⟩) ⟨Tr.nil, 0⟩ fun t8 t9 t10 sx1 =>
  P.oV 11 (evPick t6 (some (.b true)) (some t10)) fun t11 =>
  P.oG [13, 14, 15] t11 false (fun (k : C3) => P.oV 14 (evIndex T0 9 a0 (.i .i64 0)) fun t14 =>
   P.oV 15 (evBin T0 .lss 5 true t14 (.i .u8 97)) fun t15 =>
   k a0 t14 t15 sx1) sx1 fun t13 t14 t15 sx2 =>
  P.oV 16 (evPick t11 (some (.b true)) (some t15)) fun t16 =>
  P.oG [18, 19, 20] t16 false (fun (k : C3) => P.oV 19 (evIndex T0 9 a0 (.i .i64 0)) fun t19 =>
   P.oV 20 (evBin T0 .gtr 5 true t19 (.i .u8 122)) fun t20 =>
   k a0 t19 t20 sx2) sx2 fun t18 t19 t20 sx3 =>
  P.oV 21 (evPick t16 (some (.b true)) (some t20)) fun t21 =>
  P.oI t21 (Q (.b false) sx3)
  (P.oL [0, 3] (fun (next : C2) t0 t3 sx4 =>
   P.oV 24 (evBuiltin T0 sx4.h .len [9] [t0]) fun t24 =>
   P.oV 25 (evBin T0 .lss 3 false t3 t24) fun t25 =>
   P.oI t25 (P.oV 30 (evIndex T0 9 t0 t3) fun t30 =>
    P.oC 31 64 [t30] sx4 fun t31 sx5 =>
    P.oV 32 (evUn .not t31) fun t32 =>
    P.oI t32 (Q (.b false) sx5)
    (P.oV 27 (evBin T0 .add 3 true t3 (.i .i64 1)) fun t27 =>
     next t0 t27 sx5))
   (Q (.b true) sx4)) a0 (.i .i64 0) sx3)
theorem w54_eq (P : Prims) (a0 : AV) (Q : AV → AS → Prop) : w54 P a0 Q = vcBody P T0 Go.Proofs.Tryd.f54 (codeOf Go.Proofs.Tryd.f54) an54 [a0] ⟨.nil, 0⟩ Q := by kernel_rfl
theorem r54 (a0 : AV) {r : AV} (hi : AV.idfree.idfrees [a0] = true) (hn : AV.norm.norms [a0] = [a0]) (h : w54 (prims T0) a0 (fun r1 s1 => oZ T0 s1 r1 (fun r2 => r2 = r))) : R T0 54 [a0] r :=
  R.mk (by kernel_rfl) (by kernel_rfl) (show T0.fn 54 = some Go.Proofs.Tryd.f54 by kernel_rfl) (by kernel_rfl) (by kernel_rfl) hi hn (by rw [w54_eq] at h; exact h)
/- orchestrator/orchestratorref03.ValidValue -/
def an55 : AN := (.seq none .leaf (.seq none (.seq none .leaf (.two (.seq none .leaf .leaf) .leaf)) (.seq none (.seq none .leaf (.one (.loop [0, 3] (.seq none (.seq none .leaf (.two .leaf .leaf)) (.seq none (.one (.seq none .leaf (.two (.seq none .leaf .leaf) .leaf))) .leaf))))) (.seq none .leaf .leaf))))
def w55 (P : Prims) (a0 : AV) (Q : AV → AS → Prop) : Prop :=
  P.oV 5 (evBuiltin T0 Tr.nil .len [9] [a0]) fun t5 =>
  P.oV 6 (evBin T0 .gtr 3 true t5 (.i .i64 40)) fun t6 =>
  P.oI t6 (Q (.b false) ⟨Tr.nil, 0⟩)
  (P.oL [0, 3] (fun (next : C2) t0 t3 sx1 =>
   P.oV 9 (evBuiltin T0 sx1.h .len [9] [t0]) fun t9 =>
   P.oV 10 (evBin T0 .lss 3 false t3 t9) fun t10 =>
   P.oI t10 (P.oV 15 (evIndex T0 9 t0 t3) fun t15 =>
    P.oC 16 64 [t15] sx1 fun t16 sx2 =>
    P.oV 17 (evUn .not t16) fun t17 =>
    P.oG [19, 20, 21, 22] t17 false (fun (k : C4) => P.oV 21 (evIndex T0 9 t0 t3) fun t21 =>
     P.oV 22 (evBin T0 .eql 5 true t21 (.i .u8 47)) fun t22 =>
     k t0 t3 t21 t22 sx2) sx2 fun t19 t20 t21 t22 sx3 =>
    P.oV 23 (evPick t17 (some (.b true)) (some t22)) fun t23 =>
    P.oI t23 (Q (.b false) sx3)
    (P.oV 12 (evBin T0 .add 3 true t3 (.i .i64 1)) fun t12 =>
     next t0 t12 sx3))
   (Q (.b true) sx1)) a0 (.i .i64 0) ⟨Tr.nil, 0⟩)
theorem w55_eq (P : Prims) (a0 : AV) (Q : AV → AS → Prop) : w55 P a0 Q = vcBody P T0 Go.Proofs.Tryd.f55 (codeOf Go.Proofs.Tryd.f55) an55 [a0] ⟨.nil, 0⟩ Q := by kernel_rfl
theorem r55 (a0 : AV) {r : AV} (hi : AV.idfree.idfrees [a0] = true) (hn : AV.norm.norms [a0] = [a0]) (h : w55 (prims T0) a0 (fun r1 s1 => oZ T0 s1 r1 (fun r2 => r2 = r))) : R T0 55 [a0] r :=
  R.mk (by kernel_rfl) (by kernel_rfl) (show T0.fn 55 = some Go.Proofs.Tryd.f55 by kernel_rfl) (by kernel_rfl) (by kernel_rfl) hi hn (by rw [w55_eq] at h; exact h)
/- orchestrator/orchestratorref13.rising -/
def an56 : AN := (.seq none .leaf (.seq none (.seq none .leaf (.one (.loop [0, 3] (.seq none (.seq none .leaf (.two .leaf .leaf)) (.seq none (.one (.seq none .leaf (.two (.seq none .leaf .leaf) .leaf))) .leaf))))) (.seq none .leaf .leaf)))
def w56 (P : Prims) (a0 : AV) (Q : AV → AS → Prop) : Prop :=
  P.oL [0, 3] (fun (next : C2) t0 t3 sx1 =>
  P.oV 6 (evBuiltin T0 sx1.h .len [24] [t0]) fun t6 =>
  P.oV 7 (evBin T0 .lss 3 false t3 t6) fun t7 =>
  P.oI t7 (P.oV 12 (evIndexAddr T0 24 t0 t3) fun t12 =>
   P.oV 13 (evLoad T0 sx1.h 9 t12) fun t13 =>
   P.oV 16 (evBin T0 .sub 3 true t3 (.i .i64 1)) fun t16 =>
   P.oV 17 (evIndexAddr T0 24 t0 t16) fun t17 =>
   P.oV 18 (evLoad T0 sx1.h 9 t17) fun t18 =>
   P.oV 19 (evBin T0 .leq 9 false t13 t18) fun t19 =>
   P.oI t19 (Q (.b false) sx1)
   (P.oV 9 (evBin T0 .add 3 true t3 (.i .i64 1)) fun t9 =>
    next t0 t9 sx1))
  (Q (.b true) sx1)) a0 (.i .i64 1) ⟨Tr.nil, 0⟩
theorem w56_eq (P : Prims) (a0 : AV) (Q : AV → AS → Prop) : w56 P a0 Q = vcBody P T0 Go.Proofs.Tryd.f56 (codeOf Go.Proofs.Tryd.f56) an56 [a0] ⟨.nil, 0⟩ Q := by kernel_rfl
theorem r56 (a0 : AV) {r : AV} (hi : AV.idfree.idfrees [a0] = true) (hn : AV.norm.norms [a0] = [a0]) (h : w56 (prims T0) a0 (fun r1 s1 => oZ T0 s1 r1 (fun r2 => r2 = r))) : R T0 56 [a0] r :=
  R.mk (by kernel_rfl) (by kernel_rfl) (show T0.fn 56 = some Go.Proofs.Tryd.f56 by kernel_rfl) (by kernel_rfl) (by kernel_rfl) hi hn (by rw [w56_eq] at h; exact h)
/- strings.genSplit -/
def an57 : AN := (.seq none .leaf (.seq none (.seq none .leaf (.two (.seq none .leaf .leaf) .leaf)) (.seq none (.seq none .leaf (.two (.seq none .leaf .leaf) .leaf)) (.seq (some [0, 1, 2, 3]) (.seq none .leaf (.two .leaf .leaf)) (.seq none .leaf (.seq none .leaf (.seq none .leaf (.seq none .leaf (.seq (some [10, 9, 0]) (.one (.loop [10, 9, 0, 1, 2, 3] (.seq none (.seq none .leaf (.two .leaf .leaf)) (.one (.seq none .leaf (.seq none (.seq none .leaf (.two .leaf .leaf)) (.seq none .leaf (.seq none .leaf .leaf)))))))) (.seq none .leaf (.seq none .leaf .leaf)))))))))))
def w57 (P : Prims) (a0 a1 a2 a3 : AV) (Q : AV → AS → Prop) : Prop :=
  P.oV 13 (evBin T0 .eql 3 true a3 (.i .i64 0)) fun t13 =>
  P.oI t13 (Q (.nilz true) ⟨Tr.nil, 0⟩)
  (P.oV 15 (evBin T0 .eql 9 true a1 (.s [])) fun t15 =>
   P.oI t15 (P.oC 18 65 [a0, a3] ⟨Tr.nil, 0⟩ fun t18 sx1 =>
    Q t18 sx1)
   (P.oJ [0, 1, 2, 3] (fun (k : C4) =>
     P.oV 20 (evBin T0 .lss 3 true a3 (.i .i64 0)) fun t20 =>
     P.oI t20 (P.oC 23 66 [a0, a1] ⟨Tr.nil, 0⟩ fun t23 sx1 =>
      P.oV 24 (evBin T0 .add 3 true t23 (.i .i64 1)) fun t24 =>
      k a0 a1 a2 t24 sx1)
     (k a0 a1 a2 a3 ⟨Tr.nil, 0⟩))
    (fun t0 t1 t2 t3 sx1 =>
    P.oV 27 (evBuiltin T0 sx1.h .len [9] [t0]) fun t27 =>
    P.oV 28 (evBin T0 .add 3 true t27 (.i .i64 1)) fun t28 =>
    P.oV 29 (evBuiltin T0 sx1.h .min [3, 3] [t3, t28]) fun t29 =>
    P.oE (evMake T0 24 t29 t29) fun b f =>
    P.oN 31 b f sx1 fun t31 sx2 =>
    P.oV 33 (evBin T0 .sub 3 true t29 (.i .i64 1)) fun t33 =>
    P.oJ [10, 9, 0] (fun (k : C3) =>
     P.oL [10, 9, 0, 1, 2, 3] (fun (next : C6) t10 t9 t0x1 t1x1 t2x1 t3x1 sx3 =>
     P.oV 36 (evBin T0 .lss 3 false t10 t3x1) fun t36 =>
     P.oI t36 (P.oC 39 67 [t0x1, t1x1] sx3 fun t39 sx4 =>
      P.oV 41 (evBin T0 .lss 3 true t39 (.i .i64 0)) fun t41 =>
      P.oI t41 (k t10 t9 t0x1 sx4)
      (P.oV 47 (evBin T0 .add 3 false t39 t2x1) fun t47 =>
       P.oV 48 (evSlice T0 9 t0x1 none (some t47) none) fun t48 =>
       P.oV 49 (evIndexAddr T0 24 t9 t10) fun t49 =>
       P.oH (evStore T0 sx4.h 9 t49 t48) sx4 fun sx5 =>
       P.oV 53 (evBuiltin T0 sx5.h .len [9] [t1x1]) fun t53 =>
       P.oV 54 (evBin T0 .add 3 false t39 t53) fun t54 =>
       P.oV 55 (evSlice T0 9 t0x1 (some t54) none none) fun t55 =>
       P.oV 57 (evBin T0 .add 3 true t10 (.i .i64 1)) fun t57 =>
       next t57 t9 t55 t1x1 t2x1 t3x1 sx5))
     (k t10 t9 t0x1 sx3)) (.i .i64 0) t31 t0 t1 t2 t33 sx2)
    (fun t10 t9 t0x1 sx3 =>
    P.oV 61 (evIndexAddr T0 24 t9 t10) fun t61 =>
    P.oH (evStore T0 sx3.h 9 t61 t0x1) sx3 fun sx4 =>
    P.oV 64 (evBin T0 .add 3 true t10 (.i .i64 1)) fun t64 =>
    P.oV 65 (evSlice T0 24 t9 none (some t64) none) fun t65 =>
    Q t65 sx4))))
theorem w57_eq (P : Prims) (a0 a1 a2 a3 : AV) (Q : AV → AS → Prop) : w57 P a0 a1 a2 a3 Q = vcBody P T0 Go.Proofs.Tryd.f57 (codeOf Go.Proofs.Tryd.f57) an57 [a0, a1, a2, a3] ⟨.nil, 0⟩ Q := by kernel_rfl
theorem r57 (a0 a1 a2 a3 : AV) {r : AV} (hi : AV.idfree.idfrees [a0, a1, a2, a3] = true) (hn : AV.norm.norms [a0, a1, a2, a3] = [a0, a1, a2, a3]) (h : w57 (prims T0) a0 a1 a2 a3 (fun r1 s1 => oZ T0 s1 r1 (fun r2 => r2 = r))) : R T0 57 [a0, a1, a2, a3] r :=
  R.mk (by kernel_rfl) (by kernel_rfl) (show T0.fn 57 = some Go.Proofs.Tryd.f57 by kernel_rfl) (by kernel_rfl) (by kernel_rfl) hi hn (by rw [w57_eq] at h; exact h)
/- orchestrator/value.Compare -/
def an58 : AN := (.seq none .leaf (.seq none .leaf .leaf))
def w58 (P : Prims) (a0 a1 : AV) (Q : AV → AS → Prop) : Prop :=
  P.oN 2 (.cells (AV.cells a0) 32 false) (fun id => (.ptr id 0)) ⟨Tr.nil, 0⟩ fun t2 sx1 =>
  P.oN 3 (.cells (AV.cells a1) 32 false) (fun id => (.ptr id 0)) sx1 fun t3 sx2 =>
  P.oV 5 (evOff 0 t2) fun t5 =>
  P.oV 6 (evLoad T0 sx2.h 3 t5) fun t6 =>
  P.oV 7 (evOff 0 t3) fun t7 =>
  P.oV 8 (evLoad T0 sx2.h 3 t7) fun t8 =>
  P.oC 9 69 [t6, t8] sx2 fun t9 sx3 =>
  P.oV 10 (evOff 1 t2) fun t10 =>
  P.oV 11 (evLoad T0 sx2.h 3 t10) fun t11 =>
  P.oV 12 (evOff 1 t3) fun t12 =>
  P.oV 13 (evLoad T0 sx2.h 3 t12) fun t13 =>
  P.oC 14 69 [t11, t13] sx2 fun t14 sx4 =>
  P.oV 15 (evOff 2 t2) fun t15 =>
  P.oV 16 (evLoad T0 sx2.h 9 t15) fun t16 =>
  P.oV 17 (evOff 2 t3) fun t17 =>
  P.oV 18 (evLoad T0 sx2.h 9 t17) fun t18 =>
  P.oC 19 70 [t16, t18] sx2 fun t19 sx5 =>
  P.oV 20 (evOff 3 t2) fun t20 =>
  P.oV 21 (evLoad T0 sx2.h 29 t20) fun t21 =>
  P.oV 22 (evOff 3 t3) fun t22 =>
  P.oV 23 (evLoad T0 sx2.h 29 t22) fun t23 =>
  P.oC 24 71 [t21, t23, (.fn 58 [] [])] sx2 fun t24 sx6 =>
  P.oV 25 (evOff 4 t2) fun t25 =>
  P.oV 26 (evLoad T0 sx2.h 30 t25) fun t26 =>
  P.oV 27 (evOff 4 t3) fun t27 =>
  P.oV 28 (evLoad T0 sx2.h 30 t27) fun t28 =>
  P.oC 29 72 [t26, t28, (.fn 73 [] [])] sx2 fun t29 sx7 =>
  P.oE (evLit T0 95 5 [(0, t9), (1, t14), (2, t19), (3, t24), (4, t29)]) fun b f =>
  P.oT (readOK sx2.n [2, 3, 0, 1, 4, 7, 8, 5, 6, 9, 12, 13, 10, 11, 14, 17, 18, 15, 16, 19, 22, 23, 20, 21, 24, 25] [(25, (sx2.n, (some b)))] [(25, (sx2.n, (some b)))]) (P.oC 31 68 [(f sx2.n)] ⟨(sx2.h.put sx2.n (some b)), (sx2.n + 1)⟩ fun t31 sx8 =>
  P.oT (readOK sx2.n [2, 3, 0, 1, 4, 7, 8, 5, 6, 9, 12, 13, 10, 11, 14, 17, 18, 15, 16, 19, 22, 23, 20, 21, 24, 25, 26] [(25, (sx2.n, (some b)))] [(25, (sx2.n, (some b)))]) (P.oS ⟨(sx2.h.put sx2.n (some b)), (sx2.n + 1)⟩ fun sx9 =>
  Q t31 sx9))
theorem w58_eq (P : Prims) (a0 a1 : AV) (Q : AV → AS → Prop) : w58 P a0 a1 Q = vcBody P T0 Go.Proofs.Tryd.f58 (codeOf Go.Proofs.Tryd.f58) an58 [a0, a1] ⟨.nil, 0⟩ Q := by kernel_rfl
theorem r58 (a0 a1 : AV) {r : AV} (hi : AV.idfree.idfrees [a0, a1] = true) (hn : AV.norm.norms [a0, a1] = [a0, a1]) (h : w58 (prims T0) a0 a1 (fun r1 s1 => oZ T0 s1 r1 (fun r2 => r2 = r))) : R T0 58 [a0, a1] r :=
  R.mk (by kernel_rfl) (by kernel_rfl) (show T0.fn 58 = some Go.Proofs.Tryd.f58 by kernel_rfl) (by kernel_rfl) (by kernel_rfl) hi hn (by rw [w58_eq] at h; exact h)
/- orchestrator/orchestratorref13.KeyOf -/
def an59 : AN := (.seq none .leaf (.seq none .leaf .leaf))
def w59 (P : Prims) (a0 : AV) (Q : AV → AS → Prop) : Prop :=
  P.oN 1 (.cells (AV.cells a0) 27 false) (fun id => (.ptr id 0)) ⟨Tr.nil, 0⟩ fun t1 sx1 =>
  P.oV 3 (evOff 0 t1) fun t3 =>
  P.oV 4 (evLoad T0 sx1.h 9 t3) fun t4 =>
  P.oV 5 (evOff 1 t1) fun t5 =>
  P.oV 6 (evLoad T0 sx1.h 9 t5) fun t6 =>
  P.oV 7 (evOff 2 t1) fun t7 =>
  P.oV 8 (evLoad T0 sx1.h 9 t7) fun t8 =>
  P.oC 9 74 [t4, t6, t8] sx1 fun t9 sx2 =>
  Q t9 sx2
theorem w59_eq (P : Prims) (a0 : AV) (Q : AV → AS → Prop) : w59 P a0 Q = vcBody P T0 Go.Proofs.Tryd.f59 (codeOf Go.Proofs.Tryd.f59) an59 [a0] ⟨.nil, 0⟩ Q := by kernel_rfl
theorem r59 (a0 : AV) {r : AV} (hi : AV.idfree.idfrees [a0] = true) (hn : AV.norm.norms [a0] = [a0]) (h : w59 (prims T0) a0 (fun r1 s1 => oZ T0 s1 r1 (fun r2 => r2 = r))) : R T0 59 [a0] r :=
  R.mk (by kernel_rfl) (by kernel_rfl) (show T0.fn 59 = some Go.Proofs.Tryd.f59 by kernel_rfl) (by kernel_rfl) (by kernel_rfl) hi hn (by rw [w59_eq] at h; exact h)
/- orchestrator/orchestratorref13.SameStrings -/
def an60 : AN := (.seq none .leaf (.seq none (.seq none .leaf (.two (.seq none .leaf .leaf) .leaf)) (.seq none (.seq none .leaf (.one (.loop [1, 0, 5] (.seq none (.seq none .leaf (.two .leaf .leaf)) (.seq none (.one (.seq none .leaf (.two (.seq none .leaf .leaf) .leaf))) .leaf))))) (.seq none .leaf .leaf))))
def w60 (P : Prims) (a0 a1 : AV) (Q : AV → AS → Prop) : Prop :=
  P.oV 7 (evBuiltin T0 Tr.nil .len [24] [a0]) fun t7 =>
  P.oV 9 (evBuiltin T0 Tr.nil .len [24] [a1]) fun t9 =>
  P.oV 10 (evBin T0 .neq 3 false t7 t9) fun t10 =>
  P.oI t10 (Q (.b false) ⟨Tr.nil, 0⟩)
  (P.oL [1, 0, 5] (fun (next : C3) t1 t0 t5 sx1 =>
   P.oV 13 (evBuiltin T0 sx1.h .len [24] [t0]) fun t13 =>
   P.oV 14 (evBin T0 .lss 3 false t5 t13) fun t14 =>
   P.oI t14 (P.oV 19 (evIndexAddr T0 24 t0 t5) fun t19 =>
    P.oV 20 (evLoad T0 sx1.h 9 t19) fun t20 =>
    P.oV 23 (evIndexAddr T0 24 t1 t5) fun t23 =>
    P.oV 24 (evLoad T0 sx1.h 9 t23) fun t24 =>
    P.oV 25 (evBin T0 .neq 9 false t20 t24) fun t25 =>
    P.oI t25 (Q (.b false) sx1)
    (P.oV 16 (evBin T0 .add 3 true t5 (.i .i64 1)) fun t16 =>
     next t1 t0 t16 sx1))
   (Q (.b true) sx1)) a1 a0 (.i .i64 0) ⟨Tr.nil, 0⟩)
theorem w60_eq (P : Prims) (a0 a1 : AV) (Q : AV → AS → Prop) : w60 P a0 a1 Q = vcBody P T0 Go.Proofs.Tryd.f60 (codeOf Go.Proofs.Tryd.f60) an60 [a0, a1] ⟨.nil, 0⟩ Q := by kernel_rfl
theorem r60 (a0 a1 : AV) {r : AV} (hi : AV.idfree.idfrees [a0, a1] = true) (hn : AV.norm.norms [a0, a1] = [a0, a1]) (h : w60 (prims T0) a0 a1 (fun r1 s1 => oZ T0 s1 r1 (fun r2 => r2 = r))) : R T0 60 [a0, a1] r :=
  R.mk (by kernel_rfl) (by kernel_rfl) (show T0.fn 60 = some Go.Proofs.Tryd.f60 by kernel_rfl) (by kernel_rfl) (by kernel_rfl) hi hn (by rw [w60_eq] at h; exact h)
/- orchestrator/orchestratorref04.Compare -/
def an61 : AN := (.seq none .leaf (.seq none .leaf (.seq (some [5, 3, 2]) (.seq none .leaf (.two .leaf .leaf)) (.seq (some [5, 3, 2]) (.seq none .leaf (.two .leaf .leaf)) (.seq none (.seq none .leaf (.one (.loop [5, 3, 2, 6] (.seq none (.seq none .leaf (.two .leaf .leaf)) (.seq none (.one .leaf) .leaf))))) (.seq (some [5, 3, 2]) (.seq none .leaf (.two .leaf .leaf)) (.seq none (.seq none .leaf (.one (.loop [5, 3, 2, 7] (.seq none (.seq none .leaf (.two .leaf .leaf)) (.seq (some [5, 3, 2, 7]) (.one (.seq none .leaf (.seq none .leaf (.two .leaf .leaf)))) .leaf))))) (.seq (some [5]) (.seq none .leaf (.two .leaf .leaf)) (.seq none .leaf .leaf)))))))))
def w61 (P : Prims) (a0 a1 : AV) (Q : AV → AS → Prop) : Prop :=
  P.oN 2 (.cells (AV.cells a0) 32 false) (fun id => (.ptr id 0)) ⟨Tr.nil, 0⟩ fun t2 sx1 =>
  P.oN 3 (.cells (AV.cells a1) 32 false) (fun id => (.ptr id 0)) sx1 fun t3 sx2 =>
  P.oV 8 (evOff 0 t2) fun t8 =>
  P.oV 9 (evLoad T0 sx2.h 3 t8) fun t9 =>
  P.oV 10 (evOff 0 t3) fun t10 =>
  P.oV 11 (evLoad T0 sx2.h 3 t10) fun t11 =>
  P.oV 12 (evBin T0 .lss 3 false t9 t11) fun t12 =>
  P.oV 13 (evOff 0 t2) fun t13 =>
  P.oV 14 (evLoad T0 sx2.h 3 t13) fun t14 =>
  P.oV 15 (evOff 0 t3) fun t15 =>
  P.oV 16 (evLoad T0 sx2.h 3 t15) fun t16 =>
  P.oV 17 (evBin T0 .gtr 3 false t14 t16) fun t17 =>
  P.oC 18 75 [t12, t17] sx2 fun t18 sx3 =>
  P.oJ [5, 3, 2] (fun (k : C3) =>
   P.oV 20 (evBin T0 .eql 3 true t18 (.i .i64 0)) fun t20 =>
   P.oI t20 (P.oV 21 (evOff 1 t2) fun t21 =>
    P.oV 22 (evLoad T0 sx3.h 3 t21) fun t22 =>
    P.oV 23 (evOff 1 t3) fun t23 =>
    P.oV 24 (evLoad T0 sx3.h 3 t23) fun t24 =>
    P.oV 25 (evBin T0 .lss 3 false t22 t24) fun t25 =>
    P.oV 26 (evOff 1 t2) fun t26 =>
    P.oV 27 (evLoad T0 sx3.h 3 t26) fun t27 =>
    P.oV 28 (evOff 1 t3) fun t28 =>
    P.oV 29 (evLoad T0 sx3.h 3 t28) fun t29 =>
    P.oV 30 (evBin T0 .gtr 3 false t27 t29) fun t30 =>
    P.oC 31 75 [t25, t30] sx3 fun t31 sx4 =>
    k t31 t3 t2 sx4)
   (k t18 t3 t2 sx3))
  (fun t5 t3x1 t2x1 sx4 =>
  P.oJ [5, 3, 2] (fun (k : C3) =>
   P.oV 33 (evBin T0 .eql 3 true t5 (.i .i64 0)) fun t33 =>
   P.oI t33 (P.oV 34 (evOff 2 t2x1) fun t34 =>
    P.oV 35 (evLoad T0 sx4.h 9 t34) fun t35 =>
    P.oV 36 (evOff 2 t3x1) fun t36 =>
    P.oV 37 (evLoad T0 sx4.h 9 t36) fun t37 =>
    P.oV 38 (evBin T0 .lss 9 false t35 t37) fun t38 =>
    P.oV 39 (evOff 2 t2x1) fun t39 =>
    P.oV 40 (evLoad T0 sx4.h 9 t39) fun t40 =>
    P.oV 41 (evOff 2 t3x1) fun t41 =>
    P.oV 42 (evLoad T0 sx4.h 9 t41) fun t42 =>
    P.oV 43 (evBin T0 .gtr 9 false t40 t42) fun t43 =>
    P.oC 44 75 [t38, t43] sx4 fun t44 sx5 =>
    k t44 t3x1 t2x1 sx5)
   (k t5 t3x1 t2x1 sx4))
  (fun t5x1 t3x2 t2x2 sx5 =>
  P.oL [5, 3, 2, 6] (fun (next : C4) t5x2 t3x3 t2x3 t6 sx6 =>
  P.oV 46 (evOff 3 t2x3) fun t46 =>
  P.oV 47 (evLoad T0 sx6.h 29 t46) fun t47 =>
  P.oV 48 (evBuiltin T0 sx6.h .len [29] [t47]) fun t48 =>
  P.oV 49 (evBin T0 .lss 3 false t6 t48) fun t49 =>
  P.oG [51, 52, 53, 54, 55] t49 true (fun (k : C5) => P.oV 52 (evOff 3 t3x3) fun t52 =>
   P.oV 53 (evLoad T0 sx6.h 29 t52) fun t53 =>
   P.oV 54 (evBuiltin T0 sx6.h .len [29] [t53]) fun t54 =>
   P.oV 55 (evBin T0 .lss 3 false t6 t54) fun t55 =>
   k t6 t52 t53 t54 t55 sx6) sx6 fun t51 t52 t53 t54 t55 sx7 =>
  P.oV 56 (evPick t49 (some t55) (some (.b false))) fun t56 =>
  P.oG [58, 59] t56 true (fun (k : C2) => P.oV 59 (evBin T0 .eql 3 true t5x2 (.i .i64 0)) fun t59 =>
   k t5x2 t59 sx7) sx7 fun t58 t59 sx8 =>
  P.oV 60 (evPick t56 (some t59) (some (.b false))) fun t60 =>
  P.oI t60 (P.oV 63 (evOff 3 t2x3) fun t63 =>
   P.oV 64 (evLoad T0 sx8.h 29 t63) fun t64 =>
   P.oV 66 (evIndexAddr T0 29 t64 t6) fun t66 =>
   P.oV 67 (evLoad T0 sx8.h 32 t66) fun t67 =>
   P.oV 68 (evOff 3 t3x3) fun t68 =>
   P.oV 69 (evLoad T0 sx8.h 29 t68) fun t69 =>
   P.oV 71 (evIndexAddr T0 29 t69 t6) fun t71 =>
   P.oV 72 (evLoad T0 sx8.h 32 t71) fun t72 =>
   P.oC 73 61 [t67, t72] sx8 fun t73 sx9 =>
   P.oV 62 (evBin T0 .add 3 true t6 (.i .i64 1)) fun t62 =>
   next t73 t3x3 t2x3 t62 sx8)
  (P.oJ [5, 3, 2] (fun (k : C3) =>
    P.oV 75 (evBin T0 .eql 3 true t5x2 (.i .i64 0)) fun t75 =>
    P.oI t75 (P.oV 76 (evOff 3 t2x3) fun t76 =>
     P.oV 77 (evLoad T0 sx8.h 29 t76) fun t77 =>
     P.oV 78 (evBuiltin T0 sx8.h .len [29] [t77]) fun t78 =>
     P.oV 79 (evOff 3 t3x3) fun t79 =>
     P.oV 80 (evLoad T0 sx8.h 29 t79) fun t80 =>
     P.oV 81 (evBuiltin T0 sx8.h .len [29] [t80]) fun t81 =>
     P.oV 82 (evBin T0 .lss 3 false t78 t81) fun t82 =>
     P.oV 83 (evOff 3 t2x3) fun t83 =>
     P.oV 84 (evLoad T0 sx8.h 29 t83) fun t84 =>
     P.oV 85 (evBuiltin T0 sx8.h .len [29] [t84]) fun t85 =>
     P.oV 86 (evOff 3 t3x3) fun t86 =>
     P.oV 87 (evLoad T0 sx8.h 29 t86) fun t87 =>
     P.oV 88 (evBuiltin T0 sx8.h .len [29] [t87]) fun t88 =>
     P.oV 89 (evBin T0 .gtr 3 false t85 t88) fun t89 =>
     P.oC 90 75 [t82, t89] sx8 fun t90 sx9 =>
     k t90 t3x3 t2x3 sx9)
    (k t5x2 t3x3 t2x3 sx8))
   (fun t5x3 t3x4 t2x4 sx9 =>
   P.oL [5, 3, 2, 7] (fun (nextx1 : C4) t5x4 t3x5 t2x5 t7 sx10 =>
   P.oV 92 (evOff 4 t2x5) fun t92 =>
   P.oV 93 (evLoad T0 sx10.h 30 t92) fun t93 =>
   P.oV 94 (evBuiltin T0 sx10.h .len [30] [t93]) fun t94 =>
   P.oV 95 (evBin T0 .lss 3 false t7 t94) fun t95 =>
   P.oG [97, 98, 99, 100, 101] t95 true (fun (k : C5) => P.oV 98 (evOff 4 t3x5) fun t98 =>
    P.oV 99 (evLoad T0 sx10.h 30 t98) fun t99 =>
    P.oV 100 (evBuiltin T0 sx10.h .len [30] [t99]) fun t100 =>
    P.oV 101 (evBin T0 .lss 3 false t7 t100) fun t101 =>
    k t7 t98 t99 t100 t101 sx10) sx10 fun t97 t98 t99 t100 t101 sx11 =>
   P.oV 102 (evPick t95 (some t101) (some (.b false))) fun t102 =>
   P.oG [104, 105] t102 true (fun (k : C2) => P.oV 105 (evBin T0 .eql 3 true t5x4 (.i .i64 0)) fun t105 =>
    k t5x4 t105 sx11) sx11 fun t104 t105 sx12 =>
   P.oV 106 (evPick t102 (some t105) (some (.b false))) fun t106 =>
   P.oI t106 (P.oJ [5, 3, 2, 7] (fun (k : C4) =>
     P.oV 109 (evOff 4 t2x5) fun t109 =>
     P.oV 110 (evLoad T0 sx12.h 30 t109) fun t110 =>
     P.oV 112 (evIndexAddr T0 30 t110 t7) fun t112 =>
     P.oV 113 (evOff 0 t112) fun t113 =>
     P.oV 114 (evLoad T0 sx12.h 9 t113) fun t114 =>
     P.oV 115 (evOff 4 t3x5) fun t115 =>
     P.oV 116 (evLoad T0 sx12.h 30 t115) fun t116 =>
     P.oV 118 (evIndexAddr T0 30 t116 t7) fun t118 =>
     P.oV 119 (evOff 0 t118) fun t119 =>
     P.oV 120 (evLoad T0 sx12.h 9 t119) fun t120 =>
     P.oV 121 (evBin T0 .lss 9 false t114 t120) fun t121 =>
     P.oV 122 (evOff 4 t2x5) fun t122 =>
     P.oV 123 (evLoad T0 sx12.h 30 t122) fun t123 =>
     P.oV 125 (evIndexAddr T0 30 t123 t7) fun t125 =>
     P.oV 126 (evOff 0 t125) fun t126 =>
     P.oV 127 (evLoad T0 sx12.h 9 t126) fun t127 =>
     P.oV 128 (evOff 4 t3x5) fun t128 =>
     P.oV 129 (evLoad T0 sx12.h 30 t128) fun t129 =>
     P.oV 131 (evIndexAddr T0 30 t129 t7) fun t131 =>
     P.oV 132 (evOff 0 t131) fun t132 =>
     P.oV 133 (evLoad T0 sx12.h 9 t132) fun t133 =>
     P.oV 134 (evBin T0 .gtr 9 false t127 t133) fun t134 =>
     P.oC 135 75 [t121, t134] sx12 fun t135 sx13 =>
     P.oV 137 (evBin T0 .eql 3 true t135 (.i .i64 0)) fun t137 =>
     P.oI t137 (P.oV 138 (evOff 4 t2x5) fun t138 =>
      P.oV 139 (evLoad T0 sx12.h 30 t138) fun t139 =>
      P.oV 141 (evIndexAddr T0 30 t139 t7) fun t141 =>
      P.oV 142 (evOff 1 t141) fun t142 =>
      P.oV 143 (evLoad T0 sx12.h 32 t142) fun t143 =>
      P.oV 144 (evOff 4 t3x5) fun t144 =>
      P.oV 145 (evLoad T0 sx12.h 30 t144) fun t145 =>
      P.oV 147 (evIndexAddr T0 30 t145 t7) fun t147 =>
      P.oV 148 (evOff 1 t147) fun t148 =>
      P.oV 149 (evLoad T0 sx12.h 32 t148) fun t149 =>
      P.oC 150 61 [t143, t149] sx12 fun t150 sx14 =>
      k t150 t3x5 t2x5 t7 sx12)
     (k t135 t3x5 t2x5 t7 sx12))
    (fun t5x5 t3x6 t2x6 t7x1 sx13 =>
    P.oV 108 (evBin T0 .add 3 true t7x1 (.i .i64 1)) fun t108 =>
    nextx1 t5x5 t3x6 t2x6 t108 sx13))
   (P.oJ [5] (fun (k : C1) =>
     P.oV 152 (evBin T0 .eql 3 true t5x4 (.i .i64 0)) fun t152 =>
     P.oI t152 (P.oV 153 (evOff 4 t2x5) fun t153 =>
      P.oV 154 (evLoad T0 sx12.h 30 t153) fun t154 =>
      P.oV 155 (evBuiltin T0 sx12.h .len [30] [t154]) fun t155 =>
      P.oV 156 (evOff 4 t3x5) fun t156 =>
      P.oV 157 (evLoad T0 sx12.h 30 t156) fun t157 =>
      P.oV 158 (evBuiltin T0 sx12.h .len [30] [t157]) fun t158 =>
      P.oV 159 (evBin T0 .lss 3 false t155 t158) fun t159 =>
      P.oV 160 (evOff 4 t2x5) fun t160 =>
      P.oV 161 (evLoad T0 sx12.h 30 t160) fun t161 =>
      P.oV 162 (evBuiltin T0 sx12.h .len [30] [t161]) fun t162 =>
      P.oV 163 (evOff 4 t3x5) fun t163 =>
      P.oV 164 (evLoad T0 sx12.h 30 t163) fun t164 =>
      P.oV 165 (evBuiltin T0 sx12.h .len [30] [t164]) fun t165 =>
      P.oV 166 (evBin T0 .gtr 3 false t162 t165) fun t166 =>
      P.oC 167 75 [t159, t166] sx12 fun t167 sx13 =>
      k t167 sx13)
     (k t5x4 sx12))
    (fun t5x5 sx13 =>
    Q t5x5 sx13))) t5x3 t3x4 t2x4 (.i .i64 0) sx9))) t5x1 t3x2 t2x2 (.i .i64 0) sx5))
theorem w61_eq (P : Prims) (a0 a1 : AV) (Q : AV → AS → Prop) : w61 P a0 a1 Q = vcBody P T0 Go.Proofs.Tryd.f61 (codeOf Go.Proofs.Tryd.f61) an61 [a0, a1] ⟨.nil, 0⟩ Q := by kernel_rfl
theorem r61 (a0 a1 : AV) {r : AV} (hi : AV.idfree.idfrees [a0, a1] = true) (hn : AV.norm.norms [a0, a1] = [a0, a1]) (h : w61 (prims T0) a0 a1 (fun r1 s1 => oZ T0 s1 r1 (fun r2 => r2 = r))) : R T0 61 [a0, a1] r :=
  R.mk (by kernel_rfl) (by kernel_rfl) (show T0.fn 61 = some Go.Proofs.Tryd.f61 by kernel_rfl) (by kernel_rfl) (by kernel_rfl) hi hn (by rw [w61_eq] at h; exact h)
/- orchestrator/label.wordByte -/
def an63 : AN := (.seq none .leaf (.seq none .leaf .leaf))
def w63 (P : Prims) (a0 : AV) (Q : AV → AS → Prop) : Prop :=
  P.oV 4 (evBin T0 .geq 5 true a0 (.i .u8 97)) fun t4 =>
  P.oG [6, 7] t4 true (fun (k : C2) => P.oV 7 (evBin T0 .leq 5 true a0 (.i .u8 122)) fun t7 =>
   k a0 t7 ⟨Tr.nil, 0⟩) ⟨Tr.nil, 0⟩ fun t6 t7 sx1 =>
  P.oV 8 (evPick t4 (some t7) (some (.b false))) fun t8 =>
  P.oG [10, 11, 12] t8 false (fun (k : C3) => P.oV 11 (evBin T0 .geq 5 true a0 (.i .u8 48)) fun t11 =>
   k a0 t11 t11 sx1) sx1 fun t10 t11 t12 sx2 =>
  P.oG [13, 14] t12 true (fun (k : C2) => P.oV 14 (evBin T0 .leq 5 true a0 (.i .u8 57)) fun t14 =>
   k a0 t14 sx2) sx2 fun t13 t14 sx3 =>
  P.oG [15] t8 false (fun (k : C1) => P.oV 15 (evPick t12 (some t14) (some (.b false))) fun t15 =>
   k t15 sx3) sx3 fun t15 sx4 =>
  P.oV 16 (evPick t8 (some (.b true)) (some t15)) fun t16 =>
  P.oG [18, 19] t16 false (fun (k : C2) => P.oV 19 (evBin T0 .eql 5 true a0 (.i .u8 45)) fun t19 =>
   k a0 t19 sx4) sx4 fun t18 t19 sx5 =>
  P.oV 20 (evPick t16 (some (.b true)) (some t19)) fun t20 =>
  P.oG [22, 23] t20 false (fun (k : C2) => P.oV 23 (evBin T0 .eql 5 true a0 (.i .u8 46)) fun t23 =>
   k a0 t23 sx5) sx5 fun t22 t23 sx6 =>
  P.oV 24 (evPick t20 (some (.b true)) (some t23)) fun t24 =>
  P.oG [26, 27] t24 false (fun (k : C2) => P.oV 27 (evBin T0 .eql 5 true a0 (.i .u8 47)) fun t27 =>
   k a0 t27 sx6) sx6 fun t26 t27 sx7 =>
  P.oV 28 (evPick t24 (some (.b true)) (some t27)) fun t28 =>
  Q t28 sx7
theorem w63_eq (P : Prims) (a0 : AV) (Q : AV → AS → Prop) : w63 P a0 Q = vcBody P T0 Go.Proofs.Tryd.f63 (codeOf Go.Proofs.Tryd.f63) an63 [a0] ⟨.nil, 0⟩ Q := by kernel_rfl
theorem r63 (a0 : AV) {r : AV} (hi : AV.idfree.idfrees [a0] = true) (hn : AV.norm.norms [a0] = [a0]) (h : w63 (prims T0) a0 (fun r1 s1 => oZ T0 s1 r1 (fun r2 => r2 = r))) : R T0 63 [a0] r :=
  R.mk (by kernel_rfl) (by kernel_rfl) (show T0.fn 63 = some Go.Proofs.Tryd.f63 by kernel_rfl) (by kernel_rfl) (by kernel_rfl) hi hn (by rw [w63_eq] at h; exact h)
/- orchestrator/orchestratorref03.char -/
def an64 : AN := (.seq none .leaf (.seq none .leaf .leaf))
def w64 (P : Prims) (a0 : AV) (Q : AV → AS → Prop) : Prop :=
  P.oV 4 (evBin T0 .geq 5 true a0 (.i .u8 97)) fun t4 =>
  P.oG [6, 7] t4 true (fun (k : C2) => P.oV 7 (evBin T0 .leq 5 true a0 (.i .u8 122)) fun t7 =>
   k a0 t7 ⟨Tr.nil, 0⟩) ⟨Tr.nil, 0⟩ fun t6 t7 sx1 =>
  P.oV 8 (evPick t4 (some t7) (some (.b false))) fun t8 =>
  P.oG [10, 11, 12] t8 false (fun (k : C3) => P.oV 11 (evBin T0 .geq 5 true a0 (.i .u8 48)) fun t11 =>
   k a0 t11 t11 sx1) sx1 fun t10 t11 t12 sx2 =>
  P.oG [13, 14] t12 true (fun (k : C2) => P.oV 14 (evBin T0 .leq 5 true a0 (.i .u8 57)) fun t14 =>
   k a0 t14 sx2) sx2 fun t13 t14 sx3 =>
  P.oG [15] t8 false (fun (k : C1) => P.oV 15 (evPick t12 (some t14) (some (.b false))) fun t15 =>
   k t15 sx3) sx3 fun t15 sx4 =>
  P.oV 16 (evPick t8 (some (.b true)) (some t15)) fun t16 =>
  P.oG [18, 19] t16 false (fun (k : C2) => P.oV 19 (evBin T0 .eql 5 true a0 (.i .u8 45)) fun t19 =>
   k a0 t19 sx4) sx4 fun t18 t19 sx5 =>
  P.oV 20 (evPick t16 (some (.b true)) (some t19)) fun t20 =>
  P.oG [22, 23] t20 false (fun (k : C2) => P.oV 23 (evBin T0 .eql 5 true a0 (.i .u8 46)) fun t23 =>
   k a0 t23 sx5) sx5 fun t22 t23 sx6 =>
  P.oV 24 (evPick t20 (some (.b true)) (some t23)) fun t24 =>
  P.oG [26, 27] t24 false (fun (k : C2) => P.oV 27 (evBin T0 .eql 5 true a0 (.i .u8 47)) fun t27 =>
   k a0 t27 sx6) sx6 fun t26 t27 sx7 =>
  P.oV 28 (evPick t24 (some (.b true)) (some t27)) fun t28 =>
  Q t28 sx7
theorem w64_eq (P : Prims) (a0 : AV) (Q : AV → AS → Prop) : w64 P a0 Q = vcBody P T0 Go.Proofs.Tryd.f64 (codeOf Go.Proofs.Tryd.f64) an64 [a0] ⟨.nil, 0⟩ Q := by kernel_rfl
theorem r64 (a0 : AV) {r : AV} (hi : AV.idfree.idfrees [a0] = true) (hn : AV.norm.norms [a0] = [a0]) (h : w64 (prims T0) a0 (fun r1 s1 => oZ T0 s1 r1 (fun r2 => r2 = r))) : R T0 64 [a0] r :=
  R.mk (by kernel_rfl) (by kernel_rfl) (show T0.fn 64 = some Go.Proofs.Tryd.f64 by kernel_rfl) (by kernel_rfl) (by kernel_rfl) hi hn (by rw [w64_eq] at h; exact h)
/- strings.explode -/
def an65 : AN := (.seq none .leaf (.seq none .leaf (.seq (some [0, 1]) (.seq none .leaf (.two .leaf .leaf)) (.seq none .leaf (.seq none (.seq none .leaf (.one (.loop [6, 0, 1, 7] (.seq none (.seq none .leaf (.two .leaf .leaf)) (.seq none (.one (.seq none .leaf (.seq none .leaf .leaf))) .leaf))))) (.seq (some [6]) (.seq none .leaf (.two .leaf .leaf)) (.seq none .leaf .leaf)))))))
def w65 (P : Prims) (a0 a1 : AV) (Q : AV → AS → Prop) : Prop :=
  P.oC 11 77 [a0] ⟨Tr.nil, 0⟩ fun t11 sx1 =>
  P.oJ [0, 1] (fun (k : C2) =>
   P.oV 13 (evBin T0 .lss 3 true a1 (.i .i64 0)) fun t13 =>
   P.oG [15, 16, 17] t13 false (fun (kx1 : C3) => P.oV 17 (evBin T0 .gtr 3 false a1 t11) fun t17 =>
    kx1 a1 t11 t17 sx1) sx1 fun t15 t16 t17 sx2 =>
   P.oV 18 (evPick t13 (some (.b true)) (some t17)) fun t18 =>
   P.oI t18 (k a0 t11 sx2)
   (k a0 a1 sx2))
  (fun t0 t1 sx2 =>
  P.oE (evMake T0 24 t1 t1) fun b f =>
  P.oN 21 b f sx2 fun t21 sx3 =>
  P.oL [6, 0, 1, 7] (fun (next : C4) t6 t0x1 t1x1 t7 sx4 =>
  P.oV 24 (evBin T0 .sub 3 true t1x1 (.i .i64 1)) fun t24 =>
  P.oV 25 (evBin T0 .lss 3 false t7 t24) fun t25 =>
  P.oI t25 (P.oC 30 78 [t0x1] sx4 fun t30 sx5 =>
   P.oV 31 (evExtract 0 t30) fun t31 =>
   P.oV 32 (evExtract 1 t30) fun t32 =>
   P.oV 37 (evSlice T0 9 t0x1 none (some t32) none) fun t37 =>
   P.oV 38 (evIndexAddr T0 24 t6 t7) fun t38 =>
   P.oH (evStore T0 sx5.h 9 t38 t37) sx5 fun sx6 =>
   P.oV 41 (evSlice T0 9 t0x1 (some t32) none none) fun t41 =>
   P.oV 27 (evBin T0 .add 3 true t7 (.i .i64 1)) fun t27 =>
   next t6 t41 t1x1 t27 sx6)
  (P.oJ [6] (fun (k : C1) =>
    P.oV 43 (evBin T0 .gtr 3 true t1x1 (.i .i64 0)) fun t43 =>
    P.oI t43 (P.oV 46 (evBin T0 .sub 3 true t1x1 (.i .i64 1)) fun t46 =>
     P.oV 48 (evIndexAddr T0 24 t6 t46) fun t48 =>
     P.oH (evStore T0 sx4.h 9 t48 t0x1) sx4 fun sx5 =>
     k t6 sx5)
    (k t6 sx4))
   (fun t6x1 sx5 =>
   Q t6x1 sx5))) t21 t0 t1 (.i .i64 0) sx3)
theorem w65_eq (P : Prims) (a0 a1 : AV) (Q : AV → AS → Prop) : w65 P a0 a1 Q = vcBody P T0 Go.Proofs.Tryd.f65 (codeOf Go.Proofs.Tryd.f65) an65 [a0, a1] ⟨.nil, 0⟩ Q := by kernel_rfl
theorem r65 (a0 a1 : AV) {r : AV} (hi : AV.idfree.idfrees [a0, a1] = true) (hn : AV.norm.norms [a0, a1] = [a0, a1]) (h : w65 (prims T0) a0 a1 (fun r1 s1 => oZ T0 s1 r1 (fun r2 => r2 = r))) : R T0 65 [a0, a1] r :=
  R.mk (by kernel_rfl) (by kernel_rfl) (show T0.fn 65 = some Go.Proofs.Tryd.f65 by kernel_rfl) (by kernel_rfl) (by kernel_rfl) hi hn (by rw [w65_eq] at h; exact h)
/- strings.Count -/
def an66 : AN := (.seq none .leaf (.seq none (.seq none .leaf (.two (.seq none .leaf .leaf) .leaf)) (.seq none (.seq none .leaf (.two (.seq none .leaf .leaf) .leaf)) (.seq none .leaf (.one (.loop [1, 0, 5] (.one (.seq none .leaf (.seq none (.seq none .leaf (.two (.seq none .leaf .leaf) .leaf)) (.seq none .leaf .leaf))))))))))
def w66 (P : Prims) (a0 a1 : AV) (Q : AV → AS → Prop) : Prop :=
  P.oV 8 (evBuiltin T0 Tr.nil .len [9] [a1]) fun t8 =>
  P.oV 9 (evBin T0 .eql 3 true t8 (.i .i64 0)) fun t9 =>
  P.oI t9 (P.oC 11 77 [a0] ⟨Tr.nil, 0⟩ fun t11 sx1 =>
   P.oV 12 (evBin T0 .add 3 true t11 (.i .i64 1)) fun t12 =>
   Q t12 sx1)
  (P.oV 14 (evBuiltin T0 Tr.nil .len [9] [a1]) fun t14 =>
   P.oV 15 (evBin T0 .eql 3 true t14 (.i .i64 1)) fun t15 =>
   P.oI t15 (P.oV 18 (evIndex T0 9 a1 (.i .i64 0)) fun t18 =>
    P.oC 19 79 [a0, t18] ⟨Tr.nil, 0⟩ fun t19 sx1 =>
    Q t19 sx1)
   (P.oL [1, 0, 5] (fun (next : C3) t1 t0 t5 sx1 =>
    P.oC 22 67 [t0, t1] sx1 fun t22 sx2 =>
    P.oV 24 (evBin T0 .eql 3 true t22 (.i .i64 (-1))) fun t24 =>
    P.oI t24 (Q t5 sx2)
    (P.oV 27 (evBin T0 .add 3 true t5 (.i .i64 1)) fun t27 =>
     P.oV 31 (evBuiltin T0 sx2.h .len [9] [t1]) fun t31 =>
     P.oV 32 (evBin T0 .add 3 false t22 t31) fun t32 =>
     P.oV 33 (evSlice T0 9 t0 (some t32) none none) fun t33 =>
     next t1 t33 t27 sx2)) a1 a0 (.i .i64 0) ⟨Tr.nil, 0⟩))
theorem w66_eq (P : Prims) (a0 a1 : AV) (Q : AV → AS → Prop) : w66 P a0 a1 Q = vcBody P T0 Go.Proofs.Tryd.f66 (codeOf Go.Proofs.Tryd.f66) an66 [a0, a1] ⟨.nil, 0⟩ Q := by kernel_rfl
theorem r66 (a0 a1 : AV) {r : AV} (hi : AV.idfree.idfrees [a0, a1] = true) (hn : AV.norm.norms [a0, a1] = [a0, a1]) (h : w66 (prims T0) a0 a1 (fun r1 s1 => oZ T0 s1 r1 (fun r2 => r2 = r))) : R T0 66 [a0, a1] r :=
  R.mk (by kernel_rfl) (by kernel_rfl) (show T0.fn 66 = some Go.Proofs.Tryd.f66 by kernel_rfl) (by kernel_rfl) (by kernel_rfl) hi hn (by rw [w66_eq] at h; exact h)
/- strings.Index -/
def an67 : AN := (.seq none .leaf (.seq none .leaf .leaf))
def w67 (P : Prims) (a0 a1 : AV) (Q : AV → AS → Prop) : Prop :=
  P.oC 7 80 [a0, a1] ⟨Tr.nil, 0⟩ fun t7 sx1 =>
  Q t7 sx1
theorem w67_eq (P : Prims) (a0 a1 : AV) (Q : AV → AS → Prop) : w67 P a0 a1 Q = vcBody P T0 Go.Proofs.Tryd.f67 (codeOf Go.Proofs.Tryd.f67) an67 [a0, a1] ⟨.nil, 0⟩ Q := by kernel_rfl
theorem r67 (a0 a1 : AV) {r : AV} (hi : AV.idfree.idfrees [a0, a1] = true) (hn : AV.norm.norms [a0, a1] = [a0, a1]) (h : w67 (prims T0) a0 a1 (fun r1 s1 => oZ T0 s1 r1 (fun r2 => r2 = r))) : R T0 67 [a0, a1] r :=
  R.mk (by kernel_rfl) (by kernel_rfl) (show T0.fn 67 = some Go.Proofs.Tryd.f67 by kernel_rfl) (by kernel_rfl) (by kernel_rfl) hi hn (by rw [w67_eq] at h; exact h)
/- cmp.Or[int] -/
def an68 : AN := (.seq none .leaf (.seq none .leaf (.seq none (.seq none .leaf (.one (.loop [3, 6, 7, 8] (.seq none .leaf (.seq none (.two .leaf .leaf) (.seq none (.one (.seq none .leaf (.seq none .leaf (.two (.seq none .leaf .leaf) .leaf)))) .leaf)))))) (.seq none .leaf .leaf))))
def w68 (P : Prims) (a0 : AV) (Q : AV → AS → Prop) : Prop :=
  P.oV 7 (evBuiltin T0 Tr.nil .len [95] [a0]) fun t7 =>
  P.oL [3, 6, 7, 8] (fun (next : C4) t3 t6 t7x1 t8 sx1 =>
  P.oV 9 (evBin T0 .lss 3 false t8 t7x1) fun t9 =>
  P.oI t9 (P.oV 10 (evIndexAddr T0 95 t6 t8) fun t10 =>
   P.oV 11 (evLoad T0 sx1.h 3 t10) fun t11 =>
   P.oV 14 (evBin T0 .neq 3 false t11 t3) fun t14 =>
   P.oI t14 (Q t11 sx1)
   (P.oV 16 (evBin T0 .add 3 true t8 (.i .i64 1)) fun t16 =>
    next t3 t6 t7x1 t16 sx1))
  (Q t3 sx1)) (.i .i64 0) a0 t7 (.i .i64 0) ⟨Tr.nil, 0⟩
theorem w68_eq (P : Prims) (a0 : AV) (Q : AV → AS → Prop) : w68 P a0 Q = vcBody P T0 Go.Proofs.Tryd.f68 (codeOf Go.Proofs.Tryd.f68) an68 [a0] ⟨.nil, 0⟩ Q := by kernel_rfl
theorem r68 (a0 : AV) {r : AV} (hi : AV.idfree.idfrees [a0] = true) (hn : AV.norm.norms [a0] = [a0]) (h : w68 (prims T0) a0 (fun r1 s1 => oZ T0 s1 r1 (fun r2 => r2 = r))) : R T0 68 [a0] r :=
  R.mk (by kernel_rfl) (by kernel_rfl) (show T0.fn 68 = some Go.Proofs.Tryd.f68 by kernel_rfl) (by kernel_rfl) (by kernel_rfl) hi hn (by rw [w68_eq] at h; exact h)
/- cmp.Compare[int] -/
def an69 : AN := (.seq none .leaf (.seq none .leaf (.seq none .leaf (.seq none (.seq none .leaf (.two (.seq none (.seq none .leaf (.two (.seq none .leaf .leaf) .leaf)) (.seq none .leaf .leaf)) .leaf)) (.seq none (.seq none .leaf (.two (.seq none .leaf .leaf) .leaf)) (.seq none (.seq none .leaf (.two (.seq none .leaf .leaf) .leaf)) (.seq none (.seq none .leaf (.two (.seq none .leaf .leaf) .leaf)) (.seq none .leaf .leaf))))))))
def w69 (P : Prims) (a0 a1 : AV) (Q : AV → AS → Prop) : Prop :=
  P.oC 8 81 [a0] ⟨Tr.nil, 0⟩ fun t8 sx1 =>
  P.oC 10 81 [a1] sx1 fun t10 sx2 =>
  P.oI t8 (P.oI t10 (Q (.i .i64 0) sx2)
   (Q (.i .i64 (-1)) sx2))
  (P.oI t10 (Q (.i .i64 1) sx2)
   (P.oV 16 (evBin T0 .lss 3 false a0 a1) fun t16 =>
    P.oI t16 (Q (.i .i64 (-1)) sx2)
    (P.oV 19 (evBin T0 .gtr 3 false a0 a1) fun t19 =>
     P.oI t19 (Q (.i .i64 1) sx2)
     (Q (.i .i64 0) sx2))))
theorem w69_eq (P : Prims) (a0 a1 : AV) (Q : AV → AS → Prop) : w69 P a0 a1 Q = vcBody P T0 Go.Proofs.Tryd.f69 (codeOf Go.Proofs.Tryd.f69) an69 [a0, a1] ⟨.nil, 0⟩ Q := by kernel_rfl
theorem r69 (a0 a1 : AV) {r : AV} (hi : AV.idfree.idfrees [a0, a1] = true) (hn : AV.norm.norms [a0, a1] = [a0, a1]) (h : w69 (prims T0) a0 a1 (fun r1 s1 => oZ T0 s1 r1 (fun r2 => r2 = r))) : R T0 69 [a0, a1] r :=
  R.mk (by kernel_rfl) (by kernel_rfl) (show T0.fn 69 = some Go.Proofs.Tryd.f69 by kernel_rfl) (by kernel_rfl) (by kernel_rfl) hi hn (by rw [w69_eq] at h; exact h)
/- strings.Compare -/
def an70 : AN := (.seq none .leaf (.seq none .leaf .leaf))
def w70 (P : Prims) (a0 a1 : AV) (Q : AV → AS → Prop) : Prop :=
  P.oC 7 82 [a0, a1] ⟨Tr.nil, 0⟩ fun t7 sx1 =>
  Q t7 sx1
theorem w70_eq (P : Prims) (a0 a1 : AV) (Q : AV → AS → Prop) : w70 P a0 a1 Q = vcBody P T0 Go.Proofs.Tryd.f70 (codeOf Go.Proofs.Tryd.f70) an70 [a0, a1] ⟨.nil, 0⟩ Q := by kernel_rfl
theorem r70 (a0 a1 : AV) {r : AV} (hi : AV.idfree.idfrees [a0, a1] = true) (hn : AV.norm.norms [a0, a1] = [a0, a1]) (h : w70 (prims T0) a0 a1 (fun r1 s1 => oZ T0 s1 r1 (fun r2 => r2 = r))) : R T0 70 [a0, a1] r :=
  R.mk (by kernel_rfl) (by kernel_rfl) (show T0.fn 70 = some Go.Proofs.Tryd.f70 by kernel_rfl) (by kernel_rfl) (by kernel_rfl) hi hn (by rw [w70_eq] at h; exact h)
/- slices.CompareFunc[[]orchestrator/api.Value,[]orchestrator/api.Value,orchestrator/api.Value,orchestrator/api.Value] -/
def an71 : AN := (.seq none .leaf (.seq none (.seq none .leaf (.one (.loop [1, 0, 2, 11, 12, 13] (.seq none .leaf (.seq none (.two .leaf .leaf) (.seq none (.one (.seq none .leaf (.seq none (.seq none .leaf (.two (.seq none .leaf .leaf) .leaf)) (.seq none .leaf (.seq none .leaf (.seq none .leaf (.two (.seq none .leaf .leaf) .leaf))))))) .leaf)))))) (.seq none (.seq none .leaf (.two (.seq none .leaf .leaf) .leaf)) (.seq none .leaf .leaf))))
def w71 (P : Prims) (a0 a1 a2 : AV) (Q : AV → AS → Prop) : Prop :=
  P.oV 12 (evBuiltin T0 Tr.nil .len [29] [a0]) fun t12 =>
  P.oL [1, 0, 2, 11, 12, 13] (fun (next : C6) t1 t0 t2 t11 t12x1 t13 sx1 =>
  P.oV 14 (evBin T0 .lss 3 false t13 t12x1) fun t14 =>
  P.oI t14 (P.oV 16 (evIndexAddr T0 29 t11 t13) fun t16 =>
   P.oV 17 (evLoad T0 sx1.h 32 t16) fun t17 =>
   P.oN 8 (.cells [(.i .i64 0), (.i .i64 0), (.s []), (.nilz true), (.nilz true)] 32 false) (fun id => (.ptr id 0)) sx1 fun t8 sx2 =>
   P.oH (evStore T0 sx2.h 32 t8 t17) sx2 fun sx3 =>
   P.oV 20 (evBuiltin T0 sx3.h .len [29] [t1]) fun t20 =>
   P.oV 21 (evBin T0 .geq 3 false t13 t20) fun t21 =>
   P.oI t21 (Q (.i .i64 1) sx3)
   (P.oV 24 (evIndexAddr T0 29 t1 t13) fun t24 =>
    P.oV 25 (evLoad T0 sx3.h 32 t24) fun t25 =>
    P.oN 9 (.cells [(.i .i64 0), (.i .i64 0), (.s []), (.nilz true), (.nilz true)] 32 false) (fun id => (.ptr id 0)) sx3 fun t9 sx4 =>
    P.oH (evStore T0 sx4.h 32 t9 t25) sx4 fun sx5 =>
    P.oV 27 (evLoad T0 sx5.h 32 t8) fun t27 =>
    P.oV 28 (evLoad T0 sx5.h 32 t9) fun t28 =>
    P.oF 29 t2 [t27, t28] sx5 fun t29 sx6 =>
    P.oV 31 (evBin T0 .neq 3 true t29 (.i .i64 0)) fun t31 =>
    P.oI t31 (Q t29 sx6)
    (P.oV 33 (evBin T0 .add 3 true t13 (.i .i64 1)) fun t33 =>
     next t1 t0 t2 t11 t12x1 t33 sx6)))
  (P.oV 35 (evBuiltin T0 sx1.h .len [29] [t0]) fun t35 =>
   P.oV 37 (evBuiltin T0 sx1.h .len [29] [t1]) fun t37 =>
   P.oV 38 (evBin T0 .lss 3 false t35 t37) fun t38 =>
   P.oI t38 (Q (.i .i64 (-1)) sx1)
   (Q (.i .i64 0) sx1))) a1 a0 a2 a0 t12 (.i .i64 0) ⟨Tr.nil, 0⟩
theorem w71_eq (P : Prims) (a0 a1 a2 : AV) (Q : AV → AS → Prop) : w71 P a0 a1 a2 Q = vcBody P T0 Go.Proofs.Tryd.f71 (codeOf Go.Proofs.Tryd.f71) an71 [a0, a1, a2] ⟨.nil, 0⟩ Q := by kernel_rfl
theorem r71 (a0 a1 a2 : AV) {r : AV} (hi : AV.idfree.idfrees [a0, a1, a2] = true) (hn : AV.norm.norms [a0, a1, a2] = [a0, a1, a2]) (h : w71 (prims T0) a0 a1 a2 (fun r1 s1 => oZ T0 s1 r1 (fun r2 => r2 = r))) : R T0 71 [a0, a1, a2] r :=
  R.mk (by kernel_rfl) (by kernel_rfl) (show T0.fn 71 = some Go.Proofs.Tryd.f71 by kernel_rfl) (by kernel_rfl) (by kernel_rfl) hi hn (by rw [w71_eq] at h; exact h)
/- slices.CompareFunc[[]orchestrator/api.Field,[]orchestrator/api.Field,orchestrator/api.Field,orchestrator/api.Field] -/
def an72 : AN := (.seq none .leaf (.seq none (.seq none .leaf (.one (.loop [1, 0, 2, 11, 12, 13] (.seq none .leaf (.seq none (.two .leaf .leaf) (.seq none (.one (.seq none .leaf (.seq none (.seq none .leaf (.two (.seq none .leaf .leaf) .leaf)) (.seq none .leaf (.seq none .leaf (.seq none .leaf (.two (.seq none .leaf .leaf) .leaf))))))) .leaf)))))) (.seq none (.seq none .leaf (.two (.seq none .leaf .leaf) .leaf)) (.seq none .leaf .leaf))))
def w72 (P : Prims) (a0 a1 a2 : AV) (Q : AV → AS → Prop) : Prop :=
  P.oV 12 (evBuiltin T0 Tr.nil .len [30] [a0]) fun t12 =>
  P.oL [1, 0, 2, 11, 12, 13] (fun (next : C6) t1 t0 t2 t11 t12x1 t13 sx1 =>
  P.oV 14 (evBin T0 .lss 3 false t13 t12x1) fun t14 =>
  P.oI t14 (P.oV 16 (evIndexAddr T0 30 t11 t13) fun t16 =>
   P.oV 17 (evLoad T0 sx1.h 80 t16) fun t17 =>
   P.oN 8 (.cells [(.s []), (.i .i64 0), (.i .i64 0), (.s []), (.nilz true), (.nilz true)] 80 false) (fun id => (.ptr id 0)) sx1 fun t8 sx2 =>
   P.oH (evStore T0 sx2.h 80 t8 t17) sx2 fun sx3 =>
   P.oV 20 (evBuiltin T0 sx3.h .len [30] [t1]) fun t20 =>
   P.oV 21 (evBin T0 .geq 3 false t13 t20) fun t21 =>
   P.oI t21 (Q (.i .i64 1) sx3)
   (P.oV 24 (evIndexAddr T0 30 t1 t13) fun t24 =>
    P.oV 25 (evLoad T0 sx3.h 80 t24) fun t25 =>
    P.oN 9 (.cells [(.s []), (.i .i64 0), (.i .i64 0), (.s []), (.nilz true), (.nilz true)] 80 false) (fun id => (.ptr id 0)) sx3 fun t9 sx4 =>
    P.oH (evStore T0 sx4.h 80 t9 t25) sx4 fun sx5 =>
    P.oV 27 (evLoad T0 sx5.h 80 t8) fun t27 =>
    P.oV 28 (evLoad T0 sx5.h 80 t9) fun t28 =>
    P.oF 29 t2 [t27, t28] sx5 fun t29 sx6 =>
    P.oV 31 (evBin T0 .neq 3 true t29 (.i .i64 0)) fun t31 =>
    P.oI t31 (Q t29 sx6)
    (P.oV 33 (evBin T0 .add 3 true t13 (.i .i64 1)) fun t33 =>
     next t1 t0 t2 t11 t12x1 t33 sx6)))
  (P.oV 35 (evBuiltin T0 sx1.h .len [30] [t0]) fun t35 =>
   P.oV 37 (evBuiltin T0 sx1.h .len [30] [t1]) fun t37 =>
   P.oV 38 (evBin T0 .lss 3 false t35 t37) fun t38 =>
   P.oI t38 (Q (.i .i64 (-1)) sx1)
   (Q (.i .i64 0) sx1))) a1 a0 a2 a0 t12 (.i .i64 0) ⟨Tr.nil, 0⟩
theorem w72_eq (P : Prims) (a0 a1 a2 : AV) (Q : AV → AS → Prop) : w72 P a0 a1 a2 Q = vcBody P T0 Go.Proofs.Tryd.f72 (codeOf Go.Proofs.Tryd.f72) an72 [a0, a1, a2] ⟨.nil, 0⟩ Q := by kernel_rfl
theorem r72 (a0 a1 a2 : AV) {r : AV} (hi : AV.idfree.idfrees [a0, a1, a2] = true) (hn : AV.norm.norms [a0, a1, a2] = [a0, a1, a2]) (h : w72 (prims T0) a0 a1 a2 (fun r1 s1 => oZ T0 s1 r1 (fun r2 => r2 = r))) : R T0 72 [a0, a1, a2] r :=
  R.mk (by kernel_rfl) (by kernel_rfl) (show T0.fn 72 = some Go.Proofs.Tryd.f72 by kernel_rfl) (by kernel_rfl) (by kernel_rfl) hi hn (by rw [w72_eq] at h; exact h)
/- orchestrator/value.Compare$1 -/
def an73 : AN := (.seq none .leaf (.seq none .leaf .leaf))
def w73 (P : Prims) (a0 a1 : AV) (Q : AV → AS → Prop) : Prop :=
  P.oN 2 (.cells (AV.cells a0) 80 false) (fun id => (.ptr id 0)) ⟨Tr.nil, 0⟩ fun t2 sx1 =>
  P.oN 3 (.cells (AV.cells a1) 80 false) (fun id => (.ptr id 0)) sx1 fun t3 sx2 =>
  P.oV 5 (evOff 0 t2) fun t5 =>
  P.oV 6 (evLoad T0 sx2.h 9 t5) fun t6 =>
  P.oV 7 (evOff 0 t3) fun t7 =>
  P.oV 8 (evLoad T0 sx2.h 9 t7) fun t8 =>
  P.oC 9 70 [t6, t8] sx2 fun t9 sx3 =>
  P.oV 10 (evOff 1 t2) fun t10 =>
  P.oV 11 (evLoad T0 sx2.h 32 t10) fun t11 =>
  P.oV 12 (evOff 1 t3) fun t12 =>
  P.oV 13 (evLoad T0 sx2.h 32 t12) fun t13 =>
  P.oC 14 58 [t11, t13] sx2 fun t14 sx4 =>
  P.oE (evLit T0 95 2 [(0, t9), (1, t14)]) fun b f =>
  P.oT (readOK sx2.n [2, 3, 0, 1, 4, 7, 8, 5, 6, 9, 10] [(10, (sx2.n, (some b)))] [(10, (sx2.n, (some b)))]) (P.oC 16 68 [(f sx2.n)] ⟨(sx2.h.put sx2.n (some b)), (sx2.n + 1)⟩ fun t16 sx5 =>
  P.oT (readOK sx2.n [2, 3, 0, 1, 4, 7, 8, 5, 6, 9, 10, 11] [(10, (sx2.n, (some b)))] [(10, (sx2.n, (some b)))]) (P.oS ⟨(sx2.h.put sx2.n (some b)), (sx2.n + 1)⟩ fun sx6 =>
  Q t16 sx6))
theorem w73_eq (P : Prims) (a0 a1 : AV) (Q : AV → AS → Prop) : w73 P a0 a1 Q = vcBody P T0 Go.Proofs.Tryd.f73 (codeOf Go.Proofs.Tryd.f73) an73 [a0, a1] ⟨.nil, 0⟩ Q := by kernel_rfl
theorem r73 (a0 a1 : AV) {r : AV} (hi : AV.idfree.idfrees [a0, a1] = true) (hn : AV.norm.norms [a0, a1] = [a0, a1]) (h : w73 (prims T0) a0 a1 (fun r1 s1 => oZ T0 s1 r1 (fun r2 => r2 = r))) : R T0 73 [a0, a1] r :=
  R.mk (by kernel_rfl) (by kernel_rfl) (show T0.fn 73 = some Go.Proofs.Tryd.f73 by kernel_rfl) (by kernel_rfl) (by kernel_rfl) hi hn (by rw [w73_eq] at h; exact h)
/- orchestrator/orchestratorref13.Key -/
def an74 : AN := (.seq none .leaf (.seq none .leaf .leaf))
def w74 (P : Prims) (a0 a1 a2 : AV) (Q : AV → AS → Prop) : Prop :=
  P.oV 8 (evBin T0 .add 9 true a0 (.s [47])) fun t8 =>
  P.oV 10 (evBin T0 .add 9 false t8 a1) fun t10 =>
  P.oV 11 (evBin T0 .add 9 true t10 (.s [47])) fun t11 =>
  P.oV 13 (evBin T0 .add 9 false t11 a2) fun t13 =>
  Q t13 ⟨Tr.nil, 0⟩
theorem w74_eq (P : Prims) (a0 a1 a2 : AV) (Q : AV → AS → Prop) : w74 P a0 a1 a2 Q = vcBody P T0 Go.Proofs.Tryd.f74 (codeOf Go.Proofs.Tryd.f74) an74 [a0, a1, a2] ⟨.nil, 0⟩ Q := by kernel_rfl
theorem r74 (a0 a1 a2 : AV) {r : AV} (hi : AV.idfree.idfrees [a0, a1, a2] = true) (hn : AV.norm.norms [a0, a1, a2] = [a0, a1, a2]) (h : w74 (prims T0) a0 a1 a2 (fun r1 s1 => oZ T0 s1 r1 (fun r2 => r2 = r))) : R T0 74 [a0, a1, a2] r :=
  R.mk (by kernel_rfl) (by kernel_rfl) (show T0.fn 74 = some Go.Proofs.Tryd.f74 by kernel_rfl) (by kernel_rfl) (by kernel_rfl) hi hn (by rw [w74_eq] at h; exact h)
/- orchestrator/orchestratorref04.order -/
def an75 : AN := (.seq none .leaf (.seq none (.seq none .leaf (.two (.seq none .leaf .leaf) .leaf)) (.seq none (.seq none .leaf (.two (.seq none .leaf .leaf) .leaf)) (.seq none .leaf .leaf))))
def w75 (P : Prims) (a0 a1 : AV) (Q : AV → AS → Prop) : Prop :=
  P.oI a0 (Q (.i .i64 (-1)) ⟨Tr.nil, 0⟩)
  (P.oI a1 (Q (.i .i64 1) ⟨Tr.nil, 0⟩)
   (Q (.i .i64 0) ⟨Tr.nil, 0⟩))
theorem w75_eq (P : Prims) (a0 a1 : AV) (Q : AV → AS → Prop) : w75 P a0 a1 Q = vcBody P T0 Go.Proofs.Tryd.f75 (codeOf Go.Proofs.Tryd.f75) an75 [a0, a1] ⟨.nil, 0⟩ Q := by kernel_rfl
theorem r75 (a0 a1 : AV) {r : AV} (hi : AV.idfree.idfrees [a0, a1] = true) (hn : AV.norm.norms [a0, a1] = [a0, a1]) (h : w75 (prims T0) a0 a1 (fun r1 s1 => oZ T0 s1 r1 (fun r2 => r2 = r))) : R T0 75 [a0, a1] r :=
  R.mk (by kernel_rfl) (by kernel_rfl) (show T0.fn 75 = some Go.Proofs.Tryd.f75 by kernel_rfl) (by kernel_rfl) (by kernel_rfl) hi hn (by rw [w75_eq] at h; exact h)
/- internal/strconv.FormatInt -/
def an76 : AN := (.seq none .leaf (.seq none (.seq none .leaf (.two (.seq none (.seq none .leaf (.two (.seq none .leaf .leaf) .leaf)) (.seq none .leaf (.seq none .leaf (.seq (some [5, 0, 6]) (.seq none .leaf (.two .leaf .leaf)) (.seq none .leaf (.seq none .leaf (.seq none (.seq none .leaf (.two (.seq none .leaf (.seq none .leaf .leaf)) .leaf)) (.seq none .leaf .leaf)))))))) .leaf)) (.seq none .leaf (.seq none .leaf .leaf))))
def w76 (P : Prims) (a0 a1 : AV) (Q : AV → AS → Prop) : Prop :=
  P.oV 11 (evBin T0 .eql 3 true a1 (.i .i64 10)) fun t11 =>
  P.oI t11 (P.oV 13 (evBin T0 .leq 2 true (.i .i64 0) a0) fun t13 =>
   P.oG [15, 16] t13 true (fun (k : C2) => P.oV 16 (evBin T0 .lss 2 true a0 (.i .i64 100)) fun t16 =>
    k a0 t16 ⟨Tr.nil, 0⟩) ⟨Tr.nil, 0⟩ fun t15 t16 sx1 =>
   P.oV 17 (evPick t13 (some t16) (some (.b false))) fun t17 =>
   P.oI t17 (P.oC 19 83 [a0] sx1 fun t19 sx2 =>
    Q t19 sx2)
   (P.oN 5 (.cells [(.i .u8 0), (.i .u8 0), (.i .u8 0), (.i .u8 0), (.i .u8 0), (.i .u8 0), (.i .u8 0), (.i .u8 0), (.i .u8 0), (.i .u8 0), (.i .u8 0), (.i .u8 0), (.i .u8 0), (.i .u8 0), (.i .u8 0), (.i .u8 0), (.i .u8 0), (.i .u8 0), (.i .u8 0), (.i .u8 0), (.i .u8 0), (.i .u8 0), (.i .u8 0), (.i .u8 0)] 97 false) (fun id => (.ptr id 0)) sx1 fun t5 sx2 =>
    P.oV 21 (evConv T0 sx2.h 2 98 a0) fun t21 =>
    P.oJ [5, 0, 6] (fun (k : C3) =>
     P.oV 23 (evBin T0 .lss 2 true a0 (.i .i64 0)) fun t23 =>
     P.oI t23 (P.oV 25 (evUn .neg t21) fun t25 =>
      k t5 a0 t25 sx2)
     (k t5 a0 t21 sx2))
    (fun t5x1 t0 t6 sx3 =>
    P.oC 27 84 [t6] sx3 fun t27 sx4 =>
    P.oV 29 (evBin T0 .add 3 true (.i .i64 1) t27) fun t29 =>
    P.oV 30 (evSlice T0 97 t5x1 (some (.i .i64 1)) (some t29) none) fun t30 =>
    P.oC 32 85 [t30, t6] sx4 fun t32 sx5 =>
    P.oV 34 (evBin T0 .lss 2 true t0 (.i .i64 0)) fun t34 =>
    P.oI t34 (P.oV 35 (evIndexAddr T0 97 t5x1 (.i .i64 0)) fun t35 =>
     P.oH (evStore T0 sx5.h 5 t35 (.i .u8 45)) sx5 fun sx6 =>
     P.oV 37 (evBin T0 .add 3 true (.i .i64 1) t27) fun t37 =>
     P.oV 38 (evSlice T0 97 t5x1 none (some t37) none) fun t38 =>
     P.oV 39 (evConv T0 sx6.h 78 9 t38) fun t39 =>
     Q t39 sx6)
    (P.oV 41 (evBin T0 .add 3 true (.i .i64 1) t27) fun t41 =>
     P.oV 42 (evSlice T0 97 t5x1 (some (.i .i64 1)) (some t41) none) fun t42 =>
     P.oV 43 (evConv T0 sx5.h 78 9 t42) fun t43 =>
     Q t43 sx5))))
  (P.oV 46 (evConv T0 Tr.nil 2 98 a0) fun t46 =>
   P.oV 49 (evBin T0 .lss 2 true a0 (.i .i64 0)) fun t49 =>
   P.oC 50 86 [(.nilz true), t46, a1, t49, (.b false)] ⟨Tr.nil, 0⟩ fun t50 sx1 =>
   P.oV 51 (evExtract 0 t50) fun t51 =>
   P.oV 52 (evExtract 1 t50) fun t52 =>
   Q t52 sx1)
theorem w76_eq (P : Prims) (a0 a1 : AV) (Q : AV → AS → Prop) : w76 P a0 a1 Q = vcBody P T0 Go.Proofs.Tryd.f76 (codeOf Go.Proofs.Tryd.f76) an76 [a0, a1] ⟨.nil, 0⟩ Q := by kernel_rfl
theorem r76 (a0 a1 : AV) {r : AV} (hi : AV.idfree.idfrees [a0, a1] = true) (hn : AV.norm.norms [a0, a1] = [a0, a1]) (h : w76 (prims T0) a0 a1 (fun r1 s1 => oZ T0 s1 r1 (fun r2 => r2 = r))) : R T0 76 [a0, a1] r :=
  R.mk (by kernel_rfl) (by kernel_rfl) (show T0.fn 76 = some Go.Proofs.Tryd.f76 by kernel_rfl) (by kernel_rfl) (by kernel_rfl) hi hn (by rw [w76_eq] at h; exact h)
/- unicode/utf8.RuneCountInString -/
def an77 : AN := (.seq none .leaf (.seq none (.seq none .leaf (.one (.loop [2, 4] (.seq none .leaf (.seq none (.two .leaf .leaf) (.one .leaf)))))) (.seq none .leaf .leaf)))
def w77 (P : Prims) (a0 : AV) (Q : AV → AS → Prop) : Prop :=
  P.oE (evRange T0 9 a0) fun b f =>
  P.oN 4 b f ⟨Tr.nil, 0⟩ fun t4 sx1 =>
  P.oL [2, 4] (fun (next : C2) t2 t4x1 sx2 =>
  P.oM 5 (evNext sx2 t4x1) fun t5 sx3 =>
  P.oV 6 (evExtract 0 t5) fun t6 =>
  P.oI t6 (P.oV 8 (evBin T0 .add 3 true t2 (.i .i64 1)) fun t8 =>
   next t8 t4x1 sx3)
  (Q t2 sx3)) (.i .i64 0) t4 sx1
theorem w77_eq (P : Prims) (a0 : AV) (Q : AV → AS → Prop) : w77 P a0 Q = vcBody P T0 Go.Proofs.Tryd.f77 (codeOf Go.Proofs.Tryd.f77) an77 [a0] ⟨.nil, 0⟩ Q := by kernel_rfl
theorem r77 (a0 : AV) {r : AV} (hi : AV.idfree.idfrees [a0] = true) (hn : AV.norm.norms [a0] = [a0]) (h : w77 (prims T0) a0 (fun r1 s1 => oZ T0 s1 r1 (fun r2 => r2 = r))) : R T0 77 [a0] r :=
  R.mk (by kernel_rfl) (by kernel_rfl) (show T0.fn 77 = some Go.Proofs.Tryd.f77 by kernel_rfl) (by kernel_rfl) (by kernel_rfl) hi hn (by rw [w77_eq] at h; exact h)
/- unicode/utf8.DecodeRuneInString -/
def an78 : AN := (.seq none .leaf (.seq none (.seq none .leaf (.two (.seq none .leaf .leaf) .leaf)) .leaf))
def w78 (P : Prims) (a0 : AV) (Q : AV → AS → Prop) : Prop :=
  P.oV 5 (evBin T0 .neq 9 true a0 (.s [])) fun t5 =>
  P.oG [7, 8, 9] t5 true (fun (k : C3) => P.oV 8 (evIndex T0 9 a0 (.i .i64 0)) fun t8 =>
   P.oV 9 (evBin T0 .lss 5 true t8 (.i .u8 128)) fun t9 =>
   k a0 t8 t9 ⟨Tr.nil, 0⟩) ⟨Tr.nil, 0⟩ fun t7 t8 t9 sx1 =>
  P.oV 10 (evPick t5 (some t9) (some (.b false))) fun t10 =>
  P.oI t10 (P.oV 12 (evIndex T0 9 a0 (.i .i64 0)) fun t12 =>
   P.oV 13 (evConv T0 sx1.h 5 21 t12) fun t13 =>
   Q (.tup [t13, (.i .i64 1)]) sx1)
  (P.oC 16 87 [a0] sx1 fun t16 sx2 =>
   P.oV 17 (evExtract 0 t16) fun t17 =>
   P.oV 18 (evExtract 1 t16) fun t18 =>
   Q (.tup [t17, t18]) sx2)
theorem w78_eq (P : Prims) (a0 : AV) (Q : AV → AS → Prop) : w78 P a0 Q = vcBody P T0 Go.Proofs.Tryd.f78 (codeOf Go.Proofs.Tryd.f78) an78 [a0] ⟨.nil, 0⟩ Q := by kernel_rfl
theorem r78 (a0 : AV) {r : AV} (hi : AV.idfree.idfrees [a0] = true) (hn : AV.norm.norms [a0] = [a0]) (h : w78 (prims T0) a0 (fun r1 s1 => oZ T0 s1 r1 (fun r2 => r2 = r))) : R T0 78 [a0] r :=
  R.mk (by kernel_rfl) (by kernel_rfl) (show T0.fn 78 = some Go.Proofs.Tryd.f78 by kernel_rfl) (by kernel_rfl) (by kernel_rfl) hi hn (by rw [w78_eq] at h; exact h)
/- internal/stringslite.Index -/
def an80 : AN := (.seq none .leaf (.seq none .leaf (.seq none (.one (.seq none .leaf (.two (.seq none .leaf .leaf) (.seq none .leaf (.two (.seq none .leaf .leaf) (.seq none .leaf (.two (.seq none .leaf .leaf) (.seq none .leaf (.two (.seq none .leaf .leaf) .leaf))))))))) (.seq none .leaf (.seq none .leaf (.seq none .leaf (.seq none .leaf (.seq none .leaf (.seq none (.one (.loop [1, 0, 9, 5, 7, 6, 10, 8] (.seq none (.seq none .leaf (.two .leaf .leaf)) (.one (.seq (some [1, 0, 9, 5, 7, 6, 10, 8]) (.seq none .leaf (.two (.seq none .leaf (.seq none (.seq none .leaf (.two (.seq none .leaf .leaf) .leaf)) .leaf)) .leaf)) (.seq none (.seq none .leaf (.two (.seq none .leaf .leaf) .leaf)) (.seq none .leaf (.seq none .leaf (.seq none .leaf (.two (.seq none .leaf (.seq none (.seq none .leaf (.two (.seq none .leaf .leaf) .leaf)) (.seq none .leaf .leaf))) (.seq none .leaf (.two (.seq none .leaf (.seq none (.seq none .leaf (.two (.seq none .leaf .leaf) .leaf)) (.seq none .leaf .leaf))) .leaf)))))))))))) (.seq none .leaf .leaf))))))))))
def w80 (P : Prims) (a0 a1 : AV) (Q : AV → AS → Prop) : Prop :=
  P.oV 15 (evBuiltin T0 Tr.nil .len [9] [a1]) fun t15 =>
  P.oV 18 (evBin T0 .eql 3 true t15 (.i .i64 0)) fun t18 =>
  P.oG [20, 21, 22] t18 false (fun (k : C3) => P.oV 22 (evBin T0 .eql 9 false a1 a0) fun t22 =>
   k a1 a0 t22 ⟨Tr.nil, 0⟩) ⟨Tr.nil, 0⟩ fun t20 t21 t22 sx1 =>
  P.oV 23 (evPick t18 (some (.b true)) (some t22)) fun t23 =>
  P.oI t23 (Q (.i .i64 0) sx1)
  (P.oV 26 (evBin T0 .eql 3 true t15 (.i .i64 1)) fun t26 =>
   P.oI t26 (P.oV 29 (evIndex T0 9 a1 (.i .i64 0)) fun t29 =>
    P.oC 30 88 [a0, t29] sx1 fun t30 sx2 =>
    Q t30 sx2)
   (P.oV 34 (evBuiltin T0 sx1.h .len [9] [a0]) fun t34 =>
    P.oV 35 (evBin T0 .geq 3 false t15 t34) fun t35 =>
    P.oI t35 (Q (.i .i64 (-1)) sx1)
    (False)))
theorem w80_eq (P : Prims) (a0 a1 : AV) (Q : AV → AS → Prop) : w80 P a0 a1 Q = vcBody P T0 Go.Proofs.Tryd.f80 (codeOf Go.Proofs.Tryd.f80) an80 [a0, a1] ⟨.nil, 0⟩ Q := by kernel_rfl
theorem r80 (a0 a1 : AV) {r : AV} (hi : AV.idfree.idfrees [a0, a1] = true) (hn : AV.norm.norms [a0, a1] = [a0, a1]) (h : w80 (prims T0) a0 a1 (fun r1 s1 => oZ T0 s1 r1 (fun r2 => r2 = r))) : R T0 80 [a0, a1] r :=
  R.mk (by kernel_rfl) (by kernel_rfl) (show T0.fn 80 = some Go.Proofs.Tryd.f80 by kernel_rfl) (by kernel_rfl) (by kernel_rfl) hi hn (by rw [w80_eq] at h; exact h)
/- cmp.isNaN[int] -/
def an81 : AN := (.seq none .leaf (.seq none .leaf .leaf))
def w81 (P : Prims) (a0 : AV) (Q : AV → AS → Prop) : Prop :=
  P.oV 5 (evBin T0 .neq 3 false a0 a0) fun t5 =>
  Q t5 ⟨Tr.nil, 0⟩
theorem w81_eq (P : Prims) (a0 : AV) (Q : AV → AS → Prop) : w81 P a0 Q = vcBody P T0 Go.Proofs.Tryd.f81 (codeOf Go.Proofs.Tryd.f81) an81 [a0] ⟨.nil, 0⟩ Q := by kernel_rfl
theorem r81 (a0 : AV) {r : AV} (hi : AV.idfree.idfrees [a0] = true) (hn : AV.norm.norms [a0] = [a0]) (h : w81 (prims T0) a0 (fun r1 s1 => oZ T0 s1 r1 (fun r2 => r2 = r))) : R T0 81 [a0] r :=
  R.mk (by kernel_rfl) (by kernel_rfl) (show T0.fn 81 = some Go.Proofs.Tryd.f81 by kernel_rfl) (by kernel_rfl) (by kernel_rfl) hi hn (by rw [w81_eq] at h; exact h)
/- internal/bytealg.CompareString -/
def an82 : AN := (.seq none .leaf (.seq none .leaf .leaf))
def w82 (P : Prims) (a0 a1 : AV) (Q : AV → AS → Prop) : Prop :=
  P.oC 7 92 [a0, a1] ⟨Tr.nil, 0⟩ fun t7 sx1 =>
  Q t7 sx1
theorem w82_eq (P : Prims) (a0 a1 : AV) (Q : AV → AS → Prop) : w82 P a0 a1 Q = vcBody P T0 Go.Proofs.Tryd.f82 (codeOf Go.Proofs.Tryd.f82) an82 [a0, a1] ⟨.nil, 0⟩ Q := by kernel_rfl
theorem r82 (a0 a1 : AV) {r : AV} (hi : AV.idfree.idfrees [a0, a1] = true) (hn : AV.norm.norms [a0, a1] = [a0, a1]) (h : w82 (prims T0) a0 a1 (fun r1 s1 => oZ T0 s1 r1 (fun r2 => r2 = r))) : R T0 82 [a0, a1] r :=
  R.mk (by kernel_rfl) (by kernel_rfl) (show T0.fn 82 = some Go.Proofs.Tryd.f82 by kernel_rfl) (by kernel_rfl) (by kernel_rfl) hi hn (by rw [w82_eq] at h; exact h)
/- internal/strconv.small -/
def an83 : AN := (.seq none .leaf (.seq none (.seq none .leaf (.two (.seq none .leaf .leaf) .leaf)) (.seq none .leaf .leaf)))
def w83 (P : Prims) (a0 : AV) (Q : AV → AS → Prop) : Prop :=
  P.oV 4 (evBin T0 .lss 3 true a0 (.i .i64 10)) fun t4 =>
  P.oI t4 (P.oV 7 (evBin T0 .add 3 true a0 (.i .i64 1)) fun t7 =>
   P.oV 8 (evSlice T0 9 (.s [48, 49, 50, 51, 52, 53, 54, 55, 56, 57, 97, 98, 99, 100, 101, 102, 103, 104, 105, 106, 107, 108, 109, 110, 111, 112, 113, 114, 115, 116, 117, 118, 119, 120, 121, 122]) (some a0) (some t7) none) fun t8 =>
   Q t8 ⟨Tr.nil, 0⟩)
  (P.oV 10 (evBin T0 .mul 3 true a0 (.i .i64 2)) fun t10 =>
   P.oV 12 (evBin T0 .mul 3 true a0 (.i .i64 2)) fun t12 =>
   P.oV 13 (evBin T0 .add 3 true t12 (.i .i64 2)) fun t13 =>
   P.oV 14 (evSlice T0 9 (.s [48, 48, 48, 49, 48, 50, 48, 51, 48, 52, 48, 53, 48, 54, 48, 55, 48, 56, 48, 57, 49, 48, 49, 49, 49, 50, 49, 51, 49, 52, 49, 53, 49, 54, 49, 55, 49, 56, 49, 57, 50, 48, 50, 49, 50, 50, 50, 51, 50, 52, 50, 53, 50, 54, 50, 55, 50, 56, 50, 57, 51, 48, 51, 49, 51, 50, 51, 51, 51, 52, 51, 53, 51, 54, 51, 55, 51, 56, 51, 57, 52, 48, 52, 49, 52, 50, 52, 51, 52, 52, 52, 53, 52, 54, 52, 55, 52, 56, 52, 57, 53, 48, 53, 49, 53, 50, 53, 51, 53, 52, 53, 53, 53, 54, 53, 55, 53, 56, 53, 57, 54, 48, 54, 49, 54, 50, 54, 51, 54, 52, 54, 53, 54, 54, 54, 55, 54, 56, 54, 57, 55, 48, 55, 49, 55, 50, 55, 51, 55, 52, 55, 53, 55, 54, 55, 55, 55, 56, 55, 57, 56, 48, 56, 49, 56, 50, 56, 51, 56, 52, 56, 53, 56, 54, 56, 55, 56, 56, 56, 57, 57, 48, 57, 49, 57, 50, 57, 51, 57, 52, 57, 53, 57, 54, 57, 55, 57, 56, 57, 57]) (some t10) (some t13) none) fun t14 =>
   Q t14 ⟨Tr.nil, 0⟩)
theorem w83_eq (P : Prims) (a0 : AV) (Q : AV → AS → Prop) : w83 P a0 Q = vcBody P T0 Go.Proofs.Tryd.f83 (codeOf Go.Proofs.Tryd.f83) an83 [a0] ⟨.nil, 0⟩ Q := by kernel_rfl
theorem r83 (a0 : AV) {r : AV} (hi : AV.idfree.idfrees [a0] = true) (hn : AV.norm.norms [a0] = [a0]) (h : w83 (prims T0) a0 (fun r1 s1 => oZ T0 s1 r1 (fun r2 => r2 = r))) : R T0 83 [a0] r :=
  R.mk (by kernel_rfl) (by kernel_rfl) (show T0.fn 83 = some Go.Proofs.Tryd.f83 by kernel_rfl) (by kernel_rfl) (by kernel_rfl) hi hn (by rw [w83_eq] at h; exact h)
/- internal/strconv.numDigits -/
def an84 : AN := (.seq none .leaf (.seq none .leaf (.seq none .leaf .leaf)))
def w84 (P : Prims) (a0 : AV) (Q : AV → AS → Prop) : Prop :=
  P.oC 5 94 [a0] ⟨Tr.nil, 0⟩ fun t5 sx1 =>
  P.oC 6 93 [t5] sx1 fun t6 sx2 =>
  P.oV 10 (evIndexAddr T0 106 (.iptr [(.i .u64 1), (.i .u64 10), (.i .u64 100), (.i .u64 1000), (.i .u64 10000), (.i .u64 100000), (.i .u64 1000000), (.i .u64 10000000), (.i .u64 100000000), (.i .u64 1000000000), (.i .u64 10000000000), (.i .u64 100000000000), (.i .u64 1000000000000), (.i .u64 10000000000000), (.i .u64 100000000000000), (.i .u64 1000000000000000), (.i .u64 10000000000000000), (.i .u64 100000000000000000), (.i .u64 1000000000000000000), (.i .u64 10000000000000000000)]) t6) fun t10 =>
  P.oV 11 (evLoad T0 sx2.h 98 t10) fun t11 =>
  P.oV 12 (evBin T0 .geq 98 false a0 t11) fun t12 =>
  P.oC 13 95 [t12] sx2 fun t13 sx3 =>
  P.oV 14 (evBin T0 .add 3 false t6 t13) fun t14 =>
  Q t14 sx3
theorem w84_eq (P : Prims) (a0 : AV) (Q : AV → AS → Prop) : w84 P a0 Q = vcBody P T0 Go.Proofs.Tryd.f84 (codeOf Go.Proofs.Tryd.f84) an84 [a0] ⟨.nil, 0⟩ Q := by kernel_rfl
theorem r84 (a0 : AV) {r : AV} (hi : AV.idfree.idfrees [a0] = true) (hn : AV.norm.norms [a0] = [a0]) (h : w84 (prims T0) a0 (fun r1 s1 => oZ T0 s1 r1 (fun r2 => r2 = r))) : R T0 84 [a0] r :=
  R.mk (by kernel_rfl) (by kernel_rfl) (show T0.fn 84 = some Go.Proofs.Tryd.f84 by kernel_rfl) (by kernel_rfl) (by kernel_rfl) hi hn (by rw [w84_eq] at h; exact h)
/- internal/strconv.formatBase10 -/
def an85 : AN := (.seq none .leaf (.seq none (.one (.loop [0, 4, 1] (.seq none (.seq none .leaf (.two .leaf .leaf)) (.one (.seq none .leaf (.seq none .leaf (.seq none .leaf (.seq none .leaf (.seq none .leaf (.seq none .leaf (.seq none .leaf (.seq none .leaf (.seq none .leaf .leaf))))))))))))) (.seq none .leaf (.seq (some [12, 0, 4]) (.seq none .leaf (.two (.seq none .leaf (.seq none .leaf (.seq none .leaf (.seq none .leaf (.seq none .leaf .leaf))))) .leaf)) (.seq (some [12, 0, 4]) (.seq none .leaf (.two (.seq none .leaf (.seq none .leaf (.seq none .leaf .leaf))) .leaf)) (.seq none .leaf (.two .leaf .leaf)))))))
def w85 (P : Prims) (a0 a1 : AV) (Q : AV → AS → Prop) : Prop :=
  P.oV 18 (evBuiltin T0 Tr.nil .len [78] [a0]) fun t18 =>
  P.oL [0, 4, 1] (fun (next : C3) t0 t4 t1 sx1 =>
  P.oV 20 (evBin T0 .geq 3 true t4 (.i .i64 8)) fun t20 =>
  P.oI t20 (P.oV 22 (evBin T0 .rem 98 true t1 (.i .u64 100000000)) fun t22 =>
   P.oV 23 (evConv T0 sx1.h 98 107 t22) fun t23 =>
   P.oV 25 (evBin T0 .quo 98 true t1 (.i .u64 100000000)) fun t25 =>
   P.oV 27 (evBin T0 .quo 107 true t23 (.i .u32 10000)) fun t27 =>
   P.oV 29 (evBin T0 .rem 107 true t23 (.i .u32 10000)) fun t29 =>
   P.oV 31 (evBin T0 .quo 107 true t29 (.i .u32 100)) fun t31 =>
   P.oV 32 (evBin T0 .mul 107 true t31 (.i .u32 2)) fun t32 =>
   P.oV 34 (evBin T0 .rem 107 true t29 (.i .u32 100)) fun t34 =>
   P.oV 35 (evBin T0 .mul 107 true t34 (.i .u32 2)) fun t35 =>
   P.oV 37 (evBin T0 .quo 107 true t27 (.i .u32 100)) fun t37 =>
   P.oV 38 (evBin T0 .mul 107 true t37 (.i .u32 2)) fun t38 =>
   P.oV 40 (evBin T0 .rem 107 true t27 (.i .u32 100)) fun t40 =>
   P.oV 41 (evBin T0 .mul 107 true t40 (.i .u32 2)) fun t41 =>
   P.oV 44 (evBin T0 .sub 3 true t4 (.i .i64 1)) fun t44 =>
   P.oV 47 (evBin T0 .sub 3 true t4 (.i .i64 2)) fun t47 =>
   P.oV 49 (evBin T0 .add 107 true t35 (.i .u32 1)) fun t49 =>
   P.oV 50 (evIndex T0 9 (.s [48, 48, 48, 49, 48, 50, 48, 51, 48, 52, 48, 53, 48, 54, 48, 55, 48, 56, 48, 57, 49, 48, 49, 49, 49, 50, 49, 51, 49, 52, 49, 53, 49, 54, 49, 55, 49, 56, 49, 57, 50, 48, 50, 49, 50, 50, 50, 51, 50, 52, 50, 53, 50, 54, 50, 55, 50, 56, 50, 57, 51, 48, 51, 49, 51, 50, 51, 51, 51, 52, 51, 53, 51, 54, 51, 55, 51, 56, 51, 57, 52, 48, 52, 49, 52, 50, 52, 51, 52, 52, 52, 53, 52, 54, 52, 55, 52, 56, 52, 57, 53, 48, 53, 49, 53, 50, 53, 51, 53, 52, 53, 53, 53, 54, 53, 55, 53, 56, 53, 57, 54, 48, 54, 49, 54, 50, 54, 51, 54, 52, 54, 53, 54, 54, 54, 55, 54, 56, 54, 57, 55, 48, 55, 49, 55, 50, 55, 51, 55, 52, 55, 53, 55, 54, 55, 55, 55, 56, 55, 57, 56, 48, 56, 49, 56, 50, 56, 51, 56, 52, 56, 53, 56, 54, 56, 55, 56, 56, 56, 57, 57, 48, 57, 49, 57, 50, 57, 51, 57, 52, 57, 53, 57, 54, 57, 55, 57, 56, 57, 57]) t49) fun t50 =>
   P.oV 52 (evIndex T0 9 (.s [48, 48, 48, 49, 48, 50, 48, 51, 48, 52, 48, 53, 48, 54, 48, 55, 48, 56, 48, 57, 49, 48, 49, 49, 49, 50, 49, 51, 49, 52, 49, 53, 49, 54, 49, 55, 49, 56, 49, 57, 50, 48, 50, 49, 50, 50, 50, 51, 50, 52, 50, 53, 50, 54, 50, 55, 50, 56, 50, 57, 51, 48, 51, 49, 51, 50, 51, 51, 51, 52, 51, 53, 51, 54, 51, 55, 51, 56, 51, 57, 52, 48, 52, 49, 52, 50, 52, 51, 52, 52, 52, 53, 52, 54, 52, 55, 52, 56, 52, 57, 53, 48, 53, 49, 53, 50, 53, 51, 53, 52, 53, 53, 53, 54, 53, 55, 53, 56, 53, 57, 54, 48, 54, 49, 54, 50, 54, 51, 54, 52, 54, 53, 54, 54, 54, 55, 54, 56, 54, 57, 55, 48, 55, 49, 55, 50, 55, 51, 55, 52, 55, 53, 55, 54, 55, 55, 55, 56, 55, 57, 56, 48, 56, 49, 56, 50, 56, 51, 56, 52, 56, 53, 56, 54, 56, 55, 56, 56, 56, 57, 57, 48, 57, 49, 57, 50, 57, 51, 57, 52, 57, 53, 57, 54, 57, 55, 57, 56, 57, 57]) t35) fun t52 =>
   P.oV 53 (evIndexAddr T0 78 t0 t44) fun t53 =>
   P.oD (storeA T0 sx1.h 5 t53 t50) fun i b =>
   P.oT ((rdsOK sx1.n (befG [[], [], [1], [], [], [4], [], [6], [6, 7], [], [9], [6, 7, 8, 1, 2, 0], [6, 7, 8, 1, 2, 0, 11], [6, 7, 8, 1, 2, 0, 11, 12, 9, 10, 4, 5, 3], [6, 7, 8, 1, 2, 0, 11, 12, 9, 10, 4, 5, 3, 13]]) [6, 7, 8, 1, 2, 0, 11] [] i [11, 10, 9, 8, 7, 6, 5, 4, 3, 2, 1, 0]) && (wrsOK [6, 7, 8, 1, 2, 0, 11] i [])) (P.oT (readOK sx1.n [6, 7, 8, 1, 2, 0, 11, 12, 9, 10, 4, 5, 3] [(12, (i, (some b)))] [(12, (i, (some b)))]) (P.oV 54 (evIndexAddr T0 78 t0 t47) fun t54 =>
   P.oT (readOK sx1.n [6, 7, 8, 1, 2, 0, 11, 12, 9, 10, 4, 5, 3, 13] [(12, (i, (some b)))] [(12, (i, (some b)))]) (P.oD (storeA T0 (sx1.h.put i (some b)) 5 t54 t52) fun ix1 bx1 =>
   P.oT ((rdsOK sx1.n (befG [[], [], [1], [], [], [4], [], [6], [6, 7], [], [9], [6, 7, 8, 1, 2, 0], [6, 7, 8, 1, 2, 0, 11], [6, 7, 8, 1, 2, 0, 11, 12, 9, 10, 4, 5, 3], [6, 7, 8, 1, 2, 0, 11, 12, 9, 10, 4, 5, 3, 13]]) [6, 7, 8, 1, 2, 0, 11, 12, 9, 10, 4, 5, 3, 13] [(12, (i, (some b)))] ix1 [13, 11, 10, 9, 8, 7, 6, 5, 4, 3, 2, 1, 0]) && (wrsOK [6, 7, 8, 1, 2, 0, 11, 12, 9, 10, 4, 5, 3, 13] ix1 [(12, (i, (some b)))])) (P.oS ⟨((sx1.h.put i (some b)).put ix1 (some bx1)), sx1.n⟩ fun sx2 =>
   P.oV 57 (evBin T0 .sub 3 true t4 (.i .i64 3)) fun t57 =>
   P.oV 60 (evBin T0 .sub 3 true t4 (.i .i64 4)) fun t60 =>
   P.oV 62 (evBin T0 .add 107 true t32 (.i .u32 1)) fun t62 =>
   P.oV 63 (evIndex T0 9 (.s [48, 48, 48, 49, 48, 50, 48, 51, 48, 52, 48, 53, 48, 54, 48, 55, 48, 56, 48, 57, 49, 48, 49, 49, 49, 50, 49, 51, 49, 52, 49, 53, 49, 54, 49, 55, 49, 56, 49, 57, 50, 48, 50, 49, 50, 50, 50, 51, 50, 52, 50, 53, 50, 54, 50, 55, 50, 56, 50, 57, 51, 48, 51, 49, 51, 50, 51, 51, 51, 52, 51, 53, 51, 54, 51, 55, 51, 56, 51, 57, 52, 48, 52, 49, 52, 50, 52, 51, 52, 52, 52, 53, 52, 54, 52, 55, 52, 56, 52, 57, 53, 48, 53, 49, 53, 50, 53, 51, 53, 52, 53, 53, 53, 54, 53, 55, 53, 56, 53, 57, 54, 48, 54, 49, 54, 50, 54, 51, 54, 52, 54, 53, 54, 54, 54, 55, 54, 56, 54, 57, 55, 48, 55, 49, 55, 50, 55, 51, 55, 52, 55, 53, 55, 54, 55, 55, 55, 56, 55, 57, 56, 48, 56, 49, 56, 50, 56, 51, 56, 52, 56, 53, 56, 54, 56, 55, 56, 56, 56, 57, 57, 48, 57, 49, 57, 50, 57, 51, 57, 52, 57, 53, 57, 54, 57, 55, 57, 56, 57, 57]) t62) fun t63 =>
   P.oV 65 (evIndex T0 9 (.s [48, 48, 48, 49, 48, 50, 48, 51, 48, 52, 48, 53, 48, 54, 48, 55, 48, 56, 48, 57, 49, 48, 49, 49, 49, 50, 49, 51, 49, 52, 49, 53, 49, 54, 49, 55, 49, 56, 49, 57, 50, 48, 50, 49, 50, 50, 50, 51, 50, 52, 50, 53, 50, 54, 50, 55, 50, 56, 50, 57, 51, 48, 51, 49, 51, 50, 51, 51, 51, 52, 51, 53, 51, 54, 51, 55, 51, 56, 51, 57, 52, 48, 52, 49, 52, 50, 52, 51, 52, 52, 52, 53, 52, 54, 52, 55, 52, 56, 52, 57, 53, 48, 53, 49, 53, 50, 53, 51, 53, 52, 53, 53, 53, 54, 53, 55, 53, 56, 53, 57, 54, 48, 54, 49, 54, 50, 54, 51, 54, 52, 54, 53, 54, 54, 54, 55, 54, 56, 54, 57, 55, 48, 55, 49, 55, 50, 55, 51, 55, 52, 55, 53, 55, 54, 55, 55, 55, 56, 55, 57, 56, 48, 56, 49, 56, 50, 56, 51, 56, 52, 56, 53, 56, 54, 56, 55, 56, 56, 56, 57, 57, 48, 57, 49, 57, 50, 57, 51, 57, 52, 57, 53, 57, 54, 57, 55, 57, 56, 57, 57]) t32) fun t65 =>
   P.oV 66 (evIndexAddr T0 78 t0 t57) fun t66 =>
   P.oD (storeA T0 sx2.h 5 t66 t63) fun ix2 bx2 =>
   P.oT ((rdsOK sx2.n (befG [[], [], [1], [], [], [4], [], [6], [6, 7], [], [9], [6, 7, 8, 1, 2, 0], [6, 7, 8, 1, 2, 0, 11], [6, 7, 8, 1, 2, 0, 11, 12, 9, 10, 4, 5, 3], [6, 7, 8, 1, 2, 0, 11, 12, 9, 10, 4, 5, 3, 13]]) [6, 7, 8, 1, 2, 0, 11] [] ix2 [11, 10, 9, 8, 7, 6, 5, 4, 3, 2, 1, 0]) && (wrsOK [6, 7, 8, 1, 2, 0, 11] ix2 [])) (P.oT (readOK sx2.n [6, 7, 8, 1, 2, 0, 11, 12, 9, 10, 4, 5, 3] [(12, (ix2, (some bx2)))] [(12, (ix2, (some bx2)))]) (P.oV 67 (evIndexAddr T0 78 t0 t60) fun t67 =>
   P.oT (readOK sx2.n [6, 7, 8, 1, 2, 0, 11, 12, 9, 10, 4, 5, 3, 13] [(12, (ix2, (some bx2)))] [(12, (ix2, (some bx2)))]) (P.oD (storeA T0 (sx2.h.put ix2 (some bx2)) 5 t67 t65) fun ix3 bx3 =>
   P.oT ((rdsOK sx2.n (befG [[], [], [1], [], [], [4], [], [6], [6, 7], [], [9], [6, 7, 8, 1, 2, 0], [6, 7, 8, 1, 2, 0, 11], [6, 7, 8, 1, 2, 0, 11, 12, 9, 10, 4, 5, 3], [6, 7, 8, 1, 2, 0, 11, 12, 9, 10, 4, 5, 3, 13]]) [6, 7, 8, 1, 2, 0, 11, 12, 9, 10, 4, 5, 3, 13] [(12, (ix2, (some bx2)))] ix3 [13, 11, 10, 9, 8, 7, 6, 5, 4, 3, 2, 1, 0]) && (wrsOK [6, 7, 8, 1, 2, 0, 11, 12, 9, 10, 4, 5, 3, 13] ix3 [(12, (ix2, (some bx2)))])) (P.oS ⟨((sx2.h.put ix2 (some bx2)).put ix3 (some bx3)), sx2.n⟩ fun sx3 =>
   P.oV 70 (evBin T0 .sub 3 true t4 (.i .i64 5)) fun t70 =>
   P.oV 73 (evBin T0 .sub 3 true t4 (.i .i64 6)) fun t73 =>
   P.oV 75 (evBin T0 .add 107 true t41 (.i .u32 1)) fun t75 =>
   P.oV 76 (evIndex T0 9 (.s [48, 48, 48, 49, 48, 50, 48, 51, 48, 52, 48, 53, 48, 54, 48, 55, 48, 56, 48, 57, 49, 48, 49, 49, 49, 50, 49, 51, 49, 52, 49, 53, 49, 54, 49, 55, 49, 56, 49, 57, 50, 48, 50, 49, 50, 50, 50, 51, 50, 52, 50, 53, 50, 54, 50, 55, 50, 56, 50, 57, 51, 48, 51, 49, 51, 50, 51, 51, 51, 52, 51, 53, 51, 54, 51, 55, 51, 56, 51, 57, 52, 48, 52, 49, 52, 50, 52, 51, 52, 52, 52, 53, 52, 54, 52, 55, 52, 56, 52, 57, 53, 48, 53, 49, 53, 50, 53, 51, 53, 52, 53, 53, 53, 54, 53, 55, 53, 56, 53, 57, 54, 48, 54, 49, 54, 50, 54, 51, 54, 52, 54, 53, 54, 54, 54, 55, 54, 56, 54, 57, 55, 48, 55, 49, 55, 50, 55, 51, 55, 52, 55, 53, 55, 54, 55, 55, 55, 56, 55, 57, 56, 48, 56, 49, 56, 50, 56, 51, 56, 52, 56, 53, 56, 54, 56, 55, 56, 56, 56, 57, 57, 48, 57, 49, 57, 50, 57, 51, 57, 52, 57, 53, 57, 54, 57, 55, 57, 56, 57, 57]) t75) fun t76 =>
   P.oV 78 (evIndex T0 9 (.s [48, 48, 48, 49, 48, 50, 48, 51, 48, 52, 48, 53, 48, 54, 48, 55, 48, 56, 48, 57, 49, 48, 49, 49, 49, 50, 49, 51, 49, 52, 49, 53, 49, 54, 49, 55, 49, 56, 49, 57, 50, 48, 50, 49, 50, 50, 50, 51, 50, 52, 50, 53, 50, 54, 50, 55, 50, 56, 50, 57, 51, 48, 51, 49, 51, 50, 51, 51, 51, 52, 51, 53, 51, 54, 51, 55, 51, 56, 51, 57, 52, 48, 52, 49, 52, 50, 52, 51, 52, 52, 52, 53, 52, 54, 52, 55, 52, 56, 52, 57, 53, 48, 53, 49, 53, 50, 53, 51, 53, 52, 53, 53, 53, 54, 53, 55, 53, 56, 53, 57, 54, 48, 54, 49, 54, 50, 54, 51, 54, 52, 54, 53, 54, 54, 54, 55, 54, 56, 54, 57, 55, 48, 55, 49, 55, 50, 55, 51, 55, 52, 55, 53, 55, 54, 55, 55, 55, 56, 55, 57, 56, 48, 56, 49, 56, 50, 56, 51, 56, 52, 56, 53, 56, 54, 56, 55, 56, 56, 56, 57, 57, 48, 57, 49, 57, 50, 57, 51, 57, 52, 57, 53, 57, 54, 57, 55, 57, 56, 57, 57]) t41) fun t78 =>
   P.oV 79 (evIndexAddr T0 78 t0 t70) fun t79 =>
   P.oD (storeA T0 sx3.h 5 t79 t76) fun ix4 bx4 =>
   P.oT ((rdsOK sx3.n (befG [[], [], [1], [], [], [4], [], [6], [6, 7], [], [9], [6, 7, 8, 1, 2, 0], [6, 7, 8, 1, 2, 0, 11], [6, 7, 8, 1, 2, 0, 11, 12, 9, 10, 4, 5, 3], [6, 7, 8, 1, 2, 0, 11, 12, 9, 10, 4, 5, 3, 13]]) [6, 7, 8, 1, 2, 0, 11] [] ix4 [11, 10, 9, 8, 7, 6, 5, 4, 3, 2, 1, 0]) && (wrsOK [6, 7, 8, 1, 2, 0, 11] ix4 [])) (P.oT (readOK sx3.n [6, 7, 8, 1, 2, 0, 11, 12, 9, 10, 4, 5, 3] [(12, (ix4, (some bx4)))] [(12, (ix4, (some bx4)))]) (P.oV 80 (evIndexAddr T0 78 t0 t73) fun t80 =>
   P.oT (readOK sx3.n [6, 7, 8, 1, 2, 0, 11, 12, 9, 10, 4, 5, 3, 13] [(12, (ix4, (some bx4)))] [(12, (ix4, (some bx4)))]) (P.oD (storeA T0 (sx3.h.put ix4 (some bx4)) 5 t80 t78) fun ix5 bx5 =>
   P.oT ((rdsOK sx3.n (befG [[], [], [1], [], [], [4], [], [6], [6, 7], [], [9], [6, 7, 8, 1, 2, 0], [6, 7, 8, 1, 2, 0, 11], [6, 7, 8, 1, 2, 0, 11, 12, 9, 10, 4, 5, 3], [6, 7, 8, 1, 2, 0, 11, 12, 9, 10, 4, 5, 3, 13]]) [6, 7, 8, 1, 2, 0, 11, 12, 9, 10, 4, 5, 3, 13] [(12, (ix4, (some bx4)))] ix5 [13, 11, 10, 9, 8, 7, 6, 5, 4, 3, 2, 1, 0]) && (wrsOK [6, 7, 8, 1, 2, 0, 11, 12, 9, 10, 4, 5, 3, 13] ix5 [(12, (ix4, (some bx4)))])) (P.oS ⟨((sx3.h.put ix4 (some bx4)).put ix5 (some bx5)), sx3.n⟩ fun sx4 =>
   P.oV 83 (evBin T0 .sub 3 true t4 (.i .i64 7)) fun t83 =>
   P.oV 86 (evBin T0 .sub 3 true t4 (.i .i64 8)) fun t86 =>
   P.oV 88 (evBin T0 .add 107 true t38 (.i .u32 1)) fun t88 =>
   P.oV 89 (evIndex T0 9 (.s [48, 48, 48, 49, 48, 50, 48, 51, 48, 52, 48, 53, 48, 54, 48, 55, 48, 56, 48, 57, 49, 48, 49, 49, 49, 50, 49, 51, 49, 52, 49, 53, 49, 54, 49, 55, 49, 56, 49, 57, 50, 48, 50, 49, 50, 50, 50, 51, 50, 52, 50, 53, 50, 54, 50, 55, 50, 56, 50, 57, 51, 48, 51, 49, 51, 50, 51, 51, 51, 52, 51, 53, 51, 54, 51, 55, 51, 56, 51, 57, 52, 48, 52, 49, 52, 50, 52, 51, 52, 52, 52, 53, 52, 54, 52, 55, 52, 56, 52, 57, 53, 48, 53, 49, 53, 50, 53, 51, 53, 52, 53, 53, 53, 54, 53, 55, 53, 56, 53, 57, 54, 48, 54, 49, 54, 50, 54, 51, 54, 52, 54, 53, 54, 54, 54, 55, 54, 56, 54, 57, 55, 48, 55, 49, 55, 50, 55, 51, 55, 52, 55, 53, 55, 54, 55, 55, 55, 56, 55, 57, 56, 48, 56, 49, 56, 50, 56, 51, 56, 52, 56, 53, 56, 54, 56, 55, 56, 56, 56, 57, 57, 48, 57, 49, 57, 50, 57, 51, 57, 52, 57, 53, 57, 54, 57, 55, 57, 56, 57, 57]) t88) fun t89 =>
   P.oV 91 (evIndex T0 9 (.s [48, 48, 48, 49, 48, 50, 48, 51, 48, 52, 48, 53, 48, 54, 48, 55, 48, 56, 48, 57, 49, 48, 49, 49, 49, 50, 49, 51, 49, 52, 49, 53, 49, 54, 49, 55, 49, 56, 49, 57, 50, 48, 50, 49, 50, 50, 50, 51, 50, 52, 50, 53, 50, 54, 50, 55, 50, 56, 50, 57, 51, 48, 51, 49, 51, 50, 51, 51, 51, 52, 51, 53, 51, 54, 51, 55, 51, 56, 51, 57, 52, 48, 52, 49, 52, 50, 52, 51, 52, 52, 52, 53, 52, 54, 52, 55, 52, 56, 52, 57, 53, 48, 53, 49, 53, 50, 53, 51, 53, 52, 53, 53, 53, 54, 53, 55, 53, 56, 53, 57, 54, 48, 54, 49, 54, 50, 54, 51, 54, 52, 54, 53, 54, 54, 54, 55, 54, 56, 54, 57, 55, 48, 55, 49, 55, 50, 55, 51, 55, 52, 55, 53, 55, 54, 55, 55, 55, 56, 55, 57, 56, 48, 56, 49, 56, 50, 56, 51, 56, 52, 56, 53, 56, 54, 56, 55, 56, 56, 56, 57, 57, 48, 57, 49, 57, 50, 57, 51, 57, 52, 57, 53, 57, 54, 57, 55, 57, 56, 57, 57]) t38) fun t91 =>
   P.oV 92 (evIndexAddr T0 78 t0 t83) fun t92 =>
   P.oD (storeA T0 sx4.h 5 t92 t89) fun ix6 bx6 =>
   P.oT ((rdsOK sx4.n (befG [[], [], [1], [], [], [4], [], [6], [6, 7], [], [9], [6, 7, 8, 1, 2, 0], [6, 7, 8, 1, 2, 0, 11], [6, 7, 8, 1, 2, 0, 11, 12, 9, 10, 4, 5, 3], [6, 7, 8, 1, 2, 0, 11, 12, 9, 10, 4, 5, 3, 13]]) [6, 7, 8, 1, 2, 0, 11] [] ix6 [11, 10, 9, 8, 7, 6, 5, 4, 3, 2, 1, 0]) && (wrsOK [6, 7, 8, 1, 2, 0, 11] ix6 [])) (P.oT (readOK sx4.n [6, 7, 8, 1, 2, 0, 11, 12, 9, 10, 4, 5, 3] [(12, (ix6, (some bx6)))] [(12, (ix6, (some bx6)))]) (P.oV 93 (evIndexAddr T0 78 t0 t86) fun t93 =>
   P.oT (readOK sx4.n [6, 7, 8, 1, 2, 0, 11, 12, 9, 10, 4, 5, 3, 13] [(12, (ix6, (some bx6)))] [(12, (ix6, (some bx6)))]) (P.oD (storeA T0 (sx4.h.put ix6 (some bx6)) 5 t93 t91) fun ix7 bx7 =>
   P.oT ((rdsOK sx4.n (befG [[], [], [1], [], [], [4], [], [6], [6, 7], [], [9], [6, 7, 8, 1, 2, 0], [6, 7, 8, 1, 2, 0, 11], [6, 7, 8, 1, 2, 0, 11, 12, 9, 10, 4, 5, 3], [6, 7, 8, 1, 2, 0, 11, 12, 9, 10, 4, 5, 3, 13]]) [6, 7, 8, 1, 2, 0, 11, 12, 9, 10, 4, 5, 3, 13] [(12, (ix6, (some bx6)))] ix7 [13, 11, 10, 9, 8, 7, 6, 5, 4, 3, 2, 1, 0]) && (wrsOK [6, 7, 8, 1, 2, 0, 11, 12, 9, 10, 4, 5, 3, 13] ix7 [(12, (ix6, (some bx6)))])) (P.oS ⟨((sx4.h.put ix6 (some bx6)).put ix7 (some bx7)), sx4.n⟩ fun sx5 =>
   P.oV 95 (evBin T0 .sub 3 true t4 (.i .i64 8)) fun t95 =>
   next t0 t95 t25 sx5)))))))))))))))))
  (P.oV 97 (evConv T0 sx1.h 98 107 t1) fun t97 =>
   P.oJ [12, 0, 4] (fun (k : C3) =>
    P.oV 99 (evBin T0 .geq 3 true t4 (.i .i64 4)) fun t99 =>
    P.oI t99 (P.oV 101 (evBin T0 .rem 107 true t97 (.i .u32 10000)) fun t101 =>
     P.oV 103 (evBin T0 .quo 107 true t97 (.i .u32 10000)) fun t103 =>
     P.oV 105 (evBin T0 .quo 107 true t101 (.i .u32 100)) fun t105 =>
     P.oV 106 (evBin T0 .mul 107 true t105 (.i .u32 2)) fun t106 =>
     P.oV 108 (evBin T0 .rem 107 true t101 (.i .u32 100)) fun t108 =>
     P.oV 109 (evBin T0 .mul 107 true t108 (.i .u32 2)) fun t109 =>
     P.oV 112 (evBin T0 .sub 3 true t4 (.i .i64 1)) fun t112 =>
     P.oV 115 (evBin T0 .sub 3 true t4 (.i .i64 2)) fun t115 =>
     P.oV 117 (evBin T0 .add 107 true t109 (.i .u32 1)) fun t117 =>
     P.oV 118 (evIndex T0 9 (.s [48, 48, 48, 49, 48, 50, 48, 51, 48, 52, 48, 53, 48, 54, 48, 55, 48, 56, 48, 57, 49, 48, 49, 49, 49, 50, 49, 51, 49, 52, 49, 53, 49, 54, 49, 55, 49, 56, 49, 57, 50, 48, 50, 49, 50, 50, 50, 51, 50, 52, 50, 53, 50, 54, 50, 55, 50, 56, 50, 57, 51, 48, 51, 49, 51, 50, 51, 51, 51, 52, 51, 53, 51, 54, 51, 55, 51, 56, 51, 57, 52, 48, 52, 49, 52, 50, 52, 51, 52, 52, 52, 53, 52, 54, 52, 55, 52, 56, 52, 57, 53, 48, 53, 49, 53, 50, 53, 51, 53, 52, 53, 53, 53, 54, 53, 55, 53, 56, 53, 57, 54, 48, 54, 49, 54, 50, 54, 51, 54, 52, 54, 53, 54, 54, 54, 55, 54, 56, 54, 57, 55, 48, 55, 49, 55, 50, 55, 51, 55, 52, 55, 53, 55, 54, 55, 55, 55, 56, 55, 57, 56, 48, 56, 49, 56, 50, 56, 51, 56, 52, 56, 53, 56, 54, 56, 55, 56, 56, 56, 57, 57, 48, 57, 49, 57, 50, 57, 51, 57, 52, 57, 53, 57, 54, 57, 55, 57, 56, 57, 57]) t117) fun t118 =>
     P.oV 120 (evIndex T0 9 (.s [48, 48, 48, 49, 48, 50, 48, 51, 48, 52, 48, 53, 48, 54, 48, 55, 48, 56, 48, 57, 49, 48, 49, 49, 49, 50, 49, 51, 49, 52, 49, 53, 49, 54, 49, 55, 49, 56, 49, 57, 50, 48, 50, 49, 50, 50, 50, 51, 50, 52, 50, 53, 50, 54, 50, 55, 50, 56, 50, 57, 51, 48, 51, 49, 51, 50, 51, 51, 51, 52, 51, 53, 51, 54, 51, 55, 51, 56, 51, 57, 52, 48, 52, 49, 52, 50, 52, 51, 52, 52, 52, 53, 52, 54, 52, 55, 52, 56, 52, 57, 53, 48, 53, 49, 53, 50, 53, 51, 53, 52, 53, 53, 53, 54, 53, 55, 53, 56, 53, 57, 54, 48, 54, 49, 54, 50, 54, 51, 54, 52, 54, 53, 54, 54, 54, 55, 54, 56, 54, 57, 55, 48, 55, 49, 55, 50, 55, 51, 55, 52, 55, 53, 55, 54, 55, 55, 55, 56, 55, 57, 56, 48, 56, 49, 56, 50, 56, 51, 56, 52, 56, 53, 56, 54, 56, 55, 56, 56, 56, 57, 57, 48, 57, 49, 57, 50, 57, 51, 57, 52, 57, 53, 57, 54, 57, 55, 57, 56, 57, 57]) t109) fun t120 =>
     P.oV 121 (evIndexAddr T0 78 t0 t112) fun t121 =>
     P.oD (storeA T0 sx1.h 5 t121 t118) fun i b =>
     P.oT ((rdsOK sx1.n (befG [[], [], [1], [], [], [4], [], [6], [6, 7], [], [9], [6, 7, 8, 1, 2, 0], [6, 7, 8, 1, 2, 0, 11], [6, 7, 8, 1, 2, 0, 11, 12, 9, 10, 4, 5, 3], [6, 7, 8, 1, 2, 0, 11, 12, 9, 10, 4, 5, 3, 13]]) [6, 7, 8, 1, 2, 0, 11] [] i [11, 10, 9, 8, 7, 6, 5, 4, 3, 2, 1, 0]) && (wrsOK [6, 7, 8, 1, 2, 0, 11] i [])) (P.oT (readOK sx1.n [6, 7, 8, 1, 2, 0, 11, 12, 9, 10, 4, 5, 3] [(12, (i, (some b)))] [(12, (i, (some b)))]) (P.oV 122 (evIndexAddr T0 78 t0 t115) fun t122 =>
     P.oT (readOK sx1.n [6, 7, 8, 1, 2, 0, 11, 12, 9, 10, 4, 5, 3, 13] [(12, (i, (some b)))] [(12, (i, (some b)))]) (P.oD (storeA T0 (sx1.h.put i (some b)) 5 t122 t120) fun ix1 bx1 =>
     P.oT ((rdsOK sx1.n (befG [[], [], [1], [], [], [4], [], [6], [6, 7], [], [9], [6, 7, 8, 1, 2, 0], [6, 7, 8, 1, 2, 0, 11], [6, 7, 8, 1, 2, 0, 11, 12, 9, 10, 4, 5, 3], [6, 7, 8, 1, 2, 0, 11, 12, 9, 10, 4, 5, 3, 13]]) [6, 7, 8, 1, 2, 0, 11, 12, 9, 10, 4, 5, 3, 13] [(12, (i, (some b)))] ix1 [13, 11, 10, 9, 8, 7, 6, 5, 4, 3, 2, 1, 0]) && (wrsOK [6, 7, 8, 1, 2, 0, 11, 12, 9, 10, 4, 5, 3, 13] ix1 [(12, (i, (some b)))])) (P.oS ⟨((sx1.h.put i (some b)).put ix1 (some bx1)), sx1.n⟩ fun sx2 =>
     P.oV 125 (evBin T0 .sub 3 true t4 (.i .i64 3)) fun t125 =>
     P.oV 128 (evBin T0 .sub 3 true t4 (.i .i64 4)) fun t128 =>
     P.oV 130 (evBin T0 .add 107 true t106 (.i .u32 1)) fun t130 =>
     P.oV 131 (evIndex T0 9 (.s [48, 48, 48, 49, 48, 50, 48, 51, 48, 52, 48, 53, 48, 54, 48, 55, 48, 56, 48, 57, 49, 48, 49, 49, 49, 50, 49, 51, 49, 52, 49, 53, 49, 54, 49, 55, 49, 56, 49, 57, 50, 48, 50, 49, 50, 50, 50, 51, 50, 52, 50, 53, 50, 54, 50, 55, 50, 56, 50, 57, 51, 48, 51, 49, 51, 50, 51, 51, 51, 52, 51, 53, 51, 54, 51, 55, 51, 56, 51, 57, 52, 48, 52, 49, 52, 50, 52, 51, 52, 52, 52, 53, 52, 54, 52, 55, 52, 56, 52, 57, 53, 48, 53, 49, 53, 50, 53, 51, 53, 52, 53, 53, 53, 54, 53, 55, 53, 56, 53, 57, 54, 48, 54, 49, 54, 50, 54, 51, 54, 52, 54, 53, 54, 54, 54, 55, 54, 56, 54, 57, 55, 48, 55, 49, 55, 50, 55, 51, 55, 52, 55, 53, 55, 54, 55, 55, 55, 56, 55, 57, 56, 48, 56, 49, 56, 50, 56, 51, 56, 52, 56, 53, 56, 54, 56, 55, 56, 56, 56, 57, 57, 48, 57, 49, 57, 50, 57, 51, 57, 52, 57, 53, 57, 54, 57, 55, 57, 56, 57, 57]) t130) fun t131 =>
     P.oV 133 (evIndex T0 9 (.s [48, 48, 48, 49, 48, 50, 48, 51, 48, 52, 48, 53, 48, 54, 48, 55, 48, 56, 48, 57, 49, 48, 49, 49, 49, 50, 49, 51, 49, 52, 49, 53, 49, 54, 49, 55, 49, 56, 49, 57, 50, 48, 50, 49, 50, 50, 50, 51, 50, 52, 50, 53, 50, 54, 50, 55, 50, 56, 50, 57, 51, 48, 51, 49, 51, 50, 51, 51, 51, 52, 51, 53, 51, 54, 51, 55, 51, 56, 51, 57, 52, 48, 52, 49, 52, 50, 52, 51, 52, 52, 52, 53, 52, 54, 52, 55, 52, 56, 52, 57, 53, 48, 53, 49, 53, 50, 53, 51, 53, 52, 53, 53, 53, 54, 53, 55, 53, 56, 53, 57, 54, 48, 54, 49, 54, 50, 54, 51, 54, 52, 54, 53, 54, 54, 54, 55, 54, 56, 54, 57, 55, 48, 55, 49, 55, 50, 55, 51, 55, 52, 55, 53, 55, 54, 55, 55, 55, 56, 55, 57, 56, 48, 56, 49, 56, 50, 56, 51, 56, 52, 56, 53, 56, 54, 56, 55, 56, 56, 56, 57, 57, 48, 57, 49, 57, 50, 57, 51, 57, 52, 57, 53, 57, 54, 57, 55, 57, 56, 57, 57]) t106) fun t133 =>
     P.oV 134 (evIndexAddr T0 78 t0 t125) fun t134 =>
     P.oD (storeA T0 sx2.h 5 t134 t131) fun ix2 bx2 =>
     P.oT ((rdsOK sx2.n (befG [[], [], [1], [], [], [4], [], [6], [6, 7], [], [9], [6, 7, 8, 1, 2, 0], [6, 7, 8, 1, 2, 0, 11], [6, 7, 8, 1, 2, 0, 11, 12, 9, 10, 4, 5, 3], [6, 7, 8, 1, 2, 0, 11, 12, 9, 10, 4, 5, 3, 13]]) [6, 7, 8, 1, 2, 0, 11] [] ix2 [11, 10, 9, 8, 7, 6, 5, 4, 3, 2, 1, 0]) && (wrsOK [6, 7, 8, 1, 2, 0, 11] ix2 [])) (P.oT (readOK sx2.n [6, 7, 8, 1, 2, 0, 11, 12, 9, 10, 4, 5, 3] [(12, (ix2, (some bx2)))] [(12, (ix2, (some bx2)))]) (P.oV 135 (evIndexAddr T0 78 t0 t128) fun t135 =>
     P.oT (readOK sx2.n [6, 7, 8, 1, 2, 0, 11, 12, 9, 10, 4, 5, 3, 13] [(12, (ix2, (some bx2)))] [(12, (ix2, (some bx2)))]) (P.oD (storeA T0 (sx2.h.put ix2 (some bx2)) 5 t135 t133) fun ix3 bx3 =>
     P.oT ((rdsOK sx2.n (befG [[], [], [1], [], [], [4], [], [6], [6, 7], [], [9], [6, 7, 8, 1, 2, 0], [6, 7, 8, 1, 2, 0, 11], [6, 7, 8, 1, 2, 0, 11, 12, 9, 10, 4, 5, 3], [6, 7, 8, 1, 2, 0, 11, 12, 9, 10, 4, 5, 3, 13]]) [6, 7, 8, 1, 2, 0, 11, 12, 9, 10, 4, 5, 3, 13] [(12, (ix2, (some bx2)))] ix3 [13, 11, 10, 9, 8, 7, 6, 5, 4, 3, 2, 1, 0]) && (wrsOK [6, 7, 8, 1, 2, 0, 11, 12, 9, 10, 4, 5, 3, 13] ix3 [(12, (ix2, (some bx2)))])) (P.oS ⟨((sx2.h.put ix2 (some bx2)).put ix3 (some bx3)), sx2.n⟩ fun sx3 =>
     P.oV 137 (evBin T0 .sub 3 true t4 (.i .i64 4)) fun t137 =>
     k t103 t0 t137 sx3)))))))))
    (k t97 t0 t4 sx1))
   (fun t12 t0x1 t4x1 sx2 =>
   P.oJ [12, 0, 4] (fun (k : C3) =>
    P.oV 139 (evBin T0 .geq 3 true t4x1 (.i .i64 2)) fun t139 =>
    P.oI t139 (P.oV 141 (evBin T0 .rem 107 true t12 (.i .u32 100)) fun t141 =>
     P.oV 142 (evBin T0 .mul 107 true t141 (.i .u32 2)) fun t142 =>
     P.oV 144 (evBin T0 .quo 107 true t12 (.i .u32 100)) fun t144 =>
     P.oV 147 (evBin T0 .sub 3 true t4x1 (.i .i64 1)) fun t147 =>
     P.oV 150 (evBin T0 .sub 3 true t4x1 (.i .i64 2)) fun t150 =>
     P.oV 152 (evBin T0 .add 107 true t142 (.i .u32 1)) fun t152 =>
     P.oV 153 (evIndex T0 9 (.s [48, 48, 48, 49, 48, 50, 48, 51, 48, 52, 48, 53, 48, 54, 48, 55, 48, 56, 48, 57, 49, 48, 49, 49, 49, 50, 49, 51, 49, 52, 49, 53, 49, 54, 49, 55, 49, 56, 49, 57, 50, 48, 50, 49, 50, 50, 50, 51, 50, 52, 50, 53, 50, 54, 50, 55, 50, 56, 50, 57, 51, 48, 51, 49, 51, 50, 51, 51, 51, 52, 51, 53, 51, 54, 51, 55, 51, 56, 51, 57, 52, 48, 52, 49, 52, 50, 52, 51, 52, 52, 52, 53, 52, 54, 52, 55, 52, 56, 52, 57, 53, 48, 53, 49, 53, 50, 53, 51, 53, 52, 53, 53, 53, 54, 53, 55, 53, 56, 53, 57, 54, 48, 54, 49, 54, 50, 54, 51, 54, 52, 54, 53, 54, 54, 54, 55, 54, 56, 54, 57, 55, 48, 55, 49, 55, 50, 55, 51, 55, 52, 55, 53, 55, 54, 55, 55, 55, 56, 55, 57, 56, 48, 56, 49, 56, 50, 56, 51, 56, 52, 56, 53, 56, 54, 56, 55, 56, 56, 56, 57, 57, 48, 57, 49, 57, 50, 57, 51, 57, 52, 57, 53, 57, 54, 57, 55, 57, 56, 57, 57]) t152) fun t153 =>
     P.oV 155 (evIndex T0 9 (.s [48, 48, 48, 49, 48, 50, 48, 51, 48, 52, 48, 53, 48, 54, 48, 55, 48, 56, 48, 57, 49, 48, 49, 49, 49, 50, 49, 51, 49, 52, 49, 53, 49, 54, 49, 55, 49, 56, 49, 57, 50, 48, 50, 49, 50, 50, 50, 51, 50, 52, 50, 53, 50, 54, 50, 55, 50, 56, 50, 57, 51, 48, 51, 49, 51, 50, 51, 51, 51, 52, 51, 53, 51, 54, 51, 55, 51, 56, 51, 57, 52, 48, 52, 49, 52, 50, 52, 51, 52, 52, 52, 53, 52, 54, 52, 55, 52, 56, 52, 57, 53, 48, 53, 49, 53, 50, 53, 51, 53, 52, 53, 53, 53, 54, 53, 55, 53, 56, 53, 57, 54, 48, 54, 49, 54, 50, 54, 51, 54, 52, 54, 53, 54, 54, 54, 55, 54, 56, 54, 57, 55, 48, 55, 49, 55, 50, 55, 51, 55, 52, 55, 53, 55, 54, 55, 55, 55, 56, 55, 57, 56, 48, 56, 49, 56, 50, 56, 51, 56, 52, 56, 53, 56, 54, 56, 55, 56, 56, 56, 57, 57, 48, 57, 49, 57, 50, 57, 51, 57, 52, 57, 53, 57, 54, 57, 55, 57, 56, 57, 57]) t142) fun t155 =>
     P.oV 156 (evIndexAddr T0 78 t0x1 t147) fun t156 =>
     P.oD (storeA T0 sx2.h 5 t156 t153) fun i b =>
     P.oT ((rdsOK sx2.n (befG [[], [], [1], [], [], [4], [], [6], [6, 7], [], [9], [6, 7, 8, 1, 2, 0], [6, 7, 8, 1, 2, 0, 11], [6, 7, 8, 1, 2, 0, 11, 12, 9, 10, 4, 5, 3], [6, 7, 8, 1, 2, 0, 11, 12, 9, 10, 4, 5, 3, 13]]) [6, 7, 8, 1, 2, 0, 11] [] i [11, 10, 9, 8, 7, 6, 5, 4, 3, 2, 1, 0]) && (wrsOK [6, 7, 8, 1, 2, 0, 11] i [])) (P.oT (readOK sx2.n [6, 7, 8, 1, 2, 0, 11, 12, 9, 10, 4, 5, 3] [(12, (i, (some b)))] [(12, (i, (some b)))]) (P.oV 157 (evIndexAddr T0 78 t0x1 t150) fun t157 =>
     P.oT (readOK sx2.n [6, 7, 8, 1, 2, 0, 11, 12, 9, 10, 4, 5, 3, 13] [(12, (i, (some b)))] [(12, (i, (some b)))]) (P.oD (storeA T0 (sx2.h.put i (some b)) 5 t157 t155) fun ix1 bx1 =>
     P.oT ((rdsOK sx2.n (befG [[], [], [1], [], [], [4], [], [6], [6, 7], [], [9], [6, 7, 8, 1, 2, 0], [6, 7, 8, 1, 2, 0, 11], [6, 7, 8, 1, 2, 0, 11, 12, 9, 10, 4, 5, 3], [6, 7, 8, 1, 2, 0, 11, 12, 9, 10, 4, 5, 3, 13]]) [6, 7, 8, 1, 2, 0, 11, 12, 9, 10, 4, 5, 3, 13] [(12, (i, (some b)))] ix1 [13, 11, 10, 9, 8, 7, 6, 5, 4, 3, 2, 1, 0]) && (wrsOK [6, 7, 8, 1, 2, 0, 11, 12, 9, 10, 4, 5, 3, 13] ix1 [(12, (i, (some b)))])) (P.oS ⟨((sx2.h.put i (some b)).put ix1 (some bx1)), sx2.n⟩ fun sx3 =>
     P.oV 159 (evBin T0 .sub 3 true t4x1 (.i .i64 2)) fun t159 =>
     k t144 t0x1 t159 sx3)))))
    (k t12 t0x1 t4x1 sx2))
   (fun t12x1 t0x2 t4x2 sx3 =>
   P.oV 161 (evBin T0 .gtr 3 true t4x2 (.i .i64 0)) fun t161 =>
   P.oI t161 (P.oV 164 (evBin T0 .add 107 true (.i .u32 48) t12x1) fun t164 =>
    P.oV 165 (evConv T0 sx3.h 107 5 t164) fun t165 =>
    P.oV 166 (evIndexAddr T0 78 t0x2 (.i .i64 0)) fun t166 =>
    P.oH (evStore T0 sx3.h 5 t166 t165) sx3 fun sx4 =>
    Q (.tup []) sx4)
   (Q (.tup []) sx3))))) a0 t18 a1 ⟨Tr.nil, 0⟩
theorem w85_eq (P : Prims) (a0 a1 : AV) (Q : AV → AS → Prop) : w85 P a0 a1 Q = vcBody P T0 Go.Proofs.Tryd.f85 (codeOf Go.Proofs.Tryd.f85) an85 [a0, a1] ⟨.nil, 0⟩ Q := by kernel_rfl
theorem r85 (a0 a1 : AV) {r : AV} (hi : AV.idfree.idfrees [a0, a1] = true) (hn : AV.norm.norms [a0, a1] = [a0, a1]) (h : w85 (prims T0) a0 a1 (fun r1 s1 => oZ T0 s1 r1 (fun r2 => r2 = r))) : R T0 85 [a0, a1] r :=
  R.mk (by kernel_rfl) (by kernel_rfl) (show T0.fn 85 = some Go.Proofs.Tryd.f85 by kernel_rfl) (by kernel_rfl) (by kernel_rfl) hi hn (by rw [w85_eq] at h; exact h)
/- internal/stringslite.IndexByte -/
def an88 : AN := (.seq none .leaf (.seq none .leaf .leaf))
def w88 (P : Prims) (a0 a1 : AV) (Q : AV → AS → Prop) : Prop :=
  P.oC 7 98 [a0, a1] ⟨Tr.nil, 0⟩ fun t7 sx1 =>
  Q t7 sx1
theorem w88_eq (P : Prims) (a0 a1 : AV) (Q : AV → AS → Prop) : w88 P a0 a1 Q = vcBody P T0 Go.Proofs.Tryd.f88 (codeOf Go.Proofs.Tryd.f88) an88 [a0, a1] ⟨.nil, 0⟩ Q := by kernel_rfl
theorem r88 (a0 a1 : AV) {r : AV} (hi : AV.idfree.idfrees [a0, a1] = true) (hn : AV.norm.norms [a0, a1] = [a0, a1]) (h : w88 (prims T0) a0 a1 (fun r1 s1 => oZ T0 s1 r1 (fun r2 => r2 = r))) : R T0 88 [a0, a1] r :=
  R.mk (by kernel_rfl) (by kernel_rfl) (show T0.fn 88 = some Go.Proofs.Tryd.f88 by kernel_rfl) (by kernel_rfl) (by kernel_rfl) hi hn (by rw [w88_eq] at h; exact h)
/- internal/bytealg.Cutover -/
def an90 : AN := (.seq none .leaf (.seq none .leaf .leaf))
def w90 (P : Prims) (a0 : AV) (Q : AV → AS → Prop) : Prop :=
  P.oV 4 (evBin T0 .add 3 true a0 (.i .i64 16)) fun t4 =>
  P.oV 5 (evBin T0 .quo 3 true t4 (.i .i64 8)) fun t5 =>
  Q t5 ⟨Tr.nil, 0⟩
theorem w90_eq (P : Prims) (a0 : AV) (Q : AV → AS → Prop) : w90 P a0 Q = vcBody P T0 Go.Proofs.Tryd.f90 (codeOf Go.Proofs.Tryd.f90) an90 [a0] ⟨.nil, 0⟩ Q := by kernel_rfl
theorem r90 (a0 : AV) {r : AV} (hi : AV.idfree.idfrees [a0] = true) (hn : AV.norm.norms [a0] = [a0]) (h : w90 (prims T0) a0 (fun r1 s1 => oZ T0 s1 r1 (fun r2 => r2 = r))) : R T0 90 [a0] r :=
  R.mk (by kernel_rfl) (by kernel_rfl) (show T0.fn 90 = some Go.Proofs.Tryd.f90 by kernel_rfl) (by kernel_rfl) (by kernel_rfl) hi hn (by rw [w90_eq] at h; exact h)
/- internal/bytealg.IndexRabinKarp[string] -/
def an91 : AN := (.seq none .leaf (.seq none .leaf (.seq none .leaf (.seq none .leaf (.seq none (.seq none .leaf (.one (.loop [7, 1, 0, 5, 6, 8, 9] (.seq none (.seq none .leaf (.two .leaf .leaf)) (.seq none (.one .leaf) .leaf))))) (.seq none (.seq none .leaf (.two (.seq none .leaf .leaf) .leaf)) (.seq none (.seq none .leaf (.one (.loop [7, 1, 0, 5, 6, 10, 8] (.seq none (.seq none .leaf (.two .leaf .leaf)) (.one (.seq none .leaf (.seq none .leaf (.seq none .leaf (.seq none .leaf (.seq none .leaf (.two (.seq none .leaf .leaf) .leaf))))))))))) (.seq none .leaf .leaf))))))))
def w91 (P : Prims) (a0 a1 : AV) (Q : AV → AS → Prop) : Prop :=
  P.oC 13 99 [a1] ⟨Tr.nil, 0⟩ fun t13 sx1 =>
  P.oV 14 (evExtract 0 t13) fun t14 =>
  P.oV 15 (evExtract 1 t13) fun t15 =>
  P.oV 17 (evBuiltin T0 sx1.h .len [9] [a1]) fun t17 =>
  P.oL [7, 1, 0, 5, 6, 8, 9] (fun (next : C7) t7 t1 t0 t5 t6 t8 t9 sx2 =>
  P.oV 20 (evBin T0 .lss 3 false t9 t7) fun t20 =>
  P.oI t20 (P.oV 24 (evBin T0 .mul 107 true t8 (.i .u32 16777619)) fun t24 =>
   P.oV 27 (evIndex T0 9 t0 t9) fun t27 =>
   P.oV 28 (evConv T0 sx2.h 5 107 t27) fun t28 =>
   P.oV 29 (evBin T0 .add 107 false t24 t28) fun t29 =>
   P.oV 22 (evBin T0 .add 3 true t9 (.i .i64 1)) fun t22 =>
   next t7 t1 t0 t5 t6 t29 t22 sx2)
  (P.oV 32 (evBin T0 .eql 107 false t8 t5) fun t32 =>
   P.oG [34, 35, 36, 37, 38] t32 true (fun (k : C5) => P.oV 36 (evSlice T0 9 t0 none (some t7) none) fun t36 =>
    P.oV 38 (evBin T0 .eql 9 false t36 t1) fun t38 =>
    k t0 t7 t36 t1 t38 sx2) sx2 fun t34 t35 t36 t37 t38 sx3 =>
   P.oV 39 (evPick t32 (some t38) (some (.b false))) fun t39 =>
   P.oI t39 (Q (.i .i64 0) sx3)
   (P.oL [7, 1, 0, 5, 6, 10, 8] (fun (nextx1 : C7) t7x1 t1x1 t0x1 t5x1 t6x1 t10 t8x1 sx4 =>
    P.oV 43 (evBuiltin T0 sx4.h .len [9] [t0x1]) fun t43 =>
    P.oV 44 (evBin T0 .lss 3 false t10 t43) fun t44 =>
    P.oI t44 (P.oV 46 (evBin T0 .mul 107 true t8x1 (.i .u32 16777619)) fun t46 =>
     P.oV 50 (evIndex T0 9 t0x1 t10) fun t50 =>
     P.oV 51 (evConv T0 sx4.h 5 107 t50) fun t51 =>
     P.oV 52 (evBin T0 .add 107 false t46 t51) fun t52 =>
     P.oV 58 (evBin T0 .sub 3 false t10 t7x1) fun t58 =>
     P.oV 59 (evIndex T0 9 t0x1 t58) fun t59 =>
     P.oV 60 (evConv T0 sx4.h 5 107 t59) fun t60 =>
     P.oV 61 (evBin T0 .mul 107 false t6x1 t60) fun t61 =>
     P.oV 62 (evBin T0 .sub 107 false t52 t61) fun t62 =>
     P.oV 64 (evBin T0 .add 3 true t10 (.i .i64 1)) fun t64 =>
     P.oV 67 (evBin T0 .eql 107 false t62 t5x1) fun t67 =>
     P.oG [69, 70, 71, 72, 73, 74, 75, 76] t67 true (fun (k : C8) => P.oV 72 (evBin T0 .sub 3 false t64 t7x1) fun t72 =>
      P.oV 74 (evSlice T0 9 t0x1 (some t72) (some t64) none) fun t74 =>
      P.oV 76 (evBin T0 .eql 9 false t74 t1x1) fun t76 =>
      k t0x1 t64 t7x1 t72 t64 t74 t1x1 t76 sx4) sx4 fun t69 t70 t71 t72 t73 t74 t75 t76 sx5 =>
     P.oV 77 (evPick t67 (some t76) (some (.b false))) fun t77 =>
     P.oI t77 (P.oV 80 (evBin T0 .sub 3 false t64 t7x1) fun t80 =>
      Q t80 sx5)
     (nextx1 t7x1 t1x1 t0x1 t5x1 t6x1 t64 t62 sx5))
    (Q (.i .i64 (-1)) sx4)) t7 t1 t0 t5 t6 t7 t8 sx3))) t17 a1 a0 t14 t15 (.i .u32 0) (.i .i64 0) sx1
theorem w91_eq (P : Prims) (a0 a1 : AV) (Q : AV → AS → Prop) : w91 P a0 a1 Q = vcBody P T0 Go.Proofs.Tryd.f91 (codeOf Go.Proofs.Tryd.f91) an91 [a0, a1] ⟨.nil, 0⟩ Q := by kernel_rfl
theorem r91 (a0 a1 : AV) {r : AV} (hi : AV.idfree.idfrees [a0, a1] = true) (hn : AV.norm.norms [a0, a1] = [a0, a1]) (h : w91 (prims T0) a0 a1 (fun r1 s1 => oZ T0 s1 r1 (fun r2 => r2 = r))) : R T0 91 [a0, a1] r :=
  R.mk (by kernel_rfl) (by kernel_rfl) (show T0.fn 91 = some Go.Proofs.Tryd.f91 by kernel_rfl) (by kernel_rfl) (by kernel_rfl) hi hn (by rw [w91_eq] at h; exact h)
/- internal/strconv.log10Pow2 -/
def an93 : AN := (.seq none .leaf (.seq none .leaf .leaf))
def w93 (P : Prims) (a0 : AV) (Q : AV → AS → Prop) : Prop :=
  P.oV 4 (evBin T0 .mul 3 true a0 (.i .i64 78913)) fun t4 =>
  P.oV 5 (evBin T0 .shr 3 true t4 (.i .u64 18)) fun t5 =>
  Q t5 ⟨Tr.nil, 0⟩
theorem w93_eq (P : Prims) (a0 : AV) (Q : AV → AS → Prop) : w93 P a0 Q = vcBody P T0 Go.Proofs.Tryd.f93 (codeOf Go.Proofs.Tryd.f93) an93 [a0] ⟨.nil, 0⟩ Q := by kernel_rfl
theorem r93 (a0 : AV) {r : AV} (hi : AV.idfree.idfrees [a0] = true) (hn : AV.norm.norms [a0] = [a0]) (h : w93 (prims T0) a0 (fun r1 s1 => oZ T0 s1 r1 (fun r2 => r2 = r))) : R T0 93 [a0] r :=
  R.mk (by kernel_rfl) (by kernel_rfl) (show T0.fn 93 = some Go.Proofs.Tryd.f93 by kernel_rfl) (by kernel_rfl) (by kernel_rfl) hi hn (by rw [w93_eq] at h; exact h)
/- math/bits.Len64 -/
def an94 : AN := (.seq none .leaf (.seq (some [0, 2]) (.seq none .leaf (.two (.seq none .leaf .leaf) .leaf)) (.seq (some [0, 2]) (.seq none .leaf (.two (.seq none .leaf .leaf) .leaf)) (.seq (some [0, 2]) (.seq none .leaf (.two (.seq none .leaf .leaf) .leaf)) (.seq none .leaf .leaf)))))
def w94 (P : Prims) (a0 : AV) (Q : AV → AS → Prop) : Prop :=
  P.oJ [0, 2] (fun (k : C2) =>
   P.oV 4 (evBin T0 .geq 98 true a0 (.i .u64 4294967296)) fun t4 =>
   P.oI t4 (P.oV 6 (evBin T0 .shr 98 true a0 (.i .u64 32)) fun t6 =>
    k t6 (.i .i64 32) ⟨Tr.nil, 0⟩)
   (k a0 (.i .i64 0) ⟨Tr.nil, 0⟩))
  (fun t0 t2 sx1 =>
  P.oJ [0, 2] (fun (k : C2) =>
   P.oV 8 (evBin T0 .geq 98 true t0 (.i .u64 65536)) fun t8 =>
   P.oI t8 (P.oV 10 (evBin T0 .shr 98 true t0 (.i .u64 16)) fun t10 =>
    P.oV 12 (evBin T0 .add 3 true t2 (.i .i64 16)) fun t12 =>
    k t10 t12 sx1)
   (k t0 t2 sx1))
  (fun t0x1 t2x1 sx2 =>
  P.oJ [0, 2] (fun (k : C2) =>
   P.oV 14 (evBin T0 .geq 98 true t0x1 (.i .u64 256)) fun t14 =>
   P.oI t14 (P.oV 16 (evBin T0 .shr 98 true t0x1 (.i .u64 8)) fun t16 =>
    P.oV 18 (evBin T0 .add 3 true t2x1 (.i .i64 8)) fun t18 =>
    k t16 t18 sx2)
   (k t0x1 t2x1 sx2))
  (fun t0x2 t2x2 sx3 =>
  P.oV 21 (evConv T0 sx3.h 98 5 t0x2) fun t21 =>
  P.oV 22 (evIndex T0 9 (.s [0, 1, 2, 2, 3, 3, 3, 3, 4, 4, 4, 4, 4, 4, 4, 4, 5, 5, 5, 5, 5, 5, 5, 5, 5, 5, 5, 5, 5, 5, 5, 5, 6, 6, 6, 6, 6, 6, 6, 6, 6, 6, 6, 6, 6, 6, 6, 6, 6, 6, 6, 6, 6, 6, 6, 6, 6, 6, 6, 6, 6, 6, 6, 6, 7, 7, 7, 7, 7, 7, 7, 7, 7, 7, 7, 7, 7, 7, 7, 7, 7, 7, 7, 7, 7, 7, 7, 7, 7, 7, 7, 7, 7, 7, 7, 7, 7, 7, 7, 7, 7, 7, 7, 7, 7, 7, 7, 7, 7, 7, 7, 7, 7, 7, 7, 7, 7, 7, 7, 7, 7, 7, 7, 7, 7, 7, 7, 7, 8, 8, 8, 8, 8, 8, 8, 8, 8, 8, 8, 8, 8, 8, 8, 8, 8, 8, 8, 8, 8, 8, 8, 8, 8, 8, 8, 8, 8, 8, 8, 8, 8, 8, 8, 8, 8, 8, 8, 8, 8, 8, 8, 8, 8, 8, 8, 8, 8, 8, 8, 8, 8, 8, 8, 8, 8, 8, 8, 8, 8, 8, 8, 8, 8, 8, 8, 8, 8, 8, 8, 8, 8, 8, 8, 8, 8, 8, 8, 8, 8, 8, 8, 8, 8, 8, 8, 8, 8, 8, 8, 8, 8, 8, 8, 8, 8, 8, 8, 8, 8, 8, 8, 8, 8, 8, 8, 8, 8, 8, 8, 8, 8, 8, 8, 8, 8, 8, 8, 8, 8, 8, 8, 8, 8, 8, 8, 8]) t21) fun t22 =>
  P.oV 23 (evConv T0 sx3.h 5 3 t22) fun t23 =>
  P.oV 24 (evBin T0 .add 3 false t2x2 t23) fun t24 =>
  Q t24 sx3)))
theorem w94_eq (P : Prims) (a0 : AV) (Q : AV → AS → Prop) : w94 P a0 Q = vcBody P T0 Go.Proofs.Tryd.f94 (codeOf Go.Proofs.Tryd.f94) an94 [a0] ⟨.nil, 0⟩ Q := by kernel_rfl
theorem r94 (a0 : AV) {r : AV} (hi : AV.idfree.idfrees [a0] = true) (hn : AV.norm.norms [a0] = [a0]) (h : w94 (prims T0) a0 (fun r1 s1 => oZ T0 s1 r1 (fun r2 => r2 = r))) : R T0 94 [a0] r :=
  R.mk (by kernel_rfl) (by kernel_rfl) (show T0.fn 94 = some Go.Proofs.Tryd.f94 by kernel_rfl) (by kernel_rfl) (by kernel_rfl) hi hn (by rw [w94_eq] at h; exact h)
/- internal/strconv.bool2[int] -/
def an95 : AN := (.seq none .leaf (.seq none (.seq none .leaf (.two (.seq none .leaf .leaf) .leaf)) (.seq none .leaf .leaf)))
def w95 (P : Prims) (a0 : AV) (Q : AV → AS → Prop) : Prop :=
  P.oI a0 (Q (.i .i64 1) ⟨Tr.nil, 0⟩)
  (Q (.i .i64 0) ⟨Tr.nil, 0⟩)
theorem w95_eq (P : Prims) (a0 : AV) (Q : AV → AS → Prop) : w95 P a0 Q = vcBody P T0 Go.Proofs.Tryd.f95 (codeOf Go.Proofs.Tryd.f95) an95 [a0] ⟨.nil, 0⟩ Q := by kernel_rfl
theorem r95 (a0 : AV) {r : AV} (hi : AV.idfree.idfrees [a0] = true) (hn : AV.norm.norms [a0] = [a0]) (h : w95 (prims T0) a0 (fun r1 s1 => oZ T0 s1 r1 (fun r2 => r2 = r))) : R T0 95 [a0] r :=
  R.mk (by kernel_rfl) (by kernel_rfl) (show T0.fn 95 = some Go.Proofs.Tryd.f95 by kernel_rfl) (by kernel_rfl) (by kernel_rfl) hi hn (by rw [w95_eq] at h; exact h)
/- internal/strconv.isPowerOfTwo -/
def an96 : AN := (.seq none .leaf (.seq none .leaf .leaf))
def w96 (P : Prims) (a0 : AV) (Q : AV → AS → Prop) : Prop :=
  P.oV 5 (evBin T0 .sub 3 true a0 (.i .i64 1)) fun t5 =>
  P.oV 6 (evBin T0 .and 3 false a0 t5) fun t6 =>
  P.oV 7 (evBin T0 .eql 3 true t6 (.i .i64 0)) fun t7 =>
  Q t7 ⟨Tr.nil, 0⟩
theorem w96_eq (P : Prims) (a0 : AV) (Q : AV → AS → Prop) : w96 P a0 Q = vcBody P T0 Go.Proofs.Tryd.f96 (codeOf Go.Proofs.Tryd.f96) an96 [a0] ⟨.nil, 0⟩ Q := by kernel_rfl
theorem r96 (a0 : AV) {r : AV} (hi : AV.idfree.idfrees [a0] = true) (hn : AV.norm.norms [a0] = [a0]) (h : w96 (prims T0) a0 (fun r1 s1 => oZ T0 s1 r1 (fun r2 => r2 = r))) : R T0 96 [a0] r :=
  R.mk (by kernel_rfl) (by kernel_rfl) (show T0.fn 96 = some Go.Proofs.Tryd.f96 by kernel_rfl) (by kernel_rfl) (by kernel_rfl) hi hn (by rw [w96_eq] at h; exact h)
/- math/bits.TrailingZeros -/
def an97 : AN := (.seq none .leaf (.seq none (.two (.seq none .leaf .leaf) .leaf) (.seq none .leaf .leaf)))
def w97 (P : Prims) (a0 : AV) (Q : AV → AS → Prop) : Prop :=
  P.oI (.b false) (P.oV 4 (evConv T0 Tr.nil 104 107 a0) fun t4 =>
   P.oC 5 100 [t4] ⟨Tr.nil, 0⟩ fun t5 sx1 =>
   Q t5 sx1)
  (P.oC 7 101 [a0] ⟨Tr.nil, 0⟩ fun t7 sx1 =>
   Q t7 sx1)
theorem w97_eq (P : Prims) (a0 : AV) (Q : AV → AS → Prop) : w97 P a0 Q = vcBody P T0 Go.Proofs.Tryd.f97 (codeOf Go.Proofs.Tryd.f97) an97 [a0] ⟨.nil, 0⟩ Q := by kernel_rfl
theorem r97 (a0 : AV) {r : AV} (hi : AV.idfree.idfrees [a0] = true) (hn : AV.norm.norms [a0] = [a0]) (h : w97 (prims T0) a0 (fun r1 s1 => oZ T0 s1 r1 (fun r2 => r2 = r))) : R T0 97 [a0] r :=
  R.mk (by kernel_rfl) (by kernel_rfl) (show T0.fn 97 = some Go.Proofs.Tryd.f97 by kernel_rfl) (by kernel_rfl) (by kernel_rfl) hi hn (by rw [w97_eq] at h; exact h)
/- internal/bytealg.hashStr[string] -/
def an99 : AN := (.seq none .leaf (.seq none .leaf (.seq none (.seq none .leaf (.one (.loop [4, 0, 5] (.seq none (.seq none .leaf (.two .leaf .leaf)) (.seq none (.one .leaf) .leaf))))) (.seq none .leaf (.seq none (.seq none .leaf (.one (.loop [6, 4, 8, 7] (.seq none (.seq none .leaf (.two .leaf .leaf)) (.seq none (.one (.seq (some [6, 4, 8, 7]) (.seq none .leaf (.two .leaf .leaf)) .leaf)) .leaf))))) (.seq none .leaf .leaf))))))
def w99 (P : Prims) (a0 : AV) (Q : AV → AS → Prop) : Prop :=
  P.oL [4, 0, 5] (fun (next : C3) t4 t0 t5 sx1 =>
  P.oV 11 (evBuiltin T0 sx1.h .len [9] [t0]) fun t11 =>
  P.oV 12 (evBin T0 .lss 3 false t5 t11) fun t12 =>
  P.oI t12 (P.oV 16 (evBin T0 .mul 107 true t4 (.i .u32 16777619)) fun t16 =>
   P.oV 19 (evIndex T0 9 t0 t5) fun t19 =>
   P.oV 20 (evConv T0 sx1.h 5 107 t19) fun t20 =>
   P.oV 21 (evBin T0 .add 107 false t16 t20) fun t21 =>
   P.oV 14 (evBin T0 .add 3 true t5 (.i .i64 1)) fun t14 =>
   next t21 t0 t14 sx1)
  (P.oV 23 (evBuiltin T0 sx1.h .len [9] [t0]) fun t23 =>
   P.oL [6, 4, 8, 7] (fun (nextx1 : C4) t6 t4x1 t8 t7 sx2 =>
   P.oV 25 (evBin T0 .gtr 3 true t8 (.i .i64 0)) fun t25 =>
   P.oI t25 (P.oJ [6, 4, 8, 7] (fun (k : C4) =>
     P.oV 29 (evBin T0 .and 3 true t8 (.i .i64 1)) fun t29 =>
     P.oV 30 (evBin T0 .neq 3 true t29 (.i .i64 0)) fun t30 =>
     P.oI t30 (P.oV 33 (evBin T0 .mul 107 false t6 t7) fun t33 =>
      k t33 t4x1 t8 t7 sx2)
     (k t6 t4x1 t8 t7 sx2))
    (fun t6x1 t4x2 t8x1 t7x1 sx3 =>
    P.oV 36 (evBin T0 .mul 107 false t7x1 t7x1) fun t36 =>
    P.oV 27 (evBin T0 .shr 3 true t8x1 (.i .u64 1)) fun t27 =>
    nextx1 t6x1 t4x2 t27 t36 sx3))
   (Q (.tup [t4x1, t6]) sx2)) (.i .u32 1) t4 t23 (.i .u32 16777619) sx1)) (.i .u32 0) a0 (.i .i64 0) ⟨Tr.nil, 0⟩
theorem w99_eq (P : Prims) (a0 : AV) (Q : AV → AS → Prop) : w99 P a0 Q = vcBody P T0 Go.Proofs.Tryd.f99 (codeOf Go.Proofs.Tryd.f99) an99 [a0] ⟨.nil, 0⟩ Q := by kernel_rfl
theorem r99 (a0 : AV) {r : AV} (hi : AV.idfree.idfrees [a0] = true) (hn : AV.norm.norms [a0] = [a0]) (h : w99 (prims T0) a0 (fun r1 s1 => oZ T0 s1 r1 (fun r2 => r2 = r))) : R T0 99 [a0] r :=
  R.mk (by kernel_rfl) (by kernel_rfl) (show T0.fn 99 = some Go.Proofs.Tryd.f99 by kernel_rfl) (by kernel_rfl) (by kernel_rfl) hi hn (by rw [w99_eq] at h; exact h)
/- math/bits.TrailingZeros32 -/
def an100 : AN := (.seq none .leaf (.seq none (.seq none .leaf (.two (.seq none .leaf .leaf) .leaf)) (.seq none .leaf .leaf)))
def w100 (P : Prims) (a0 : AV) (Q : AV → AS → Prop) : Prop :=
  P.oV 4 (evBin T0 .eql 107 true a0 (.i .u32 0)) fun t4 =>
  P.oI t4 (Q (.i .i64 32) ⟨Tr.nil, 0⟩)
  (P.oV 7 (evUn .neg a0) fun t7 =>
   P.oV 8 (evBin T0 .and 107 false a0 t7) fun t8 =>
   P.oV 9 (evBin T0 .mul 107 true t8 (.i .u32 125613361)) fun t9 =>
   P.oV 10 (evBin T0 .shr 107 true t9 (.i .u64 27)) fun t10 =>
   P.oV 11 (evIndexAddr T0 117 (.iptr [(.i .u8 0), (.i .u8 1), (.i .u8 28), (.i .u8 2), (.i .u8 29), (.i .u8 14), (.i .u8 24), (.i .u8 3), (.i .u8 30), (.i .u8 22), (.i .u8 20), (.i .u8 15), (.i .u8 25), (.i .u8 17), (.i .u8 4), (.i .u8 8), (.i .u8 31), (.i .u8 27), (.i .u8 13), (.i .u8 23), (.i .u8 21), (.i .u8 19), (.i .u8 16), (.i .u8 7), (.i .u8 26), (.i .u8 12), (.i .u8 18), (.i .u8 6), (.i .u8 11), (.i .u8 5), (.i .u8 10), (.i .u8 9)]) t10) fun t11 =>
   P.oV 12 (evLoad T0 Tr.nil 5 t11) fun t12 =>
   P.oV 13 (evConv T0 Tr.nil 5 3 t12) fun t13 =>
   Q t13 ⟨Tr.nil, 0⟩)
theorem w100_eq (P : Prims) (a0 : AV) (Q : AV → AS → Prop) : w100 P a0 Q = vcBody P T0 Go.Proofs.Tryd.f100 (codeOf Go.Proofs.Tryd.f100) an100 [a0] ⟨.nil, 0⟩ Q := by kernel_rfl
theorem r100 (a0 : AV) {r : AV} (hi : AV.idfree.idfrees [a0] = true) (hn : AV.norm.norms [a0] = [a0]) (h : w100 (prims T0) a0 (fun r1 s1 => oZ T0 s1 r1 (fun r2 => r2 = r))) : R T0 100 [a0] r :=
  R.mk (by kernel_rfl) (by kernel_rfl) (show T0.fn 100 = some Go.Proofs.Tryd.f100 by kernel_rfl) (by kernel_rfl) (by kernel_rfl) hi hn (by rw [w100_eq] at h; exact h)

end Go.Proofs.YtpnoongjaehmlaaDoor.Ev
