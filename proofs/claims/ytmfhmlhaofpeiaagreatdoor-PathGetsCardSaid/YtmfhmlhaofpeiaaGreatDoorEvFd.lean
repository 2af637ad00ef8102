/- The functions' code, laid out. Printed by WP.lean.txt, a program of this session's. -/
import Derived.Test.YtmfhmlhaofpeiaaGreatDoorEvTy
namespace Go.Proofs.YtmfhmlhaofpeiaaGreatDoor.Ev
open Go Go.RowKit
set_option linter.unusedVariables false
set_option maxRecDepth 100000
/- orchestrator/orchestratorlaw06.PathGets -/
def an6 : AN := (.seq none .leaf (.seq none (.seq none .leaf (.two (.seq none .leaf .leaf) .leaf)) (.seq none .leaf (.seq none .leaf (.seq none .leaf (.seq none .leaf (.seq none .leaf .leaf)))))))
def w6 (P : Prims) (a0 a1 : AV) (Q : AV → AS → Prop) : Prop :=
  P.oN 2 (.cells (AV.cells a0) 35 false) (fun id => (.ptr id 0)) ⟨Tr.nil, 0⟩ fun t2 sx1 =>
  P.oV 13 (evLoad T0 sx1.h 35 t2) fun t13 =>
  P.oC 14 22 [t13, (.i .i64 2000)] sx1 fun t14 sx2 =>
  P.oV 15 (evUn .not t14) fun t15 =>
  P.oG [17, 18, 19] t15 false (fun (k : C3) => P.oC 18 11 [a1] sx2 fun t18 sx3 =>
   P.oV 19 (evUn .not t18) fun t19 =>
   k a1 t18 t19 sx3) sx2 fun t17 t18 t19 sx3 =>
  P.oV 20 (evPick t15 (some (.b true)) (some t19)) fun t20 =>
  P.oI t20 (P.oC 21 12 [] sx3 fun t21 sx4 =>
   Q t21 sx4)
  (P.oV 23 (evLoad T0 sx3.h 35 t2) fun t23 =>
   P.oC 25 23 [t23, a1] sx3 fun t25 sx4 =>
   P.oV 26 (evExtract 0 t25) fun t26 =>
   P.oV 27 (evExtract 1 t25) fun t27 =>
   P.oN 5 (.cells [(.i .i64 0), (.i .i64 0), (.s []), (.nilz true), (.nilz true)] 35 false) (fun id => (.ptr id 0)) sx4 fun t5 sx5 =>
   P.oH (evStore T0 sx5.h 35 t5 t26) sx5 fun sx6 =>
   P.oV 29 (evLoad T0 sx6.h 35 t2) fun t29 =>
   P.oC 31 24 [t29, a1] sx6 fun t31 sx7 =>
   P.oV 32 (evExtract 0 t31) fun t32 =>
   P.oV 33 (evExtract 1 t31) fun t33 =>
   P.oN 7 (.cells [(.i .i64 0), (.i .i64 0), (.s []), (.nilz true), (.nilz true)] 35 false) (fun id => (.ptr id 0)) sx7 fun t7 sx8 =>
   P.oH (evStore T0 sx8.h 35 t7 t32) sx8 fun sx9 =>
   P.oV 35 (evLoad T0 sx9.h 35 t2) fun t35 =>
   P.oC 37 25 [t35, a1] sx9 fun t37 sx10 =>
   P.oV 38 (evExtract 0 t37) fun t38 =>
   P.oV 39 (evExtract 1 t37) fun t39 =>
   P.oN 9 (.cells [(.i .i64 0), (.i .i64 0), (.s []), (.nilz true), (.nilz true)] 35 false) (fun id => (.ptr id 0)) sx10 fun t9 sx11 =>
   P.oH (evStore T0 sx11.h 35 t9 t38) sx11 fun sx12 =>
   P.oV 41 (evLoad T0 sx12.h 35 t2) fun t41 =>
   P.oC 43 26 [t41, a1] sx12 fun t43 sx13 =>
   P.oV 44 (evExtract 0 t43) fun t44 =>
   P.oV 45 (evExtract 1 t43) fun t45 =>
   P.oN 11 (.cells [(.i .i64 0), (.i .i64 0), (.s []), (.nilz true), (.nilz true)] 35 false) (fun id => (.ptr id 0)) sx13 fun t11 sx14 =>
   P.oH (evStore T0 sx14.h 35 t11 t44) sx14 fun sx15 =>
   P.oV 48 (evBin T0 .eql 4 false t27 t33) fun t48 =>
   P.oG [50, 51, 52] t48 true (fun (k : C3) => P.oV 50 (evLoad T0 sx15.h 35 t5) fun t50 =>
    P.oV 51 (evLoad T0 sx15.h 35 t7) fun t51 =>
    P.oC 52 27 [t50, t51] sx15 fun t52 sx16 =>
    k t50 t51 t52 sx16) sx15 fun t50 t51 t52 sx16 =>
   P.oV 53 (evPick t48 (some t52) (some (.b false))) fun t53 =>
   P.oG [55, 56, 57] t53 true (fun (k : C3) => P.oV 57 (evBin T0 .eql 4 false t39 t45) fun t57 =>
    k t39 t45 t57 sx16) sx16 fun t55 t56 t57 sx17 =>
   P.oV 58 (evPick t53 (some t57) (some (.b false))) fun t58 =>
   P.oG [60, 61, 62] t58 true (fun (k : C3) => P.oV 60 (evLoad T0 sx17.h 35 t9) fun t60 =>
    P.oV 61 (evLoad T0 sx17.h 35 t11) fun t61 =>
    P.oC 62 27 [t60, t61] sx17 fun t62 sx18 =>
    k t60 t61 t62 sx18) sx17 fun t60 t61 t62 sx18 =>
   P.oV 63 (evPick t58 (some t62) (some (.b false))) fun t63 =>
   P.oG [65] t63 true (fun (k : C1) => P.oC 65 12 [] sx18 fun t65 sx19 =>
    k t65 sx19) sx18 fun t65 sx19 =>
   P.oV 66 (evPick t63 (some t65) (some (.b false))) fun t66 =>
   Q t66 sx19)
theorem w6_eq (P : Prims) (a0 a1 : AV) (Q : AV → AS → Prop) : w6 P a0 a1 Q = vcBody P T0 Go.Proofs.Tryz.f6 (codeOf Go.Proofs.Tryz.f6) an6 [a0, a1] ⟨.nil, 0⟩ Q := by kernel_rfl
theorem r6 (a0 a1 : AV) {r : AV} (hi : AV.idfree.idfrees [a0, a1] = true) (hn : AV.norm.norms [a0, a1] = [a0, a1]) (h : w6 (prims T0) a0 a1 (fun r1 s1 => oZ T0 s1 r1 (fun r2 => r2 = r))) : R T0 6 [a0, a1] r :=
  R.mk (by kernel_rfl) (by kernel_rfl) (show T0.fn 6 = some Go.Proofs.Tryz.f6 by kernel_rfl) (by kernel_rfl) (by kernel_rfl) hi hn (by rw [w6_eq] at h; exact h)
/- orchestrator/orchestratorref06.Few -/
def an22 : AN := (.seq none .leaf (.seq none .leaf .leaf))
def w22 (P : Prims) (a0 a1 : AV) (Q : AV → AS → Prop) : Prop :=
  P.oN 2 (.cells (AV.cells a0) 35 false) (fun id => (.ptr id 0)) ⟨Tr.nil, 0⟩ fun t2 sx1 =>
  P.oV 5 (evLoad T0 sx1.h 35 t2) fun t5 =>
  P.oC 7 48 [t5, a1] sx1 fun t7 sx2 =>
  P.oV 8 (evBin T0 .geq 3 true t7 (.i .i64 0)) fun t8 =>
  Q t8 sx2
theorem w22_eq (P : Prims) (a0 a1 : AV) (Q : AV → AS → Prop) : w22 P a0 a1 Q = vcBody P T0 Go.Proofs.Tryz.f22 (codeOf Go.Proofs.Tryz.f22) an22 [a0, a1] ⟨.nil, 0⟩ Q := by kernel_rfl
theorem r22 (a0 a1 : AV) {r : AV} (hi : AV.idfree.idfrees [a0, a1] = true) (hn : AV.norm.norms [a0, a1] = [a0, a1]) (h : w22 (prims T0) a0 a1 (fun r1 s1 => oZ T0 s1 r1 (fun r2 => r2 = r))) : R T0 22 [a0, a1] r :=
  R.mk (by kernel_rfl) (by kernel_rfl) (show T0.fn 22 = some Go.Proofs.Tryz.f22 by kernel_rfl) (by kernel_rfl) (by kernel_rfl) hi hn (by rw [w22_eq] at h; exact h)
/- orchestrator/path.Get -/
def an23 : AN := (.seq none .leaf (.seq none (.seq none .leaf (.two (.seq none .leaf .leaf) .leaf)) (.seq none (.seq none .leaf (.one (.loop [4, 2, 13, 14, 15] (.seq none .leaf (.seq none (.two .leaf .leaf) (.seq (some [4, 2, 13, 14, 15]) (.one (.seq none .leaf (.seq none .leaf (.one (.seq none .leaf (.two (.seq none .leaf .leaf) (.seq none .leaf (.two .leaf .leaf)))))))) .leaf)))))) (.seq none .leaf .leaf))))
def w23 (P : Prims) (a0 a1 : AV) (Q : AV → AS → Prop) : Prop :=
  P.oN 2 (.cells (AV.cells a0) 35 false) (fun id => (.ptr id 0)) ⟨Tr.nil, 0⟩ fun t2 sx1 =>
  P.oN 4 (.cells [(.i .i64 0), (.i .i64 0), (.s []), (.nilz true), (.nilz true)] 35 false) (fun id => (.ptr id 0)) sx1 fun t4 sx2 =>
  P.oC 10 13 [a1] sx2 fun t10 sx3 =>
  P.oV 11 (evUn .not t10) fun t11 =>
  P.oI t11 (P.oV 12 (evBuild T0 35 []) fun t12 =>
   P.oH (evStore T0 sx3.h 35 t4 t12) sx3 fun sx4 =>
   P.oV 4 (evLoad T0 sx4.h 35 t4) fun t4x1 =>
   Q (.tup [t4x1, (.b false)]) sx4)
  (P.oV 14 (evBuiltin T0 sx3.h .len [22] [a1]) fun t14 =>
   P.oL [4, 2, 13, 14, 15] (fun (next : C5) t4x1 t2x1 t13 t14x1 t15 sx4 =>
   P.oV 16 (evBin T0 .lss 3 false t15 t14x1) fun t16 =>
   P.oI t16 (P.oJ [4, 2, 13, 14, 15] (fun (k : C5) =>
     P.oV 17 (evIndexAddr T0 22 t13 t15) fun t17 =>
     P.oV 18 (evLoad T0 sx4.h 50 t17) fun t18 =>
     P.oN 7 (.cells [(.i .i64 0), (.s []), (.i .i64 0), (.s [])] 50 false) (fun id => (.ptr id 0)) sx4 fun t7 sx5 =>
     P.oH (evStore T0 sx5.h 50 t7 t18) sx5 fun sx6 =>
     P.oV 19 (evLoad T0 sx6.h 35 t2x1) fun t19 =>
     P.oV 20 (evLoad T0 sx6.h 50 t7) fun t20 =>
     P.oC 21 49 [t19, t20] sx6 fun t21 sx7 =>
     P.oV 29 (evBin T0 .lss 3 true t21 (.i .i64 0)) fun t29 =>
     P.oI t29 (P.oV 30 (evBuild T0 35 []) fun t30 =>
      P.oH (evStore T0 sx7.h 35 t4x1 t30) sx7 fun sx8 =>
      P.oV 4 (evLoad T0 sx8.h 35 t4x1) fun t4x2 =>
      Q (.tup [t4x2, (.b false)]) sx8)
     (P.oV 32 (evOff 0 t7) fun t32 =>
      P.oV 33 (evLoad T0 sx7.h 3 t32) fun t33 =>
      P.oV 34 (evBin T0 .eql 3 true t33 (.i .i64 1)) fun t34 =>
      P.oI t34 (P.oV 35 (evOff 4 t2x1) fun t35 =>
       P.oV 36 (evLoad T0 sx7.h 33 t35) fun t36 =>
       P.oV 38 (evIndexAddr T0 33 t36 t21) fun t38 =>
       P.oV 39 (evOff 1 t38) fun t39 =>
       P.oV 40 (evLoad T0 sx7.h 35 t39) fun t40 =>
       P.oH (evStore T0 sx7.h 35 t2x1 t40) sx7 fun sx8 =>
       k t4x1 t2x1 t13 t14x1 t15 sx8)
      (P.oV 22 (evOff 3 t2x1) fun t22 =>
       P.oV 23 (evLoad T0 sx7.h 32 t22) fun t23 =>
       P.oV 25 (evIndexAddr T0 32 t23 t21) fun t25 =>
       P.oV 26 (evLoad T0 sx7.h 35 t25) fun t26 =>
       P.oH (evStore T0 sx7.h 35 t2x1 t26) sx7 fun sx8 =>
       k t4x1 t2x1 t13 t14x1 t15 sx8)))
    (fun t4x2 t2x2 t13x1 t14x2 t15x1 sx5 =>
    P.oV 41 (evBin T0 .add 3 true t15x1 (.i .i64 1)) fun t41 =>
    next t4x2 t2x2 t13x1 t14x2 t41 sx5))
   (P.oV 42 (evLoad T0 sx4.h 35 t2x1) fun t42 =>
    P.oC 43 50 [t42] sx4 fun t43 sx5 =>
    P.oH (evStore T0 sx5.h 35 t4x1 t43) sx5 fun sx6 =>
    P.oV 4 (evLoad T0 sx6.h 35 t4x1) fun t4x2 =>
    Q (.tup [t4x2, (.b true)]) sx6)) t4 t2 a1 t14 (.i .i64 0) sx3)
theorem w23_eq (P : Prims) (a0 a1 : AV) (Q : AV → AS → Prop) : w23 P a0 a1 Q = vcBody P T0 Go.Proofs.Tryz.f23 (codeOf Go.Proofs.Tryz.f23) an23 [a0, a1] ⟨.nil, 0⟩ Q := by kernel_rfl
theorem r23 (a0 a1 : AV) {r : AV} (hi : AV.idfree.idfrees [a0, a1] = true) (hn : AV.norm.norms [a0, a1] = [a0, a1]) (h : w23 (prims T0) a0 a1 (fun r1 s1 => oZ T0 s1 r1 (fun r2 => r2 = r))) : R T0 23 [a0, a1] r :=
  R.mk (by kernel_rfl) (by kernel_rfl) (show T0.fn 23 = some Go.Proofs.Tryz.f23 by kernel_rfl) (by kernel_rfl) (by kernel_rfl) hi hn (by rw [w23_eq] at h; exact h)
/- orchestrator/orchestratorref06.Get -/
def an24 : AN := (.seq none .leaf (.seq none (.seq none .leaf (.two (.seq none .leaf .leaf) .leaf)) (.seq none (.seq none .leaf (.one (.loop [4, 2, 1, 6] (.seq none (.seq none .leaf (.two .leaf .leaf)) (.seq (some [4, 2, 1, 6]) (.one (.seq none .leaf (.seq none (.seq none .leaf (.two (.seq none .leaf .leaf) .leaf)) (.seq none .leaf (.two .leaf .leaf))))) .leaf))))) (.seq none .leaf .leaf))))
def w24 (P : Prims) (a0 a1 : AV) (Q : AV → AS → Prop) : Prop :=
  P.oN 2 (.cells (AV.cells a0) 35 false) (fun id => (.ptr id 0)) ⟨Tr.nil, 0⟩ fun t2 sx1 =>
  P.oN 4 (.cells [(.i .i64 0), (.i .i64 0), (.s []), (.nilz true), (.nilz true)] 35 false) (fun id => (.ptr id 0)) sx1 fun t4 sx2 =>
  P.oC 9 14 [a1] sx2 fun t9 sx3 =>
  P.oV 10 (evUn .not t9) fun t10 =>
  P.oI t10 (P.oV 11 (evBuild T0 35 []) fun t11 =>
   P.oH (evStore T0 sx3.h 35 t4 t11) sx3 fun sx4 =>
   P.oV 4 (evLoad T0 sx4.h 35 t4) fun t4x1 =>
   Q (.tup [t4x1, (.b false)]) sx4)
  (P.oL [4, 2, 1, 6] (fun (next : C4) t4x1 t2x1 t1 t6 sx4 =>
   P.oV 14 (evBuiltin T0 sx4.h .len [22] [t1]) fun t14 =>
   P.oV 15 (evBin T0 .lss 3 false t6 t14) fun t15 =>
   P.oI t15 (P.oJ [4, 2, 1, 6] (fun (k : C4) =>
     P.oV 18 (evLoad T0 sx4.h 35 t2x1) fun t18 =>
     P.oV 21 (evIndexAddr T0 22 t1 t6) fun t21 =>
     P.oV 22 (evLoad T0 sx4.h 50 t21) fun t22 =>
     P.oC 23 51 [t18, t22] sx4 fun t23 sx5 =>
     P.oV 25 (evBin T0 .lss 3 true t23 (.i .i64 0)) fun t25 =>
     P.oI t25 (P.oV 26 (evBuild T0 35 []) fun t26 =>
      P.oH (evStore T0 sx4.h 35 t4x1 t26) sx4 fun sx6 =>
      P.oV 4 (evLoad T0 sx6.h 35 t4x1) fun t4x2 =>
      Q (.tup [t4x2, (.b false)]) sx6)
     (P.oV 29 (evIndexAddr T0 22 t1 t6) fun t29 =>
      P.oV 30 (evOff 0 t29) fun t30 =>
      P.oV 31 (evLoad T0 sx4.h 3 t30) fun t31 =>
      P.oV 32 (evBin T0 .eql 3 true t31 (.i .i64 1)) fun t32 =>
      P.oI t32 (P.oV 33 (evOff 4 t2x1) fun t33 =>
       P.oV 34 (evLoad T0 sx4.h 33 t33) fun t34 =>
       P.oV 36 (evIndexAddr T0 33 t34 t23) fun t36 =>
       P.oV 37 (evOff 1 t36) fun t37 =>
       P.oV 38 (evLoad T0 sx4.h 35 t37) fun t38 =>
       P.oH (evStore T0 sx4.h 35 t2x1 t38) sx4 fun sx6 =>
       k t4x1 t2x1 t1 t6 sx6)
      (P.oV 39 (evOff 3 t2x1) fun t39 =>
       P.oV 40 (evLoad T0 sx4.h 32 t39) fun t40 =>
       P.oV 42 (evIndexAddr T0 32 t40 t23) fun t42 =>
       P.oV 43 (evLoad T0 sx4.h 35 t42) fun t43 =>
       P.oH (evStore T0 sx4.h 35 t2x1 t43) sx4 fun sx6 =>
       k t4x1 t2x1 t1 t6 sx6)))
    (fun t4x2 t2x2 t1x1 t6x1 sx5 =>
    P.oV 17 (evBin T0 .add 3 true t6x1 (.i .i64 1)) fun t17 =>
    next t4x2 t2x2 t1x1 t17 sx5))
   (P.oV 44 (evLoad T0 sx4.h 35 t2x1) fun t44 =>
    P.oH (evStore T0 sx4.h 35 t4x1 t44) sx4 fun sx5 =>
    P.oV 4 (evLoad T0 sx5.h 35 t4x1) fun t4x2 =>
    Q (.tup [t4x2, (.b true)]) sx5)) t4 t2 a1 (.i .i64 0) sx3)
theorem w24_eq (P : Prims) (a0 a1 : AV) (Q : AV → AS → Prop) : w24 P a0 a1 Q = vcBody P T0 Go.Proofs.Tryz.f24 (codeOf Go.Proofs.Tryz.f24) an24 [a0, a1] ⟨.nil, 0⟩ Q := by kernel_rfl
theorem r24 (a0 a1 : AV) {r : AV} (hi : AV.idfree.idfrees [a0, a1] = true) (hn : AV.norm.norms [a0, a1] = [a0, a1]) (h : w24 (prims T0) a0 a1 (fun r1 s1 => oZ T0 s1 r1 (fun r2 => r2 = r))) : R T0 24 [a0, a1] r :=
  R.mk (by kernel_rfl) (by kernel_rfl) (show T0.fn 24 = some Go.Proofs.Tryz.f24 by kernel_rfl) (by kernel_rfl) (by kernel_rfl) hi hn (by rw [w24_eq] at h; exact h)
/- orchestrator/path.Remove -/
def an25 : AN := (.seq none .leaf (.seq none (.seq none .leaf (.seq none .leaf (.two (.seq none .leaf .leaf) .leaf))) (.seq none .leaf .leaf)))
def w25 (P : Prims) (a0 a1 : AV) (Q : AV → AS → Prop) : Prop :=
  P.oN 2 (.cells (AV.cells a0) 35 false) (fun id => (.ptr id 0)) ⟨Tr.nil, 0⟩ fun t2 sx1 =>
  P.oN 4 (.cells [(.i .i64 0), (.i .i64 0), (.s []), (.nilz true), (.nilz true)] 35 false) (fun id => (.ptr id 0)) sx1 fun t4 sx2 =>
  P.oV 9 (evLoad T0 sx2.h 35 t2) fun t9 =>
  P.oC 11 23 [t9, a1] sx2 fun t11 sx3 =>
  P.oV 12 (evExtract 0 t11) fun t12 =>
  P.oV 13 (evExtract 1 t11) fun t13 =>
  P.oN 6 (.cells [(.i .i64 0), (.i .i64 0), (.s []), (.nilz true), (.nilz true)] 35 false) (fun id => (.ptr id 0)) sx3 fun t6 sx4 =>
  P.oH (evStore T0 sx4.h 35 t6 t12) sx4 fun sx5 =>
  P.oV 15 (evUn .not t13) fun t15 =>
  P.oG [17, 18, 19] t15 false (fun (k : C3) => P.oV 18 (evBuiltin T0 sx5.h .len [22] [a1]) fun t18 =>
   P.oV 19 (evBin T0 .eql 3 true t18 (.i .i64 0)) fun t19 =>
   k a1 t18 t19 sx5) sx5 fun t17 t18 t19 sx6 =>
  P.oV 20 (evPick t15 (some (.b true)) (some t19)) fun t20 =>
  P.oI t20 (P.oV 21 (evBuild T0 35 []) fun t21 =>
   P.oH (evStore T0 sx6.h 35 t4 t21) sx6 fun sx7 =>
   P.oV 4 (evLoad T0 sx7.h 35 t4) fun t4x1 =>
   Q (.tup [t4x1, (.b false)]) sx7)
  (P.oV 22 (evLoad T0 sx6.h 35 t2) fun t22 =>
   P.oC 23 50 [t22] sx6 fun t23 sx7 =>
   P.oC 25 52 [t23, a1] sx7 fun t25 sx8 =>
   P.oH (evStore T0 sx8.h 35 t4 t25) sx8 fun sx9 =>
   P.oV 4 (evLoad T0 sx9.h 35 t4) fun t4x1 =>
   Q (.tup [t4x1, (.b true)]) sx9)
theorem w25_eq (P : Prims) (a0 a1 : AV) (Q : AV → AS → Prop) : w25 P a0 a1 Q = vcBody P T0 Go.Proofs.Tryz.f25 (codeOf Go.Proofs.Tryz.f25) an25 [a0, a1] ⟨.nil, 0⟩ Q := by kernel_rfl
theorem r25 (a0 a1 : AV) {r : AV} (hi : AV.idfree.idfrees [a0, a1] = true) (hn : AV.norm.norms [a0, a1] = [a0, a1]) (h : w25 (prims T0) a0 a1 (fun r1 s1 => oZ T0 s1 r1 (fun r2 => r2 = r))) : R T0 25 [a0, a1] r :=
  R.mk (by kernel_rfl) (by kernel_rfl) (show T0.fn 25 = some Go.Proofs.Tryz.f25 by kernel_rfl) (by kernel_rfl) (by kernel_rfl) hi hn (by rw [w25_eq] at h; exact h)
/- orchestrator/orchestratorref06.Remove -/
def an26 : AN := (.seq none .leaf (.seq none .leaf (.seq none (.seq none .leaf (.two (.seq none .leaf .leaf) .leaf)) (.seq none .leaf .leaf))))
def w26 (P : Prims) (a0 a1 : AV) (Q : AV → AS → Prop) : Prop :=
  P.oN 2 (.cells (AV.cells a0) 35 false) (fun id => (.ptr id 0)) ⟨Tr.nil, 0⟩ fun t2 sx1 =>
  P.oN 4 (.cells [(.i .i64 0), (.i .i64 0), (.s []), (.nilz true), (.nilz true)] 35 false) (fun id => (.ptr id 0)) sx1 fun t4 sx2 =>
  P.oV 9 (evLoad T0 sx2.h 35 t2) fun t9 =>
  P.oC 11 24 [t9, a1] sx2 fun t11 sx3 =>
  P.oV 12 (evExtract 0 t11) fun t12 =>
  P.oV 13 (evExtract 1 t11) fun t13 =>
  P.oN 6 (.cells [(.i .i64 0), (.i .i64 0), (.s []), (.nilz true), (.nilz true)] 35 false) (fun id => (.ptr id 0)) sx3 fun t6 sx4 =>
  P.oH (evStore T0 sx4.h 35 t6 t12) sx4 fun sx5 =>
  P.oV 15 (evUn .not t13) fun t15 =>
  P.oG [17, 18, 19] t15 false (fun (k : C3) => P.oV 18 (evBuiltin T0 sx5.h .len [22] [a1]) fun t18 =>
   P.oV 19 (evBin T0 .eql 3 true t18 (.i .i64 0)) fun t19 =>
   k a1 t18 t19 sx5) sx5 fun t17 t18 t19 sx6 =>
  P.oV 20 (evPick t15 (some (.b true)) (some t19)) fun t20 =>
  P.oI t20 (P.oV 21 (evBuild T0 35 []) fun t21 =>
   P.oH (evStore T0 sx6.h 35 t4 t21) sx6 fun sx7 =>
   P.oV 4 (evLoad T0 sx7.h 35 t4) fun t4x1 =>
   Q (.tup [t4x1, (.b false)]) sx7)
  (P.oV 22 (evLoad T0 sx6.h 35 t2) fun t22 =>
   P.oC 24 53 [t22, a1] sx6 fun t24 sx7 =>
   P.oH (evStore T0 sx7.h 35 t4 t24) sx7 fun sx8 =>
   P.oV 4 (evLoad T0 sx8.h 35 t4) fun t4x1 =>
   Q (.tup [t4x1, (.b true)]) sx8)
theorem w26_eq (P : Prims) (a0 a1 : AV) (Q : AV → AS → Prop) : w26 P a0 a1 Q = vcBody P T0 Go.Proofs.Tryz.f26 (codeOf Go.Proofs.Tryz.f26) an26 [a0, a1] ⟨.nil, 0⟩ Q := by kernel_rfl
theorem r26 (a0 a1 : AV) {r : AV} (hi : AV.idfree.idfrees [a0, a1] = true) (hn : AV.norm.norms [a0, a1] = [a0, a1]) (h : w26 (prims T0) a0 a1 (fun r1 s1 => oZ T0 s1 r1 (fun r2 => r2 = r))) : R T0 26 [a0, a1] r :=
  R.mk (by kernel_rfl) (by kernel_rfl) (show T0.fn 26 = some Go.Proofs.Tryz.f26 by kernel_rfl) (by kernel_rfl) (by kernel_rfl) hi hn (by rw [w26_eq] at h; exact h)
/- orchestrator/orchestratorref06.Alike -/
def an27 : AN := (.seq none .leaf (.seq none (.seq none .leaf (.two (.seq none .leaf .leaf) .leaf)) (.seq none (.seq none .leaf (.one (.loop [3, 2, 5] (.seq none (.seq none .leaf (.two .leaf .leaf)) (.seq none (.one (.seq none .leaf (.two (.seq none .leaf .leaf) .leaf))) .leaf))))) (.seq none (.seq none .leaf (.one (.loop [3, 2, 6] (.seq none (.seq none .leaf (.two .leaf .leaf)) (.seq none (.one (.seq none .leaf (.two (.seq none .leaf .leaf) .leaf))) .leaf))))) (.seq none .leaf .leaf)))))
def w27 (P : Prims) (a0 a1 : AV) (Q : AV → AS → Prop) : Prop :=
  P.oN 2 (.cells (AV.cells a0) 35 false) (fun id => (.ptr id 0)) ⟨Tr.nil, 0⟩ fun t2 sx1 =>
  P.oN 3 (.cells (AV.cells a1) 35 false) (fun id => (.ptr id 0)) sx1 fun t3 sx2 =>
  P.oV 7 (evOff 0 t2) fun t7 =>
  P.oV 8 (evLoad T0 sx2.h 3 t7) fun t8 =>
  P.oV 9 (evOff 0 t3) fun t9 =>
  P.oV 10 (evLoad T0 sx2.h 3 t9) fun t10 =>
  P.oV 11 (evBin T0 .neq 3 false t8 t10) fun t11 =>
  P.oG [13, 14, 15, 16, 17] t11 false (fun (k : C5) => P.oV 13 (evOff 1 t2) fun t13 =>
   P.oV 14 (evLoad T0 sx2.h 3 t13) fun t14 =>
   P.oV 15 (evOff 1 t3) fun t15 =>
   P.oV 16 (evLoad T0 sx2.h 3 t15) fun t16 =>
   P.oV 17 (evBin T0 .neq 3 false t14 t16) fun t17 =>
   k t13 t14 t15 t16 t17 sx2) sx2 fun t13 t14 t15 t16 t17 sx3 =>
  P.oV 18 (evPick t11 (some (.b true)) (some t17)) fun t18 =>
  P.oG [20, 21, 22, 23, 24] t18 false (fun (k : C5) => P.oV 20 (evOff 2 t2) fun t20 =>
   P.oV 21 (evLoad T0 sx3.h 9 t20) fun t21 =>
   P.oV 22 (evOff 2 t3) fun t22 =>
   P.oV 23 (evLoad T0 sx3.h 9 t22) fun t23 =>
   P.oV 24 (evBin T0 .neq 9 false t21 t23) fun t24 =>
   k t20 t21 t22 t23 t24 sx3) sx3 fun t20 t21 t22 t23 t24 sx4 =>
  P.oV 25 (evPick t18 (some (.b true)) (some t24)) fun t25 =>
  P.oG [27, 28, 29, 30, 31, 32, 33] t25 false (fun (k : C7) => P.oV 27 (evOff 3 t2) fun t27 =>
   P.oV 28 (evLoad T0 sx4.h 32 t27) fun t28 =>
   P.oV 29 (evBuiltin T0 sx4.h .len [32] [t28]) fun t29 =>
   P.oV 30 (evOff 3 t3) fun t30 =>
   P.oV 31 (evLoad T0 sx4.h 32 t30) fun t31 =>
   P.oV 32 (evBuiltin T0 sx4.h .len [32] [t31]) fun t32 =>
   P.oV 33 (evBin T0 .neq 3 false t29 t32) fun t33 =>
   k t27 t28 t29 t30 t31 t32 t33 sx4) sx4 fun t27 t28 t29 t30 t31 t32 t33 sx5 =>
  P.oV 34 (evPick t25 (some (.b true)) (some t33)) fun t34 =>
  P.oG [36, 37, 38, 39, 40, 41, 42] t34 false (fun (k : C7) => P.oV 36 (evOff 4 t2) fun t36 =>
   P.oV 37 (evLoad T0 sx5.h 33 t36) fun t37 =>
   P.oV 38 (evBuiltin T0 sx5.h .len [33] [t37]) fun t38 =>
   P.oV 39 (evOff 4 t3) fun t39 =>
   P.oV 40 (evLoad T0 sx5.h 33 t39) fun t40 =>
   P.oV 41 (evBuiltin T0 sx5.h .len [33] [t40]) fun t41 =>
   P.oV 42 (evBin T0 .neq 3 false t38 t41) fun t42 =>
   k t36 t37 t38 t39 t40 t41 t42 sx5) sx5 fun t36 t37 t38 t39 t40 t41 t42 sx6 =>
  P.oV 43 (evPick t34 (some (.b true)) (some t42)) fun t43 =>
  P.oI t43 (Q (.b false) sx6)
  (P.oL [3, 2, 5] (fun (next : C3) t3x1 t2x1 t5 sx7 =>
   P.oV 45 (evOff 3 t2x1) fun t45 =>
   P.oV 46 (evLoad T0 sx7.h 32 t45) fun t46 =>
   P.oV 47 (evBuiltin T0 sx7.h .len [32] [t46]) fun t47 =>
   P.oV 48 (evBin T0 .lss 3 false t5 t47) fun t48 =>
   P.oI t48 (P.oV 51 (evOff 3 t2x1) fun t51 =>
    P.oV 52 (evLoad T0 sx7.h 32 t51) fun t52 =>
    P.oV 54 (evIndexAddr T0 32 t52 t5) fun t54 =>
    P.oV 55 (evLoad T0 sx7.h 35 t54) fun t55 =>
    P.oV 56 (evOff 3 t3x1) fun t56 =>
    P.oV 57 (evLoad T0 sx7.h 32 t56) fun t57 =>
    P.oV 59 (evIndexAddr T0 32 t57 t5) fun t59 =>
    P.oV 60 (evLoad T0 sx7.h 35 t59) fun t60 =>
    P.oC 61 27 [t55, t60] sx7 fun t61 sx8 =>
    P.oV 62 (evUn .not t61) fun t62 =>
    P.oI t62 (Q (.b false) sx7)
    (P.oV 50 (evBin T0 .add 3 true t5 (.i .i64 1)) fun t50 =>
     next t3x1 t2x1 t50 sx7))
   (P.oL [3, 2, 6] (fun (nextx1 : C3) t3x2 t2x2 t6 sx8 =>
    P.oV 64 (evOff 4 t2x2) fun t64 =>
    P.oV 65 (evLoad T0 sx8.h 33 t64) fun t65 =>
    P.oV 66 (evBuiltin T0 sx8.h .len [33] [t65]) fun t66 =>
    P.oV 67 (evBin T0 .lss 3 false t6 t66) fun t67 =>
    P.oI t67 (P.oV 70 (evOff 4 t2x2) fun t70 =>
     P.oV 71 (evLoad T0 sx8.h 33 t70) fun t71 =>
     P.oV 73 (evIndexAddr T0 33 t71 t6) fun t73 =>
     P.oV 74 (evOff 0 t73) fun t74 =>
     P.oV 75 (evLoad T0 sx8.h 9 t74) fun t75 =>
     P.oV 76 (evOff 4 t3x2) fun t76 =>
     P.oV 77 (evLoad T0 sx8.h 33 t76) fun t77 =>
     P.oV 79 (evIndexAddr T0 33 t77 t6) fun t79 =>
     P.oV 80 (evOff 0 t79) fun t80 =>
     P.oV 81 (evLoad T0 sx8.h 9 t80) fun t81 =>
     P.oV 82 (evBin T0 .neq 9 false t75 t81) fun t82 =>
     P.oG [84, 85, 86, 87, 88, 89, 90, 91, 92, 93, 94, 95, 96, 97] t82 false (fun (k : C14) => P.oV 84 (evOff 4 t2x2) fun t84 =>
      P.oV 85 (evLoad T0 sx8.h 33 t84) fun t85 =>
      P.oV 87 (evIndexAddr T0 33 t85 t6) fun t87 =>
      P.oV 88 (evOff 1 t87) fun t88 =>
      P.oV 89 (evLoad T0 sx8.h 35 t88) fun t89 =>
      P.oV 90 (evOff 4 t3x2) fun t90 =>
      P.oV 91 (evLoad T0 sx8.h 33 t90) fun t91 =>
      P.oV 93 (evIndexAddr T0 33 t91 t6) fun t93 =>
      P.oV 94 (evOff 1 t93) fun t94 =>
      P.oV 95 (evLoad T0 sx8.h 35 t94) fun t95 =>
      P.oC 96 27 [t89, t95] sx8 fun t96 sx9 =>
      P.oV 97 (evUn .not t96) fun t97 =>
      k t84 t85 t6 t87 t88 t89 t90 t91 t6 t93 t94 t95 t96 t97 sx8) sx8 fun t84 t85 t86 t87 t88 t89 t90 t91 t92 t93 t94 t95 t96 t97 sx9 =>
     P.oV 98 (evPick t82 (some (.b true)) (some t97)) fun t98 =>
     P.oI t98 (Q (.b false) sx8)
     (P.oV 69 (evBin T0 .add 3 true t6 (.i .i64 1)) fun t69 =>
      nextx1 t3x2 t2x2 t69 sx8))
    (Q (.b true) sx8)) t3x1 t2x1 (.i .i64 0) sx7)) t3 t2 (.i .i64 0) sx6)
theorem w27_eq (P : Prims) (a0 a1 : AV) (Q : AV → AS → Prop) : w27 P a0 a1 Q = vcBody P T0 Go.Proofs.Tryz.f27 (codeOf Go.Proofs.Tryz.f27) an27 [a0, a1] ⟨.nil, 0⟩ Q := by kernel_rfl
theorem r27 (a0 a1 : AV) {r : AV} (hi : AV.idfree.idfrees [a0, a1] = true) (hn : AV.norm.norms [a0, a1] = [a0, a1]) (h : w27 (prims T0) a0 a1 (fun r1 s1 => oZ T0 s1 r1 (fun r2 => r2 = r))) : R T0 27 [a0, a1] r :=
  R.mk (by kernel_rfl) (by kernel_rfl) (show T0.fn 27 = some Go.Proofs.Tryz.f27 by kernel_rfl) (by kernel_rfl) (by kernel_rfl) hi hn (by rw [w27_eq] at h; exact h)
/- orchestrator/orchestratorref06.left -/
def an48 : AN := (.seq none .leaf (.seq none .leaf (.seq none (.seq none .leaf (.one (.loop [1, 2, 5] (.seq none (.seq none .leaf (.two .leaf .leaf)) (.seq none (.one .leaf) .leaf))))) (.seq none (.seq none .leaf (.one (.loop [1, 2, 6] (.seq none (.seq none .leaf (.two .leaf .leaf)) (.seq none (.one .leaf) .leaf))))) (.seq none .leaf .leaf)))))
def w48 (P : Prims) (a0 a1 : AV) (Q : AV → AS → Prop) : Prop :=
  P.oN 2 (.cells (AV.cells a0) 35 false) (fun id => (.ptr id 0)) ⟨Tr.nil, 0⟩ fun t2 sx1 =>
  P.oV 8 (evBin T0 .sub 3 true a1 (.i .i64 1)) fun t8 =>
  P.oV 9 (evOff 2 t2) fun t9 =>
  P.oV 10 (evLoad T0 sx1.h 9 t9) fun t10 =>
  P.oV 11 (evBuiltin T0 sx1.h .len [9] [t10]) fun t11 =>
  P.oV 12 (evBin T0 .sub 3 false t8 t11) fun t12 =>
  P.oL [1, 2, 5] (fun (next : C3) t1 t2x1 t5 sx2 =>
  P.oV 14 (evOff 3 t2x1) fun t14 =>
  P.oV 15 (evLoad T0 sx2.h 32 t14) fun t15 =>
  P.oV 16 (evBuiltin T0 sx2.h .len [32] [t15]) fun t16 =>
  P.oV 17 (evBin T0 .lss 3 false t5 t16) fun t17 =>
  P.oG [19, 20] t17 true (fun (k : C2) => P.oV 20 (evBin T0 .geq 3 true t1 (.i .i64 0)) fun t20 =>
   k t1 t20 sx2) sx2 fun t19 t20 sx3 =>
  P.oV 21 (evPick t17 (some t20) (some (.b false))) fun t21 =>
  P.oI t21 (P.oV 24 (evOff 3 t2x1) fun t24 =>
   P.oV 25 (evLoad T0 sx3.h 32 t24) fun t25 =>
   P.oV 27 (evIndexAddr T0 32 t25 t5) fun t27 =>
   P.oV 28 (evLoad T0 sx3.h 35 t27) fun t28 =>
   P.oC 30 48 [t28, t1] sx3 fun t30 sx4 =>
   P.oV 23 (evBin T0 .add 3 true t5 (.i .i64 1)) fun t23 =>
   next t30 t2x1 t23 sx4)
  (P.oL [1, 2, 6] (fun (nextx1 : C3) t1x1 t2x2 t6 sx4 =>
   P.oV 32 (evOff 4 t2x2) fun t32 =>
   P.oV 33 (evLoad T0 sx4.h 33 t32) fun t33 =>
   P.oV 34 (evBuiltin T0 sx4.h .len [33] [t33]) fun t34 =>
   P.oV 35 (evBin T0 .lss 3 false t6 t34) fun t35 =>
   P.oG [37, 38] t35 true (fun (k : C2) => P.oV 38 (evBin T0 .geq 3 true t1x1 (.i .i64 0)) fun t38 =>
    k t1x1 t38 sx4) sx4 fun t37 t38 sx5 =>
   P.oV 39 (evPick t35 (some t38) (some (.b false))) fun t39 =>
   P.oI t39 (P.oV 42 (evOff 4 t2x2) fun t42 =>
    P.oV 43 (evLoad T0 sx5.h 33 t42) fun t43 =>
    P.oV 45 (evIndexAddr T0 33 t43 t6) fun t45 =>
    P.oV 46 (evOff 1 t45) fun t46 =>
    P.oV 47 (evLoad T0 sx5.h 35 t46) fun t47 =>
    P.oV 49 (evOff 4 t2x2) fun t49 =>
    P.oV 50 (evLoad T0 sx5.h 33 t49) fun t50 =>
    P.oV 52 (evIndexAddr T0 33 t50 t6) fun t52 =>
    P.oV 53 (evOff 0 t52) fun t53 =>
    P.oV 54 (evLoad T0 sx5.h 9 t53) fun t54 =>
    P.oV 55 (evBuiltin T0 sx5.h .len [9] [t54]) fun t55 =>
    P.oV 56 (evBin T0 .sub 3 false t1x1 t55) fun t56 =>
    P.oC 57 48 [t47, t56] sx5 fun t57 sx6 =>
    P.oV 41 (evBin T0 .add 3 true t6 (.i .i64 1)) fun t41 =>
    nextx1 t57 t2x2 t41 sx5)
   (Q t1x1 sx5)) t1 t2x1 (.i .i64 0) sx3)) t12 t2 (.i .i64 0) sx1
theorem w48_eq (P : Prims) (a0 a1 : AV) (Q : AV → AS → Prop) : w48 P a0 a1 Q = vcBody P T0 Go.Proofs.Tryz.f48 (codeOf Go.Proofs.Tryz.f48) an48 [a0, a1] ⟨.nil, 0⟩ Q := by kernel_rfl
theorem r48 (a0 a1 : AV) {r : AV} (hi : AV.idfree.idfrees [a0, a1] = true) (hn : AV.norm.norms [a0, a1] = [a0, a1]) (h : w48 (prims T0) a0 a1 (fun r1 s1 => oZ T0 s1 r1 (fun r2 => r2 = r))) : R T0 48 [a0, a1] r :=
  R.mk (by kernel_rfl) (by kernel_rfl) (show T0.fn 48 = some Go.Proofs.Tryz.f48 by kernel_rfl) (by kernel_rfl) (by kernel_rfl) hi hn (by rw [w48_eq] at h; exact h)
/- orchestrator/path.child -/
def an49 : AN := (.seq none .leaf (.seq none (.one (.seq none .leaf (.two (.seq none .leaf .leaf) (.seq none .leaf (.two (.seq none .leaf .leaf) (.seq none .leaf (.two (.seq none .leaf .leaf) .leaf))))))) (.seq none .leaf .leaf)))
def w49 (P : Prims) (a0 a1 : AV) (Q : AV → AS → Prop) : Prop :=
  P.oN 2 (.cells (AV.cells a0) 35 false) (fun id => (.ptr id 0)) ⟨Tr.nil, 0⟩ fun t2 sx1 =>
  P.oN 3 (.cells (AV.cells a1) 50 false) (fun id => (.ptr id 0)) sx1 fun t3 sx2 =>
  P.oV 6 (evOff 0 t3) fun t6 =>
  P.oV 7 (evLoad T0 sx2.h 3 t6) fun t7 =>
  P.oV 8 (evBin T0 .eql 3 true t7 (.i .i64 1)) fun t8 =>
  P.oG [10, 11, 12] t8 true (fun (k : C3) => P.oV 10 (evOff 0 t2) fun t10 =>
   P.oV 11 (evLoad T0 sx2.h 3 t10) fun t11 =>
   P.oV 12 (evBin T0 .eql 3 true t11 (.i .i64 5)) fun t12 =>
   k t10 t11 t12 sx2) sx2 fun t10 t11 t12 sx3 =>
  P.oV 13 (evPick t8 (some t12) (some (.b false))) fun t13 =>
  P.oI t13 (P.oV 14 (evOff 4 t2) fun t14 =>
   P.oV 15 (evLoad T0 sx3.h 33 t14) fun t15 =>
   P.oC 17 72 [t15, (.fn 73 [] [t3])] sx3 fun t17 sx4 =>
   Q t17 sx4)
  (P.oV 19 (evOff 0 t3) fun t19 =>
   P.oV 20 (evLoad T0 sx3.h 3 t19) fun t20 =>
   P.oV 21 (evBin T0 .eql 3 true t20 (.i .i64 2)) fun t21 =>
   P.oG [23, 24, 25] t21 true (fun (k : C3) => P.oV 23 (evOff 0 t2) fun t23 =>
    P.oV 24 (evLoad T0 sx3.h 3 t23) fun t24 =>
    P.oV 25 (evBin T0 .eql 3 true t24 (.i .i64 4)) fun t25 =>
    k t23 t24 t25 sx3) sx3 fun t23 t24 t25 sx4 =>
   P.oV 26 (evPick t21 (some t25) (some (.b false))) fun t26 =>
   P.oG [28, 29, 30, 31, 32, 33] t26 true (fun (k : C6) => P.oV 28 (evOff 2 t3) fun t28 =>
    P.oV 29 (evLoad T0 sx4.h 3 t28) fun t29 =>
    P.oV 30 (evOff 3 t2) fun t30 =>
    P.oV 31 (evLoad T0 sx4.h 32 t30) fun t31 =>
    P.oV 32 (evBuiltin T0 sx4.h .len [32] [t31]) fun t32 =>
    P.oV 33 (evBin T0 .lss 3 false t29 t32) fun t33 =>
    k t28 t29 t30 t31 t32 t33 sx4) sx4 fun t28 t29 t30 t31 t32 t33 sx5 =>
   P.oV 34 (evPick t26 (some t33) (some (.b false))) fun t34 =>
   P.oI t34 (P.oV 35 (evOff 2 t3) fun t35 =>
    P.oV 36 (evLoad T0 sx5.h 3 t35) fun t36 =>
    Q t36 sx5)
   (P.oV 38 (evOff 0 t3) fun t38 =>
    P.oV 39 (evLoad T0 sx5.h 3 t38) fun t39 =>
    P.oV 40 (evBin T0 .eql 3 true t39 (.i .i64 3)) fun t40 =>
    P.oG [42, 43, 44] t40 true (fun (k : C3) => P.oV 42 (evOff 0 t2) fun t42 =>
     P.oV 43 (evLoad T0 sx5.h 3 t42) fun t43 =>
     P.oV 44 (evBin T0 .eql 3 true t43 (.i .i64 4)) fun t44 =>
     k t42 t43 t44 sx5) sx5 fun t42 t43 t44 sx6 =>
    P.oV 45 (evPick t40 (some t44) (some (.b false))) fun t45 =>
    P.oI t45 (P.oV 46 (evOff 3 t2) fun t46 =>
     P.oV 47 (evLoad T0 sx6.h 32 t46) fun t47 =>
     P.oC 49 74 [t47, (.fn 75 [] [t3])] sx6 fun t49 sx7 =>
     Q t49 sx7)
    (Q (.i .i64 (-1)) sx6)))
theorem w49_eq (P : Prims) (a0 a1 : AV) (Q : AV → AS → Prop) : w49 P a0 a1 Q = vcBody P T0 Go.Proofs.Tryz.f49 (codeOf Go.Proofs.Tryz.f49) an49 [a0, a1] ⟨.nil, 0⟩ Q := by kernel_rfl
theorem r49 (a0 a1 : AV) {r : AV} (hi : AV.idfree.idfrees [a0, a1] = true) (hn : AV.norm.norms [a0, a1] = [a0, a1]) (h : w49 (prims T0) a0 a1 (fun r1 s1 => oZ T0 s1 r1 (fun r2 => r2 = r))) : R T0 49 [a0, a1] r :=
  R.mk (by kernel_rfl) (by kernel_rfl) (show T0.fn 49 = some Go.Proofs.Tryz.f49 by kernel_rfl) (by kernel_rfl) (by kernel_rfl) hi hn (by rw [w49_eq] at h; exact h)
/- orchestrator/path.clone -/
def an50 : AN := (.seq none .leaf (.seq none .leaf (.seq none (.seq none .leaf (.one (.loop [2, 1, 15, 16] (.seq none .leaf (.seq none (.two .leaf .leaf) (.seq none (.one (.seq none .leaf .leaf)) .leaf)))))) (.seq none (.seq none .leaf (.one (.loop [2, 1, 32, 33] (.seq none .leaf (.seq none (.two .leaf .leaf) (.seq none (.one (.seq none .leaf .leaf)) .leaf)))))) (.seq none .leaf .leaf)))))
def w50 (P : Prims) (a0 : AV) (Q : AV → AS → Prop) : Prop :=
  P.oN 1 (.cells (AV.cells a0) 35 false) (fun id => (.ptr id 0)) ⟨Tr.nil, 0⟩ fun t1 sx1 =>
  P.oN 2 (.cells [(.i .i64 0), (.i .i64 0), (.s []), (.nilz true), (.nilz true)] 35 false) (fun id => (.ptr id 0)) sx1 fun t2 sx2 =>
  P.oV 5 (evOff 3 t1) fun t5 =>
  P.oV 6 (evLoad T0 sx2.h 32 t5) fun t6 =>
  P.oA 7 77 [t6] sx2.n fun t7 b =>
  P.oV 8 (evOff 4 t1) fun t8 =>
  P.oT (readOK sx2.n [3] [(2, (sx2.n, b))] [(2, (sx2.n, b))]) (P.oV 9 (evLoad T0 sx2.h 33 t8) fun t9 =>
  P.oT (readOK sx2.n [0, 1, 2, 3, 4] [(2, (sx2.n, b))] [(2, (sx2.n, b))]) (P.oA 10 78 [t9] (sx2.n + 1) fun t10 bx1 =>
  P.oV 11 (evOff 3 t1) fun t11 =>
  P.oT (readOK sx2.n [3, 4, 0, 1, 2, 5, 6] [(5, ((sx2.n + 1), bx1)), (2, (sx2.n, b))] [(5, ((sx2.n + 1), bx1)), (2, (sx2.n, b))]) (P.oD (storeA T0 ((sx2.h.put sx2.n b).put (sx2.n + 1) bx1) 32 t11 t7) fun i bx2 =>
  P.oT ((rdsOK sx2.n (befG [[], [0], [0, 1], [], [3], [0, 1, 2, 3, 4], [3, 4, 0, 1, 2], [3, 4, 0, 1, 2, 5, 6], [3, 4, 0, 1, 2, 5, 6, 7], [3, 4, 0, 1, 2, 5, 6, 7, 8]]) [3, 4, 0, 1, 2, 5, 6] [(5, ((sx2.n + 1), bx1)), (2, (sx2.n, b))] i [4, 1]) && (wrsOK [3, 4, 0, 1, 2, 5, 6] i [(5, ((sx2.n + 1), bx1)), (2, (sx2.n, b))])) (P.oV 12 (evOff 4 t1) fun t12 =>
  P.oT (readOK sx2.n [3, 4, 0, 1, 2, 5, 6, 7, 8] [(7, (i, (some bx2))), (5, ((sx2.n + 1), bx1)), (2, (sx2.n, b))] [(7, (i, (some bx2))), (5, ((sx2.n + 1), bx1)), (2, (sx2.n, b))]) (P.oD (storeA T0 (((sx2.h.put sx2.n b).put (sx2.n + 1) bx1).put i (some bx2)) 33 t12 t10) fun ix1 bx3 =>
  P.oT ((rdsOK sx2.n (befG [[], [0], [0, 1], [], [3], [0, 1, 2, 3, 4], [3, 4, 0, 1, 2], [3, 4, 0, 1, 2, 5, 6], [3, 4, 0, 1, 2, 5, 6, 7], [3, 4, 0, 1, 2, 5, 6, 7, 8]]) [3, 4, 0, 1, 2, 5, 6, 7, 8] [(7, (i, (some bx2))), (5, ((sx2.n + 1), bx1)), (2, (sx2.n, b))] ix1 [4, 1]) && (wrsOK [3, 4, 0, 1, 2, 5, 6, 7, 8] ix1 [(7, (i, (some bx2))), (5, ((sx2.n + 1), bx1)), (2, (sx2.n, b))])) (P.oS ⟨((((sx2.h.put sx2.n b).put (sx2.n + 1) bx1).put i (some bx2)).put ix1 (some bx3)), ((sx2.n + 1) + 1)⟩ fun sx3 =>
  P.oV 13 (evOff 3 t1) fun t13 =>
  P.oV 14 (evLoad T0 sx3.h 32 t13) fun t14 =>
  P.oV 15 (evBuiltin T0 sx3.h .len [32] [t14]) fun t15 =>
  P.oL [2, 1, 15, 16] (fun (next : C4) t2x1 t1x1 t15x1 t16 sx4 =>
  P.oV 17 (evBin T0 .lss 3 false t16 t15x1) fun t17 =>
  P.oI t17 (P.oV 19 (evOff 3 t1x1) fun t19 =>
   P.oV 20 (evLoad T0 sx4.h 32 t19) fun t20 =>
   P.oV 22 (evOff 3 t1x1) fun t22 =>
   P.oV 23 (evLoad T0 sx4.h 32 t22) fun t23 =>
   P.oV 25 (evIndexAddr T0 32 t23 t16) fun t25 =>
   P.oV 26 (evLoad T0 sx4.h 35 t25) fun t26 =>
   P.oC 27 50 [t26] sx4 fun t27 sx5 =>
   P.oV 28 (evIndexAddr T0 32 t20 t16) fun t28 =>
   P.oD (storeA T0 sx4.h 35 t28 t27) fun ix2 bx4 =>
   P.oT ((rdsOK sx4.n (befG [[], [0], [], [], [3], [], [5, 3, 4], [5, 3, 4, 6], [5, 3, 4, 6, 7], [5, 3, 4, 6, 7, 8, 2, 0, 1], [5, 3, 4, 6, 7, 8, 2, 0, 1, 9]]) [5, 3, 4, 6, 7, 8, 2, 0, 1, 9] [] ix2 [8, 7, 4, 1]) && (wrsOK [5, 3, 4, 6, 7, 8, 2, 0, 1, 9] ix2 [])) (P.oS ⟨(sx4.h.put ix2 (some bx4)), sx4.n⟩ fun sx6 =>
   P.oV 29 (evBin T0 .add 3 true t16 (.i .i64 1)) fun t29 =>
   next t2x1 t1x1 t15x1 t29 sx6))
  (P.oV 30 (evOff 4 t1x1) fun t30 =>
   P.oV 31 (evLoad T0 sx4.h 33 t30) fun t31 =>
   P.oV 32 (evBuiltin T0 sx4.h .len [33] [t31]) fun t32 =>
   P.oL [2, 1, 32, 33] (fun (nextx1 : C4) t2x2 t1x2 t32x1 t33 sx5 =>
   P.oV 34 (evBin T0 .lss 3 false t33 t32x1) fun t34 =>
   P.oI t34 (P.oV 36 (evOff 4 t1x2) fun t36 =>
    P.oV 37 (evLoad T0 sx5.h 33 t36) fun t37 =>
    P.oV 39 (evOff 4 t1x2) fun t39 =>
    P.oV 40 (evLoad T0 sx5.h 33 t39) fun t40 =>
    P.oV 42 (evIndexAddr T0 33 t40 t33) fun t42 =>
    P.oV 43 (evOff 1 t42) fun t43 =>
    P.oV 44 (evLoad T0 sx5.h 35 t43) fun t44 =>
    P.oC 45 50 [t44] sx5 fun t45 sx6 =>
    P.oV 46 (evIndexAddr T0 33 t37 t33) fun t46 =>
    P.oV 47 (evOff 1 t46) fun t47 =>
    P.oD (storeA T0 sx5.h 35 t47 t45) fun ix2 bx4 =>
    P.oT ((rdsOK sx5.n (befG [[], [0], [], [], [3], [], [5, 3, 4], [5, 3, 4, 6], [5, 3, 4, 6, 7], [5, 3, 4, 6, 7, 8], [5, 3, 4, 6, 7, 8, 9, 2, 0, 1], [5, 3, 4, 6, 7, 8, 9, 2, 0, 1, 10], [5, 3, 4, 6, 7, 8, 9, 2, 0, 1, 10, 11]]) [5, 3, 4, 6, 7, 8, 9, 2, 0, 1, 10, 11] [] ix2 [9, 8, 4, 1]) && (wrsOK [5, 3, 4, 6, 7, 8, 9, 2, 0, 1, 10, 11] ix2 [])) (P.oS ⟨(sx5.h.put ix2 (some bx4)), sx5.n⟩ fun sx7 =>
    P.oV 48 (evBin T0 .add 3 true t33 (.i .i64 1)) fun t48 =>
    nextx1 t2x2 t1x2 t32x1 t48 sx7))
   (P.oV 49 (evLoad T0 sx5.h 35 t1x2) fun t49 =>
    P.oH (evStore T0 sx5.h 35 t2x2 t49) sx5 fun sx6 =>
    P.oV 2 (evLoad T0 sx6.h 35 t2x2) fun t2x3 =>
    Q t2x3 sx6)) t2x1 t1x1 t32 (.i .i64 0) sx4)) t2 t1 t15 (.i .i64 0) sx3))))))
theorem w50_eq (P : Prims) (a0 : AV) (Q : AV → AS → Prop) : w50 P a0 Q = vcBody P T0 Go.Proofs.Tryz.f50 (codeOf Go.Proofs.Tryz.f50) an50 [a0] ⟨.nil, 0⟩ Q := by kernel_rfl
theorem r50 (a0 : AV) {r : AV} (hi : AV.idfree.idfrees [a0] = true) (hn : AV.norm.norms [a0] = [a0]) (h : w50 (prims T0) a0 (fun r1 s1 => oZ T0 s1 r1 (fun r2 => r2 = r))) : R T0 50 [a0] r :=
  R.mk (by kernel_rfl) (by kernel_rfl) (show T0.fn 50 = some Go.Proofs.Tryz.f50 by kernel_rfl) (by kernel_rfl) (by kernel_rfl) hi hn (by rw [w50_eq] at h; exact h)
/- orchestrator/orchestratorref06.Find -/
def an51 : AN := (.seq none .leaf (.seq none (.seq none .leaf (.two (.seq none .leaf .leaf) .leaf)) (.seq none (.seq none .leaf (.two (.seq none .leaf .leaf) .leaf)) (.seq none (.seq none .leaf (.two (.seq none (.seq none .leaf (.two (.seq none .leaf .leaf) .leaf)) (.seq none .leaf .leaf)) .leaf)) (.seq none (.seq none .leaf (.one (.loop [3, 2, 5] (.seq none (.seq none .leaf (.two .leaf .leaf)) (.seq none (.one (.seq none .leaf (.two (.seq none .leaf .leaf) .leaf))) .leaf))))) (.seq none .leaf .leaf))))))
def w51 (P : Prims) (a0 a1 : AV) (Q : AV → AS → Prop) : Prop :=
  P.oN 2 (.cells (AV.cells a0) 35 false) (fun id => (.ptr id 0)) ⟨Tr.nil, 0⟩ fun t2 sx1 =>
  P.oN 3 (.cells (AV.cells a1) 50 false) (fun id => (.ptr id 0)) sx1 fun t3 sx2 =>
  P.oV 6 (evOff 0 t3) fun t6 =>
  P.oV 7 (evLoad T0 sx2.h 3 t6) fun t7 =>
  P.oV 8 (evBin T0 .eql 3 true t7 (.i .i64 1)) fun t8 =>
  P.oI t8 (P.oV 9 (evLoad T0 sx2.h 35 t2) fun t9 =>
   P.oV 10 (evOff 1 t3) fun t10 =>
   P.oV 11 (evLoad T0 sx2.h 9 t10) fun t11 =>
   P.oC 12 79 [t9, t11] sx2 fun t12 sx3 =>
   Q t12 sx3)
  (P.oV 13 (evOff 0 t2) fun t13 =>
   P.oV 14 (evLoad T0 sx2.h 3 t13) fun t14 =>
   P.oV 15 (evBin T0 .neq 3 true t14 (.i .i64 4)) fun t15 =>
   P.oI t15 (Q (.i .i64 (-1)) sx2)
   (P.oV 16 (evOff 0 t3) fun t16 =>
    P.oV 17 (evLoad T0 sx2.h 3 t16) fun t17 =>
    P.oV 18 (evBin T0 .eql 3 true t17 (.i .i64 2)) fun t18 =>
    P.oI t18 (P.oV 19 (evOff 2 t3) fun t19 =>
     P.oV 20 (evLoad T0 sx2.h 3 t19) fun t20 =>
     P.oV 21 (evOff 3 t2) fun t21 =>
     P.oV 22 (evLoad T0 sx2.h 32 t21) fun t22 =>
     P.oV 23 (evBuiltin T0 sx2.h .len [32] [t22]) fun t23 =>
     P.oV 24 (evBin T0 .lss 3 false t20 t23) fun t24 =>
     P.oI t24 (P.oV 25 (evOff 2 t3) fun t25 =>
      P.oV 26 (evLoad T0 sx2.h 3 t25) fun t26 =>
      Q t26 sx2)
     (Q (.i .i64 (-1)) sx2))
    (P.oL [3, 2, 5] (fun (next : C3) t3x1 t2x1 t5 sx3 =>
     P.oV 28 (evOff 3 t2x1) fun t28 =>
     P.oV 29 (evLoad T0 sx3.h 32 t28) fun t29 =>
     P.oV 30 (evBuiltin T0 sx3.h .len [32] [t29]) fun t30 =>
     P.oV 31 (evBin T0 .lss 3 false t5 t30) fun t31 =>
     P.oI t31 (P.oV 34 (evOff 3 t2x1) fun t34 =>
      P.oV 35 (evLoad T0 sx3.h 32 t34) fun t35 =>
      P.oV 37 (evIndexAddr T0 32 t35 t5) fun t37 =>
      P.oV 38 (evLoad T0 sx3.h 35 t37) fun t38 =>
      P.oV 39 (evOff 1 t3x1) fun t39 =>
      P.oV 40 (evLoad T0 sx3.h 9 t39) fun t40 =>
      P.oV 41 (evOff 3 t3x1) fun t41 =>
      P.oV 42 (evLoad T0 sx3.h 9 t41) fun t42 =>
      P.oC 43 80 [t38, t40, t42] sx3 fun t43 sx4 =>
      P.oI t43 (Q t5 sx3)
      (P.oV 33 (evBin T0 .add 3 true t5 (.i .i64 1)) fun t33 =>
       next t3x1 t2x1 t33 sx3))
     (Q (.i .i64 (-1)) sx3)) t3 t2 (.i .i64 0) sx2)))
theorem w51_eq (P : Prims) (a0 a1 : AV) (Q : AV → AS → Prop) : w51 P a0 a1 Q = vcBody P T0 Go.Proofs.Tryz.f51 (codeOf Go.Proofs.Tryz.f51) an51 [a0, a1] ⟨.nil, 0⟩ Q := by kernel_rfl
theorem r51 (a0 a1 : AV) {r : AV} (hi : AV.idfree.idfrees [a0, a1] = true) (hn : AV.norm.norms [a0, a1] = [a0, a1]) (h : w51 (prims T0) a0 a1 (fun r1 s1 => oZ T0 s1 r1 (fun r2 => r2 = r))) : R T0 51 [a0, a1] r :=
  R.mk (by kernel_rfl) (by kernel_rfl) (show T0.fn 51 = some Go.Proofs.Tryz.f51 by kernel_rfl) (by kernel_rfl) (by kernel_rfl) hi hn (by rw [w51_eq] at h; exact h)
/- orchestrator/path.remove -/
def an52 : AN := (.seq none .leaf (.seq none .leaf (.seq none .leaf (.seq none .leaf (.seq (some [4, 2]) (.seq none .leaf (.one (.seq none .leaf (.two .leaf (.seq none .leaf (.two .leaf (.seq none .leaf (.two .leaf .leaf)))))))) (.seq none .leaf .leaf))))))
def w52 (P : Prims) (a0 a1 : AV) (Q : AV → AS → Prop) : Prop :=
  P.oN 2 (.cells (AV.cells a0) 35 false) (fun id => (.ptr id 0)) ⟨Tr.nil, 0⟩ fun t2 sx1 =>
  P.oN 4 (.cells [(.i .i64 0), (.i .i64 0), (.s []), (.nilz true), (.nilz true)] 35 false) (fun id => (.ptr id 0)) sx1 fun t4 sx2 =>
  P.oV 8 (evLoad T0 sx2.h 35 t2) fun t8 =>
  P.oV 10 (evIndexAddr T0 22 a1 (.i .i64 0)) fun t10 =>
  P.oV 11 (evLoad T0 sx2.h 50 t10) fun t11 =>
  P.oC 12 49 [t8, t11] sx2 fun t12 sx3 =>
  P.oV 13 (evOff 3 t2) fun t13 =>
  P.oV 14 (evLoad T0 sx2.h 32 t13) fun t14 =>
  P.oA 15 77 [t14] sx2.n fun t15 b =>
  P.oV 16 (evOff 4 t2) fun t16 =>
  P.oT (readOK sx2.n [3] [(2, (sx2.n, b))] [(2, (sx2.n, b))]) (P.oV 17 (evLoad T0 sx2.h 33 t16) fun t17 =>
  P.oT (readOK sx2.n [0, 1, 2, 3, 4] [(2, (sx2.n, b))] [(2, (sx2.n, b))]) (P.oA 18 78 [t17] (sx2.n + 1) fun t18 bx1 =>
  P.oV 19 (evOff 3 t2) fun t19 =>
  P.oT (readOK sx2.n [3, 4, 0, 1, 2, 5, 6] [(5, ((sx2.n + 1), bx1)), (2, (sx2.n, b))] [(5, ((sx2.n + 1), bx1)), (2, (sx2.n, b))]) (P.oD (storeA T0 ((sx2.h.put sx2.n b).put (sx2.n + 1) bx1) 32 t19 t15) fun i bx2 =>
  P.oT ((rdsOK sx2.n (befG [[], [0], [0, 1], [], [3], [0, 1, 2, 3, 4], [3, 4, 0, 1, 2], [3, 4, 0, 1, 2, 5, 6], [3, 4, 0, 1, 2, 5, 6, 7], [3, 4, 0, 1, 2, 5, 6, 7, 8]]) [3, 4, 0, 1, 2, 5, 6] [(5, ((sx2.n + 1), bx1)), (2, (sx2.n, b))] i [4, 1]) && (wrsOK [3, 4, 0, 1, 2, 5, 6] i [(5, ((sx2.n + 1), bx1)), (2, (sx2.n, b))])) (P.oV 20 (evOff 4 t2) fun t20 =>
  P.oT (readOK sx2.n [3, 4, 0, 1, 2, 5, 6, 7, 8] [(7, (i, (some bx2))), (5, ((sx2.n + 1), bx1)), (2, (sx2.n, b))] [(7, (i, (some bx2))), (5, ((sx2.n + 1), bx1)), (2, (sx2.n, b))]) (P.oD (storeA T0 (((sx2.h.put sx2.n b).put (sx2.n + 1) bx1).put i (some bx2)) 33 t20 t18) fun ix1 bx3 =>
  P.oT ((rdsOK sx2.n (befG [[], [0], [0, 1], [], [3], [0, 1, 2, 3, 4], [3, 4, 0, 1, 2], [3, 4, 0, 1, 2, 5, 6], [3, 4, 0, 1, 2, 5, 6, 7], [3, 4, 0, 1, 2, 5, 6, 7, 8]]) [3, 4, 0, 1, 2, 5, 6, 7, 8] [(7, (i, (some bx2))), (5, ((sx2.n + 1), bx1)), (2, (sx2.n, b))] ix1 [4, 1]) && (wrsOK [3, 4, 0, 1, 2, 5, 6, 7, 8] ix1 [(7, (i, (some bx2))), (5, ((sx2.n + 1), bx1)), (2, (sx2.n, b))])) (P.oS ⟨((((sx2.h.put sx2.n b).put (sx2.n + 1) bx1).put i (some bx2)).put ix1 (some bx3)), ((sx2.n + 1) + 1)⟩ fun sx4 =>
  P.oV 22 (evBuiltin T0 sx4.h .len [22] [a1]) fun t22 =>
  P.oV 23 (evBin T0 .eql 3 true t22 (.i .i64 1)) fun t23 =>
  P.oJ [4, 2] (fun (k : C2) =>
   P.oV 25 (evIndexAddr T0 22 a1 (.i .i64 0)) fun t25 =>
   P.oV 26 (evOff 0 t25) fun t26 =>
   P.oV 27 (evLoad T0 sx4.h 3 t26) fun t27 =>
   P.oV 28 (evBin T0 .eql 3 true t27 (.i .i64 1)) fun t28 =>
   P.oG [44] t28 true (fun (kx1 : C1) => kx1 t23 sx4) sx4 fun t44 sx5 =>
   P.oV 45 (evPick t28 (some t44) (some (.b false))) fun t45 =>
   P.oI t45 (P.oV 46 (evOff 4 t2) fun t46 =>
    P.oV 47 (evLoad T0 sx5.h 33 t46) fun t47 =>
    P.oV 50 (evBin T0 .add 3 true t12 (.i .i64 1)) fun t50 =>
    P.oC 51 81 [t47, t12, t50] sx5 fun t51 sx6 =>
    P.oV 52 (evOff 4 t2) fun t52 =>
    P.oH (evStore T0 sx6.h 33 t52 t51) sx6 fun sx7 =>
    k t4 t2 sx7)
   (P.oI t28 (P.oV 55 (evOff 4 t2) fun t55 =>
     P.oV 56 (evLoad T0 sx5.h 33 t55) fun t56 =>
     P.oV 58 (evOff 4 t2) fun t58 =>
     P.oV 59 (evLoad T0 sx5.h 33 t58) fun t59 =>
     P.oV 61 (evIndexAddr T0 33 t59 t12) fun t61 =>
     P.oV 62 (evOff 1 t61) fun t62 =>
     P.oV 63 (evLoad T0 sx5.h 35 t62) fun t63 =>
     P.oV 65 (evSliceH T0 Tr.nil 22 a1 (some (.i .i64 1)) none none) fun t65 =>
     P.oC 66 52 [t63, t65] sx5 fun t66 sx6 =>
     P.oV 67 (evIndexAddr T0 33 t56 t12) fun t67 =>
     P.oV 68 (evOff 1 t67) fun t68 =>
     P.oD (storeA T0 sx5.h 35 t68 t66) fun ix2 bx4 =>
     P.oT ((rdsOK sx5.n (befG [[], [0], [], [], [3], [], [5, 3, 4], [5, 3, 4, 6], [5, 3, 4, 6, 7], [], [9], [9, 10, 5, 3, 4, 6, 7, 8], [9, 10, 5, 3, 4, 6, 7, 8, 11, 2, 0, 1], [9, 10, 5, 3, 4, 6, 7, 8, 11, 2, 0, 1, 12], [9, 10, 5, 3, 4, 6, 7, 8, 11, 2, 0, 1, 12, 13]]) [9, 10, 5, 3, 4, 6, 7, 8, 11, 2, 0, 1, 12, 13] [] ix2 [11, 8, 4, 1]) && (wrsOK [9, 10, 5, 3, 4, 6, 7, 8, 11, 2, 0, 1, 12, 13] ix2 [])) (P.oS ⟨(sx5.h.put ix2 (some bx4)), sx5.n⟩ fun sx7 =>
     k t4 t2 sx7))
    (P.oI t23 (P.oV 71 (evOff 3 t2) fun t71 =>
      P.oV 72 (evLoad T0 sx5.h 32 t71) fun t72 =>
      P.oV 75 (evBin T0 .add 3 true t12 (.i .i64 1)) fun t75 =>
      P.oC 76 82 [t72, t12, t75] sx5 fun t76 sx6 =>
      P.oV 77 (evOff 3 t2) fun t77 =>
      P.oH (evStore T0 sx6.h 32 t77 t76) sx6 fun sx7 =>
      k t4 t2 sx7)
     (P.oV 29 (evOff 3 t2) fun t29 =>
      P.oV 30 (evLoad T0 sx5.h 32 t29) fun t30 =>
      P.oV 32 (evOff 3 t2) fun t32 =>
      P.oV 33 (evLoad T0 sx5.h 32 t32) fun t33 =>
      P.oV 35 (evIndexAddr T0 32 t33 t12) fun t35 =>
      P.oV 36 (evLoad T0 sx5.h 35 t35) fun t36 =>
      P.oV 38 (evSliceH T0 Tr.nil 22 a1 (some (.i .i64 1)) none none) fun t38 =>
      P.oC 39 52 [t36, t38] sx5 fun t39 sx6 =>
      P.oV 40 (evIndexAddr T0 32 t30 t12) fun t40 =>
      P.oD (storeA T0 sx5.h 35 t40 t39) fun ix2 bx4 =>
      P.oT ((rdsOK sx5.n (befG [[], [0], [], [], [3], [], [5, 3, 4], [5, 3, 4, 6], [], [8], [8, 9, 5, 3, 4, 6, 7], [8, 9, 5, 3, 4, 6, 7, 10, 2, 0, 1], [8, 9, 5, 3, 4, 6, 7, 10, 2, 0, 1, 11]]) [8, 9, 5, 3, 4, 6, 7, 10, 2, 0, 1, 11] [] ix2 [10, 7, 4, 1]) && (wrsOK [8, 9, 5, 3, 4, 6, 7, 10, 2, 0, 1, 11] ix2 [])) (P.oS ⟨(sx5.h.put ix2 (some bx4)), sx5.n⟩ fun sx7 =>
      k t4 t2 sx7)))))
  (fun t4x1 t2x1 sx5 =>
  P.oV 78 (evLoad T0 sx5.h 35 t2x1) fun t78 =>
  P.oH (evStore T0 sx5.h 35 t4x1 t78) sx5 fun sx6 =>
  P.oV 4 (evLoad T0 sx6.h 35 t4x1) fun t4x2 =>
  Q t4x2 sx6)))))))
theorem w52_eq (P : Prims) (a0 a1 : AV) (Q : AV → AS → Prop) : w52 P a0 a1 Q = vcBody P T0 Go.Proofs.Tryz.f52 (codeOf Go.Proofs.Tryz.f52) an52 [a0, a1] ⟨.nil, 0⟩ Q := by kernel_rfl
theorem r52 (a0 a1 : AV) {r : AV} (hi : AV.idfree.idfrees [a0, a1] = true) (hn : AV.norm.norms [a0, a1] = [a0, a1]) (h : w52 (prims T0) a0 a1 (fun r1 s1 => oZ T0 s1 r1 (fun r2 => r2 = r))) : R T0 52 [a0, a1] r :=
  R.mk (by kernel_rfl) (by kernel_rfl) (show T0.fn 52 = some Go.Proofs.Tryz.f52 by kernel_rfl) (by kernel_rfl) (by kernel_rfl) hi hn (by rw [w52_eq] at h; exact h)
/- orchestrator/orchestratorref06.cut -/
def an53 : AN := (.seq none .leaf (.seq none .leaf (.seq none (.seq none .leaf (.two (.seq none .leaf (.seq (some [4, 2, 5, 6]) (.seq none .leaf (.two .leaf .leaf)) (.seq none .leaf (.seq none .leaf (.seq none .leaf .leaf))))) .leaf)) (.seq none .leaf (.seq (some [4, 2, 5, 7]) (.seq none .leaf (.two .leaf .leaf)) (.seq none .leaf (.seq none .leaf (.seq none .leaf .leaf))))))))
def w53 (P : Prims) (a0 a1 : AV) (Q : AV → AS → Prop) : Prop :=
  P.oN 2 (.cells (AV.cells a0) 35 false) (fun id => (.ptr id 0)) ⟨Tr.nil, 0⟩ fun t2 sx1 =>
  P.oN 4 (.cells [(.i .i64 0), (.i .i64 0), (.s []), (.nilz true), (.nilz true)] 35 false) (fun id => (.ptr id 0)) sx1 fun t4 sx2 =>
  P.oV 8 (evLoad T0 sx2.h 35 t2) fun t8 =>
  P.oV 10 (evIndexAddr T0 22 a1 (.i .i64 0)) fun t10 =>
  P.oV 11 (evLoad T0 sx2.h 50 t10) fun t11 =>
  P.oC 12 51 [t8, t11] sx2 fun t12 sx3 =>
  P.oV 14 (evIndexAddr T0 22 a1 (.i .i64 0)) fun t14 =>
  P.oV 15 (evOff 0 t14) fun t15 =>
  P.oV 16 (evLoad T0 sx2.h 3 t15) fun t16 =>
  P.oV 17 (evBin T0 .eql 3 true t16 (.i .i64 1)) fun t17 =>
  P.oI t17 (P.oV 18 (evIce T0 33 0 []) fun t18 =>
   P.oV 19 (evOff 4 t2) fun t19 =>
   P.oV 20 (evLoad T0 sx2.h 33 t19) fun t20 =>
   P.oV 22 (evSliceH T0 sx2.h 33 t20 none (some t12) none) fun t22 =>
   P.oM 23 (evAppend T0 sx2 33 33 t18 t22) fun t23 sx4 =>
   P.oJ [4, 2, 5, 6] (fun (k : C4) =>
    P.oV 25 (evBuiltin T0 sx4.h .len [22] [a1]) fun t25 =>
    P.oV 26 (evBin T0 .gtr 3 true t25 (.i .i64 1)) fun t26 =>
    P.oI t26 (P.oV 28 (evOff 4 t2) fun t28 =>
     P.oV 29 (evLoad T0 sx4.h 33 t28) fun t29 =>
     P.oV 31 (evIndexAddr T0 33 t29 t12) fun t31 =>
     P.oV 32 (evOff 0 t31) fun t32 =>
     P.oV 33 (evLoad T0 sx4.h 9 t32) fun t33 =>
     P.oV 34 (evOff 4 t2) fun t34 =>
     P.oV 35 (evLoad T0 sx4.h 33 t34) fun t35 =>
     P.oV 37 (evIndexAddr T0 33 t35 t12) fun t37 =>
     P.oV 38 (evOff 1 t37) fun t38 =>
     P.oV 39 (evLoad T0 sx4.h 35 t38) fun t39 =>
     P.oV 41 (evSliceH T0 Tr.nil 22 a1 (some (.i .i64 1)) none none) fun t41 =>
     P.oC 42 53 [t39, t41] sx4 fun t42 sx5 =>
     P.oV 43 (evBuild T0 52 [(0, t33), (1, t42)]) fun t43 =>
     P.oV 44 (evIce T0 33 1 [(0, t43)]) fun t44 =>
     P.oM 45 (evAppend T0 sx4 33 33 t23 t44) fun t45 sx6 =>
     k t4 t2 t12 t45 sx6)
    (k t4 t2 t12 t23 sx4))
   (fun t4x1 t2x1 t5 t6 sx5 =>
   P.oV 47 (evOff 4 t2x1) fun t47 =>
   P.oV 48 (evLoad T0 sx5.h 33 t47) fun t48 =>
   P.oV 50 (evBin T0 .add 3 true t5 (.i .i64 1)) fun t50 =>
   P.oV 51 (evSliceH T0 sx5.h 33 t48 (some t50) none none) fun t51 =>
   P.oM 52 (evAppend T0 sx5 33 33 t6 t51) fun t52 sx6 =>
   P.oV 54 (evOff 4 t2x1) fun t54 =>
   P.oH (evStore T0 sx6.h 33 t54 t52) sx6 fun sx7 =>
   P.oV 55 (evLoad T0 sx7.h 35 t2x1) fun t55 =>
   P.oH (evStore T0 sx7.h 35 t4x1 t55) sx7 fun sx8 =>
   P.oV 4 (evLoad T0 sx8.h 35 t4x1) fun t4x2 =>
   Q t4x2 sx8))
  (P.oV 56 (evIce T0 32 0 []) fun t56 =>
   P.oV 57 (evOff 3 t2) fun t57 =>
   P.oV 58 (evLoad T0 sx2.h 32 t57) fun t58 =>
   P.oV 60 (evSliceH T0 sx2.h 32 t58 none (some t12) none) fun t60 =>
   P.oM 61 (evAppend T0 sx2 32 32 t56 t60) fun t61 sx4 =>
   P.oJ [4, 2, 5, 7] (fun (k : C4) =>
    P.oV 63 (evBuiltin T0 sx4.h .len [22] [a1]) fun t63 =>
    P.oV 64 (evBin T0 .gtr 3 true t63 (.i .i64 1)) fun t64 =>
    P.oI t64 (P.oV 66 (evOff 3 t2) fun t66 =>
     P.oV 67 (evLoad T0 sx4.h 32 t66) fun t67 =>
     P.oV 69 (evIndexAddr T0 32 t67 t12) fun t69 =>
     P.oV 70 (evLoad T0 sx4.h 35 t69) fun t70 =>
     P.oV 72 (evSliceH T0 Tr.nil 22 a1 (some (.i .i64 1)) none none) fun t72 =>
     P.oC 73 53 [t70, t72] sx4 fun t73 sx5 =>
     P.oV 74 (evIce T0 32 1 [(0, t73)]) fun t74 =>
     P.oM 75 (evAppend T0 sx4 32 32 t61 t74) fun t75 sx6 =>
     k t4 t2 t12 t75 sx6)
    (k t4 t2 t12 t61 sx4))
   (fun t4x1 t2x1 t5 t7 sx5 =>
   P.oV 77 (evOff 3 t2x1) fun t77 =>
   P.oV 78 (evLoad T0 sx5.h 32 t77) fun t78 =>
   P.oV 80 (evBin T0 .add 3 true t5 (.i .i64 1)) fun t80 =>
   P.oV 81 (evSliceH T0 sx5.h 32 t78 (some t80) none none) fun t81 =>
   P.oM 82 (evAppend T0 sx5 32 32 t7 t81) fun t82 sx6 =>
   P.oV 84 (evOff 3 t2x1) fun t84 =>
   P.oH (evStore T0 sx6.h 32 t84 t82) sx6 fun sx7 =>
   P.oV 85 (evLoad T0 sx7.h 35 t2x1) fun t85 =>
   P.oH (evStore T0 sx7.h 35 t4x1 t85) sx7 fun sx8 =>
   P.oV 4 (evLoad T0 sx8.h 35 t4x1) fun t4x2 =>
   Q t4x2 sx8))
theorem w53_eq (P : Prims) (a0 a1 : AV) (Q : AV → AS → Prop) : w53 P a0 a1 Q = vcBody P T0 Go.Proofs.Tryz.f53 (codeOf Go.Proofs.Tryz.f53) an53 [a0, a1] ⟨.nil, 0⟩ Q := by kernel_rfl
theorem r53 (a0 a1 : AV) {r : AV} (hi : AV.idfree.idfrees [a0, a1] = true) (hn : AV.norm.norms [a0, a1] = [a0, a1]) (h : w53 (prims T0) a0 a1 (fun r1 s1 => oZ T0 s1 r1 (fun r2 => r2 = r))) : R T0 53 [a0, a1] r :=
  R.mk (by kernel_rfl) (by kernel_rfl) (show T0.fn 53 = some Go.Proofs.Tryz.f53 by kernel_rfl) (by kernel_rfl) (by kernel_rfl) hi hn (by rw [w53_eq] at h; exact h)
/- slices.IndexFunc[[]orchestrator/api.Field,orchestrator/api.Field] -/
def an72 : AN := (.seq none .leaf (.seq none (.seq none .leaf (.one (.loop [0, 1, 7, 8] (.seq none .leaf (.seq none (.two .leaf .leaf) (.seq none (.one (.seq none .leaf (.seq none .leaf (.two (.seq none .leaf .leaf) .leaf)))) .leaf)))))) (.seq none .leaf .leaf)))
def w72 (P : Prims) (a0 a1 : AV) (Q : AV → AS → Prop) : Prop :=
  P.oV 7 (evBuiltin T0 Tr.nil .len [33] [a0]) fun t7 =>
  P.oL [0, 1, 7, 8] (fun (next : C4) t0 t1 t7x1 t8 sx1 =>
  P.oV 9 (evBin T0 .lss 3 false t8 t7x1) fun t9 =>
  P.oI t9 (P.oV 14 (evIndexAddr T0 33 t0 t8) fun t14 =>
   P.oV 15 (evLoad T0 sx1.h 52 t14) fun t15 =>
   P.oF 16 t1 [t15] sx1 fun t16 sx2 =>
   P.oI t16 (Q t8 sx2)
   (P.oV 18 (evBin T0 .add 3 true t8 (.i .i64 1)) fun t18 =>
    next t0 t1 t7x1 t18 sx2))
  (Q (.i .i64 (-1)) sx1)) a0 a1 t7 (.i .i64 0) ⟨Tr.nil, 0⟩
theorem w72_eq (P : Prims) (a0 a1 : AV) (Q : AV → AS → Prop) : w72 P a0 a1 Q = vcBody P T0 Go.Proofs.Tryz.f72 (codeOf Go.Proofs.Tryz.f72) an72 [a0, a1] ⟨.nil, 0⟩ Q := by kernel_rfl
theorem r72 (a0 a1 : AV) {r : AV} (hi : AV.idfree.idfrees [a0, a1] = true) (hn : AV.norm.norms [a0, a1] = [a0, a1]) (h : w72 (prims T0) a0 a1 (fun r1 s1 => oZ T0 s1 r1 (fun r2 => r2 = r))) : R T0 72 [a0, a1] r :=
  R.mk (by kernel_rfl) (by kernel_rfl) (show T0.fn 72 = some Go.Proofs.Tryz.f72 by kernel_rfl) (by kernel_rfl) (by kernel_rfl) hi hn (by rw [w72_eq] at h; exact h)
/- orchestrator/path.child$1 -/
def an73 : AN := (.seq none .leaf (.seq none .leaf .leaf))
def w73 (P : Prims) (a0 a1 : AV) (Q : AV → AS → Prop) : Prop :=
  P.oN 2 (.cells (AV.cells a0) 52 false) (fun id => (.ptr id 0)) ⟨Tr.nil, 0⟩ fun t2 sx1 =>
  P.oV 4 (evOff 0 t2) fun t4 =>
  P.oV 5 (evLoad T0 sx1.h 9 t4) fun t5 =>
  P.oV 6 (evOff 1 a1) fun t6 =>
  P.oV 7 (evLoad T0 sx1.h 9 t6) fun t7 =>
  P.oV 8 (evBin T0 .eql 9 false t5 t7) fun t8 =>
  Q t8 sx1
theorem w73_eq (P : Prims) (a0 a1 : AV) (Q : AV → AS → Prop) : w73 P a0 a1 Q = vcBody P T0 Go.Proofs.Tryz.f73 (codeOf Go.Proofs.Tryz.f73) an73 [a0, a1] ⟨.nil, 0⟩ Q := by kernel_rfl
theorem r73 (a0 a1 : AV) {r : AV} (hi : AV.idfree.idfrees [a0, a1] = true) (hn : AV.norm.norms [a0, a1] = [a0, a1]) (h : w73 (prims T0) a0 a1 (fun r1 s1 => oZ T0 s1 r1 (fun r2 => r2 = r))) : R T0 73 [a0, a1] r :=
  R.mk (by kernel_rfl) (by kernel_rfl) (show T0.fn 73 = some Go.Proofs.Tryz.f73 by kernel_rfl) (by kernel_rfl) (by kernel_rfl) hi hn (by rw [w73_eq] at h; exact h)
/- slices.IndexFunc[[]orchestrator/api.Value,orchestrator/api.Value] -/
def an74 : AN := (.seq none .leaf (.seq none (.seq none .leaf (.one (.loop [0, 1, 7, 8] (.seq none .leaf (.seq none (.two .leaf .leaf) (.seq none (.one (.seq none .leaf (.seq none .leaf (.two (.seq none .leaf .leaf) .leaf)))) .leaf)))))) (.seq none .leaf .leaf)))
def w74 (P : Prims) (a0 a1 : AV) (Q : AV → AS → Prop) : Prop :=
  P.oV 7 (evBuiltin T0 Tr.nil .len [32] [a0]) fun t7 =>
  P.oL [0, 1, 7, 8] (fun (next : C4) t0 t1 t7x1 t8 sx1 =>
  P.oV 9 (evBin T0 .lss 3 false t8 t7x1) fun t9 =>
  P.oI t9 (P.oV 14 (evIndexAddr T0 32 t0 t8) fun t14 =>
   P.oV 15 (evLoad T0 sx1.h 35 t14) fun t15 =>
   P.oF 16 t1 [t15] sx1 fun t16 sx2 =>
   P.oI t16 (Q t8 sx2)
   (P.oV 18 (evBin T0 .add 3 true t8 (.i .i64 1)) fun t18 =>
    next t0 t1 t7x1 t18 sx2))
  (Q (.i .i64 (-1)) sx1)) a0 a1 t7 (.i .i64 0) ⟨Tr.nil, 0⟩
theorem w74_eq (P : Prims) (a0 a1 : AV) (Q : AV → AS → Prop) : w74 P a0 a1 Q = vcBody P T0 Go.Proofs.Tryz.f74 (codeOf Go.Proofs.Tryz.f74) an74 [a0, a1] ⟨.nil, 0⟩ Q := by kernel_rfl
theorem r74 (a0 a1 : AV) {r : AV} (hi : AV.idfree.idfrees [a0, a1] = true) (hn : AV.norm.norms [a0, a1] = [a0, a1]) (h : w74 (prims T0) a0 a1 (fun r1 s1 => oZ T0 s1 r1 (fun r2 => r2 = r))) : R T0 74 [a0, a1] r :=
  R.mk (by kernel_rfl) (by kernel_rfl) (show T0.fn 74 = some Go.Proofs.Tryz.f74 by kernel_rfl) (by kernel_rfl) (by kernel_rfl) hi hn (by rw [w74_eq] at h; exact h)
/- orchestrator/path.child$2 -/
def an75 : AN := (.seq none .leaf (.seq none .leaf .leaf))
def w75 (P : Prims) (a0 a1 : AV) (Q : AV → AS → Prop) : Prop :=
  P.oN 2 (.cells (AV.cells a0) 35 false) (fun id => (.ptr id 0)) ⟨Tr.nil, 0⟩ fun t2 sx1 =>
  P.oV 4 (evLoad T0 sx1.h 35 t2) fun t4 =>
  P.oV 5 (evLoad T0 sx1.h 50 a1) fun t5 =>
  P.oC 6 76 [t4, t5] sx1 fun t6 sx2 =>
  Q t6 sx2
theorem w75_eq (P : Prims) (a0 a1 : AV) (Q : AV → AS → Prop) : w75 P a0 a1 Q = vcBody P T0 Go.Proofs.Tryz.f75 (codeOf Go.Proofs.Tryz.f75) an75 [a0, a1] ⟨.nil, 0⟩ Q := by kernel_rfl
theorem r75 (a0 a1 : AV) {r : AV} (hi : AV.idfree.idfrees [a0, a1] = true) (hn : AV.norm.norms [a0, a1] = [a0, a1]) (h : w75 (prims T0) a0 a1 (fun r1 s1 => oZ T0 s1 r1 (fun r2 => r2 = r))) : R T0 75 [a0, a1] r :=
  R.mk (by kernel_rfl) (by kernel_rfl) (show T0.fn 75 = some Go.Proofs.Tryz.f75 by kernel_rfl) (by kernel_rfl) (by kernel_rfl) hi hn (by rw [w75_eq] at h; exact h)
/- orchestrator/path.matches -/
def an76 : AN := (.seq none .leaf (.seq none .leaf (.seq none .leaf .leaf)))
def w76 (P : Prims) (a0 a1 : AV) (Q : AV → AS → Prop) : Prop :=
  P.oN 2 (.cells (AV.cells a0) 35 false) (fun id => (.ptr id 0)) ⟨Tr.nil, 0⟩ fun t2 sx1 =>
  P.oN 3 (.cells (AV.cells a1) 50 false) (fun id => (.ptr id 0)) sx1 fun t3 sx2 =>
  P.oV 8 (evLoad T0 sx2.h 35 t2) fun t8 =>
  P.oV 9 (evOff 1 t3) fun t9 =>
  P.oV 10 (evLoad T0 sx2.h 9 t9) fun t10 =>
  P.oC 11 101 [t8, t10] sx2 fun t11 sx3 =>
  P.oV 12 (evExtract 0 t11) fun t12 =>
  P.oV 13 (evExtract 1 t11) fun t13 =>
  P.oN 5 (.cells [(.i .i64 0), (.i .i64 0), (.s []), (.nilz true), (.nilz true)] 35 false) (fun id => (.ptr id 0)) sx3 fun t5 sx4 =>
  P.oH (evStore T0 sx4.h 35 t5 t12) sx4 fun sx5 =>
  P.oG [16, 17, 18] t13 true (fun (k : C3) => P.oV 16 (evOff 0 t5) fun t16 =>
   P.oV 17 (evLoad T0 sx5.h 3 t16) fun t17 =>
   P.oV 18 (evBin T0 .eql 3 true t17 (.i .i64 3)) fun t18 =>
   k t16 t17 t18 sx5) sx5 fun t16 t17 t18 sx6 =>
  P.oV 19 (evPick t13 (some t18) (some (.b false))) fun t19 =>
  P.oG [21, 22, 23, 24, 25] t19 true (fun (k : C5) => P.oV 21 (evOff 2 t5) fun t21 =>
   P.oV 22 (evLoad T0 sx6.h 9 t21) fun t22 =>
   P.oV 23 (evOff 3 t3) fun t23 =>
   P.oV 24 (evLoad T0 sx6.h 9 t23) fun t24 =>
   P.oV 25 (evBin T0 .eql 9 false t22 t24) fun t25 =>
   k t21 t22 t23 t24 t25 sx6) sx6 fun t21 t22 t23 t24 t25 sx7 =>
  P.oV 26 (evPick t19 (some t25) (some (.b false))) fun t26 =>
  Q t26 sx7
theorem w76_eq (P : Prims) (a0 a1 : AV) (Q : AV → AS → Prop) : w76 P a0 a1 Q = vcBody P T0 Go.Proofs.Tryz.f76 (codeOf Go.Proofs.Tryz.f76) an76 [a0, a1] ⟨.nil, 0⟩ Q := by kernel_rfl
theorem r76 (a0 a1 : AV) {r : AV} (hi : AV.idfree.idfrees [a0, a1] = true) (hn : AV.norm.norms [a0, a1] = [a0, a1]) (h : w76 (prims T0) a0 a1 (fun r1 s1 => oZ T0 s1 r1 (fun r2 => r2 = r))) : R T0 76 [a0, a1] r :=
  R.mk (by kernel_rfl) (by kernel_rfl) (show T0.fn 76 = some Go.Proofs.Tryz.f76 by kernel_rfl) (by kernel_rfl) (by kernel_rfl) hi hn (by rw [w76_eq] at h; exact h)
/- orchestrator/orchestratorref06.field -/
def an79 : AN := (.seq none .leaf (.seq none (.seq none .leaf (.one (.loop [1, 2, 5] (.seq none (.seq none .leaf (.two .leaf .leaf)) (.seq none (.one (.seq none .leaf (.two (.seq none .leaf .leaf) .leaf))) .leaf))))) (.seq none .leaf .leaf)))
def w79 (P : Prims) (a0 a1 : AV) (Q : AV → AS → Prop) : Prop :=
  P.oN 2 (.cells (AV.cells a0) 35 false) (fun id => (.ptr id 0)) ⟨Tr.nil, 0⟩ fun t2 sx1 =>
  P.oL [1, 2, 5] (fun (next : C3) t1 t2x1 t5 sx2 =>
  P.oV 7 (evOff 4 t2x1) fun t7 =>
  P.oV 8 (evLoad T0 sx2.h 33 t7) fun t8 =>
  P.oV 9 (evBuiltin T0 sx2.h .len [33] [t8]) fun t9 =>
  P.oV 10 (evBin T0 .lss 3 false t5 t9) fun t10 =>
  P.oI t10 (P.oV 13 (evOff 0 t2x1) fun t13 =>
   P.oV 14 (evLoad T0 sx2.h 3 t13) fun t14 =>
   P.oV 15 (evBin T0 .eql 3 true t14 (.i .i64 5)) fun t15 =>
   P.oG [17, 18, 19, 20, 21, 22, 23, 24] t15 true (fun (k : C8) => P.oV 17 (evOff 4 t2x1) fun t17 =>
    P.oV 18 (evLoad T0 sx2.h 33 t17) fun t18 =>
    P.oV 20 (evIndexAddr T0 33 t18 t5) fun t20 =>
    P.oV 21 (evOff 0 t20) fun t21 =>
    P.oV 22 (evLoad T0 sx2.h 9 t21) fun t22 =>
    P.oV 24 (evBin T0 .eql 9 false t22 t1) fun t24 =>
    k t17 t18 t5 t20 t21 t22 t1 t24 sx2) sx2 fun t17 t18 t19 t20 t21 t22 t23 t24 sx3 =>
   P.oV 25 (evPick t15 (some t24) (some (.b false))) fun t25 =>
   P.oI t25 (Q t5 sx3)
   (P.oV 12 (evBin T0 .add 3 true t5 (.i .i64 1)) fun t12 =>
    next t1 t2x1 t12 sx3))
  (Q (.i .i64 (-1)) sx2)) a1 t2 (.i .i64 0) sx1
theorem w79_eq (P : Prims) (a0 a1 : AV) (Q : AV → AS → Prop) : w79 P a0 a1 Q = vcBody P T0 Go.Proofs.Tryz.f79 (codeOf Go.Proofs.Tryz.f79) an79 [a0, a1] ⟨.nil, 0⟩ Q := by kernel_rfl
theorem r79 (a0 a1 : AV) {r : AV} (hi : AV.idfree.idfrees [a0, a1] = true) (hn : AV.norm.norms [a0, a1] = [a0, a1]) (h : w79 (prims T0) a0 a1 (fun r1 s1 => oZ T0 s1 r1 (fun r2 => r2 = r))) : R T0 79 [a0, a1] r :=
  R.mk (by kernel_rfl) (by kernel_rfl) (show T0.fn 79 = some Go.Proofs.Tryz.f79 by kernel_rfl) (by kernel_rfl) (by kernel_rfl) hi hn (by rw [w79_eq] at h; exact h)
/- orchestrator/orchestratorref06.has -/
def an80 : AN := (.seq none .leaf (.seq none .leaf (.seq none .leaf .leaf)))
def w80 (P : Prims) (a0 a1 a2 : AV) (Q : AV → AS → Prop) : Prop :=
  P.oN 3 (.cells (AV.cells a0) 35 false) (fun id => (.ptr id 0)) ⟨Tr.nil, 0⟩ fun t3 sx1 =>
  P.oV 8 (evLoad T0 sx1.h 35 t3) fun t8 =>
  P.oC 10 79 [t8, a1] sx1 fun t10 sx2 =>
  P.oV 12 (evBin T0 .geq 3 true t10 (.i .i64 0)) fun t12 =>
  P.oG [14, 15, 16, 17, 18, 19, 20, 21] t12 true (fun (k : C8) => P.oV 14 (evOff 4 t3) fun t14 =>
   P.oV 15 (evLoad T0 sx2.h 33 t14) fun t15 =>
   P.oV 17 (evIndexAddr T0 33 t15 t10) fun t17 =>
   P.oV 18 (evOff 1 t17) fun t18 =>
   P.oV 19 (evOff 0 t18) fun t19 =>
   P.oV 20 (evLoad T0 sx2.h 3 t19) fun t20 =>
   P.oV 21 (evBin T0 .eql 3 true t20 (.i .i64 3)) fun t21 =>
   k t14 t15 t10 t17 t18 t19 t20 t21 sx2) sx2 fun t14 t15 t16 t17 t18 t19 t20 t21 sx3 =>
  P.oV 22 (evPick t12 (some t21) (some (.b false))) fun t22 =>
  P.oG [24, 25, 26, 27, 28, 29, 30, 31, 32] t22 true (fun (k : C9) => P.oV 24 (evOff 4 t3) fun t24 =>
   P.oV 25 (evLoad T0 sx3.h 33 t24) fun t25 =>
   P.oV 27 (evIndexAddr T0 33 t25 t10) fun t27 =>
   P.oV 28 (evOff 1 t27) fun t28 =>
   P.oV 29 (evOff 2 t28) fun t29 =>
   P.oV 30 (evLoad T0 sx3.h 9 t29) fun t30 =>
   P.oV 32 (evBin T0 .eql 9 false t30 a2) fun t32 =>
   k t24 t25 t10 t27 t28 t29 t30 a2 t32 sx3) sx3 fun t24 t25 t26 t27 t28 t29 t30 t31 t32 sx4 =>
  P.oV 33 (evPick t22 (some t32) (some (.b false))) fun t33 =>
  Q t33 sx4
theorem w80_eq (P : Prims) (a0 a1 a2 : AV) (Q : AV → AS → Prop) : w80 P a0 a1 a2 Q = vcBody P T0 Go.Proofs.Tryz.f80 (codeOf Go.Proofs.Tryz.f80) an80 [a0, a1, a2] ⟨.nil, 0⟩ Q := by kernel_rfl
theorem r80 (a0 a1 a2 : AV) {r : AV} (hi : AV.idfree.idfrees [a0, a1, a2] = true) (hn : AV.norm.norms [a0, a1, a2] = [a0, a1, a2]) (h : w80 (prims T0) a0 a1 a2 (fun r1 s1 => oZ T0 s1 r1 (fun r2 => r2 = r))) : R T0 80 [a0, a1, a2] r :=
  R.mk (by kernel_rfl) (by kernel_rfl) (show T0.fn 80 = some Go.Proofs.Tryz.f80 by kernel_rfl) (by kernel_rfl) (by kernel_rfl) hi hn (by rw [w80_eq] at h; exact h)
/- slices.Delete[[]orchestrator/api.Field,orchestrator/api.Field] -/
def an81 : AN := (.seq none .leaf (.seq none .leaf (.seq none (.seq none .leaf (.two (.seq none .leaf .leaf) .leaf)) (.seq none .leaf (.seq none .leaf (.seq none .leaf (.seq none .leaf .leaf)))))))
def w81 (P : Prims) (a0 a1 a2 : AV) (s : AS) (Q : AV → AS → Prop) : Prop :=
  P.oV 12 (evBuiltin T0 s.h .len [33] [a0]) fun t12 =>
  P.oV 13 (evSliceH T0 s.h 33 a0 (some a1) (some a2) (some t12)) fun t13 =>
  P.oV 16 (evBin T0 .eql 3 false a1 a2) fun t16 =>
  P.oI t16 (Q a0 s)
  (P.oV 19 (evBuiltin T0 s.h .len [33] [a0]) fun t19 =>
   P.oV 22 (evSliceH T0 Tr.nil 33 a0 none (some a1) none) fun t22 =>
   P.oV 25 (evSliceH T0 Tr.nil 33 a0 (some a2) none none) fun t25 =>
   P.oM 26 (evAppend T0 s 33 33 t22 t25) fun t26 sx1 =>
   P.oV 29 (evBuiltin T0 sx1.h .len [33] [t26]) fun t29 =>
   P.oV 31 (evSliceH T0 sx1.h 33 t26 (some t29) (some t19) none) fun t31 =>
   P.oM 0 (evClear T0 sx1 33 t31) fun t0 sx2 =>
   Q t26 sx2)
theorem w81_eq (P : Prims) (a0 a1 a2 : AV) (s : AS) (Q : AV → AS → Prop) : w81 P a0 a1 a2 s Q = vcBody P T0 Go.Proofs.Tryz.f81 (codeOf Go.Proofs.Tryz.f81) an81 [a0, a1, a2] s Q := by kernel_rfl
theorem r81 (a0 a1 a2 : AV) {s s' : AS} {r : AV} (h : w81 (prims T0) a0 a1 a2 s (fun r1 s1 => r1 = r ∧ s1 = s')) : Runs T0 81 [a0, a1, a2] s r s' :=
  Runs.mk (by kernel_rfl) (by kernel_rfl) (show T0.fn 81 = some Go.Proofs.Tryz.f81 by kernel_rfl) (by kernel_rfl) (by kernel_rfl) (by kernel_rfl) (by rw [w81_eq] at h; exact h)
/- slices.Delete[[]orchestrator/api.Value,orchestrator/api.Value] -/
def an82 : AN := (.seq none .leaf (.seq none .leaf (.seq none (.seq none .leaf (.two (.seq none .leaf .leaf) .leaf)) (.seq none .leaf (.seq none .leaf (.seq none .leaf (.seq none .leaf .leaf)))))))
def w82 (P : Prims) (a0 a1 a2 : AV) (s : AS) (Q : AV → AS → Prop) : Prop :=
  P.oV 12 (evBuiltin T0 s.h .len [32] [a0]) fun t12 =>
  P.oV 13 (evSliceH T0 s.h 32 a0 (some a1) (some a2) (some t12)) fun t13 =>
  P.oV 16 (evBin T0 .eql 3 false a1 a2) fun t16 =>
  P.oI t16 (Q a0 s)
  (P.oV 19 (evBuiltin T0 s.h .len [32] [a0]) fun t19 =>
   P.oV 22 (evSliceH T0 Tr.nil 32 a0 none (some a1) none) fun t22 =>
   P.oV 25 (evSliceH T0 Tr.nil 32 a0 (some a2) none none) fun t25 =>
   P.oM 26 (evAppend T0 s 32 32 t22 t25) fun t26 sx1 =>
   P.oV 29 (evBuiltin T0 sx1.h .len [32] [t26]) fun t29 =>
   P.oV 31 (evSliceH T0 sx1.h 32 t26 (some t29) (some t19) none) fun t31 =>
   P.oM 0 (evClear T0 sx1 32 t31) fun t0 sx2 =>
   Q t26 sx2)
theorem w82_eq (P : Prims) (a0 a1 a2 : AV) (s : AS) (Q : AV → AS → Prop) : w82 P a0 a1 a2 s Q = vcBody P T0 Go.Proofs.Tryz.f82 (codeOf Go.Proofs.Tryz.f82) an82 [a0, a1, a2] s Q := by kernel_rfl
theorem r82 (a0 a1 a2 : AV) {s s' : AS} {r : AV} (h : w82 (prims T0) a0 a1 a2 s (fun r1 s1 => r1 = r ∧ s1 = s')) : Runs T0 82 [a0, a1, a2] s r s' :=
  Runs.mk (by kernel_rfl) (by kernel_rfl) (show T0.fn 82 = some Go.Proofs.Tryz.f82 by kernel_rfl) (by kernel_rfl) (by kernel_rfl) (by kernel_rfl) (by rw [w82_eq] at h; exact h)
/- orchestrator/value.Get -/
def an101 : AN := (.seq none .leaf (.seq (some [4]) (.seq none .leaf (.two (.seq none .leaf (.one (.loop [4, 1, 12, 13, 14] (.seq none .leaf (.seq none (.two .leaf .leaf) (.seq none (.one (.seq none .leaf (.seq none .leaf (.two (.seq none .leaf .leaf) .leaf)))) .leaf)))))) .leaf)) (.seq none .leaf .leaf)))
def w101 (P : Prims) (a0 a1 : AV) (Q : AV → AS → Prop) : Prop :=
  P.oN 2 (.cells (AV.cells a0) 35 false) (fun id => (.ptr id 0)) ⟨Tr.nil, 0⟩ fun t2 sx1 =>
  P.oN 4 (.cells [(.i .i64 0), (.i .i64 0), (.s []), (.nilz true), (.nilz true)] 35 false) (fun id => (.ptr id 0)) sx1 fun t4 sx2 =>
  P.oJ [4] (fun (k : C1) =>
   P.oV 8 (evOff 0 t2) fun t8 =>
   P.oV 9 (evLoad T0 sx2.h 3 t8) fun t9 =>
   P.oV 10 (evBin T0 .eql 3 true t9 (.i .i64 5)) fun t10 =>
   P.oI t10 (P.oV 11 (evOff 4 t2) fun t11 =>
    P.oV 12 (evLoad T0 sx2.h 33 t11) fun t12 =>
    P.oV 13 (evBuiltin T0 sx2.h .len [33] [t12]) fun t13 =>
    P.oL [4, 1, 12, 13, 14] (fun (next : C5) t4x1 t1 t12x1 t13x1 t14 sx3 =>
    P.oV 15 (evBin T0 .lss 3 false t14 t13x1) fun t15 =>
    P.oI t15 (P.oV 16 (evIndexAddr T0 33 t12x1 t14) fun t16 =>
     P.oV 17 (evLoad T0 sx3.h 52 t16) fun t17 =>
     P.oN 7 (.cells [(.s []), (.i .i64 0), (.i .i64 0), (.s []), (.nilz true), (.nilz true)] 52 false) (fun id => (.ptr id 0)) sx3 fun t7 sx4 =>
     P.oH (evStore T0 sx4.h 52 t7 t17) sx4 fun sx5 =>
     P.oV 18 (evOff 0 t7) fun t18 =>
     P.oV 19 (evLoad T0 sx5.h 9 t18) fun t19 =>
     P.oV 21 (evBin T0 .eql 9 false t19 t1) fun t21 =>
     P.oI t21 (P.oV 22 (evOff 1 t7) fun t22 =>
      P.oV 23 (evLoad T0 sx5.h 35 t22) fun t23 =>
      P.oC 24 107 [t23] sx5 fun t24 sx6 =>
      P.oH (evStore T0 sx6.h 35 t4x1 t24) sx6 fun sx7 =>
      P.oV 4 (evLoad T0 sx7.h 35 t4x1) fun t4x2 =>
      Q (.tup [t4x2, (.b true)]) sx7)
     (P.oV 25 (evBin T0 .add 3 true t14 (.i .i64 1)) fun t25 =>
      next t4x1 t1 t12x1 t13x1 t25 sx5))
    (k t4x1 sx3)) t4 a1 t12 t13 (.i .i64 0) sx2)
   (k t4 sx2))
  (fun t4x1 sx3 =>
  P.oV 26 (evBuild T0 35 []) fun t26 =>
  P.oH (evStore T0 sx3.h 35 t4x1 t26) sx3 fun sx4 =>
  P.oV 4 (evLoad T0 sx4.h 35 t4x1) fun t4x2 =>
  Q (.tup [t4x2, (.b false)]) sx4)
theorem w101_eq (P : Prims) (a0 a1 : AV) (Q : AV → AS → Prop) : w101 P a0 a1 Q = vcBody P T0 Go.Proofs.Tryz.f101 (codeOf Go.Proofs.Tryz.f101) an101 [a0, a1] ⟨.nil, 0⟩ Q := by kernel_rfl
theorem r101 (a0 a1 : AV) {r : AV} (hi : AV.idfree.idfrees [a0, a1] = true) (hn : AV.norm.norms [a0, a1] = [a0, a1]) (h : w101 (prims T0) a0 a1 (fun r1 s1 => oZ T0 s1 r1 (fun r2 => r2 = r))) : R T0 101 [a0, a1] r :=
  R.mk (by kernel_rfl) (by kernel_rfl) (show T0.fn 101 = some Go.Proofs.Tryz.f101 by kernel_rfl) (by kernel_rfl) (by kernel_rfl) hi hn (by rw [w101_eq] at h; exact h)
/- orchestrator/value.clone -/
def an107 : AN := (.seq none .leaf (.seq none .leaf (.seq none (.seq none .leaf (.one (.loop [2, 1, 12, 13, 14] (.seq none .leaf (.seq none (.two .leaf .leaf) (.seq none (.one (.seq none .leaf .leaf)) .leaf)))))) (.seq none .leaf (.seq none (.seq none .leaf (.one (.loop [2, 1, 31, 32, 33] (.seq none .leaf (.seq none (.two .leaf .leaf) (.seq none (.one (.seq none .leaf .leaf)) .leaf)))))) (.seq none .leaf .leaf))))))
def w107 (P : Prims) (a0 : AV) (Q : AV → AS → Prop) : Prop :=
  P.oN 1 (.cells (AV.cells a0) 35 false) (fun id => (.ptr id 0)) ⟨Tr.nil, 0⟩ fun t1 sx1 =>
  P.oN 2 (.cells [(.i .i64 0), (.i .i64 0), (.s []), (.nilz true), (.nilz true)] 35 false) (fun id => (.ptr id 0)) sx1 fun t2 sx2 =>
  P.oV 7 (evOff 3 t1) fun t7 =>
  P.oV 8 (evLoad T0 sx2.h 32 t7) fun t8 =>
  P.oC 9 77 [t8] sx2 fun t9 sx3 =>
  P.oV 10 (evOff 3 t1) fun t10 =>
  P.oH (evStore T0 sx3.h 32 t10 t9) sx3 fun sx4 =>
  P.oV 11 (evOff 3 t1) fun t11 =>
  P.oV 12 (evLoad T0 sx4.h 32 t11) fun t12 =>
  P.oV 13 (evBuiltin T0 sx4.h .len [32] [t12]) fun t13 =>
  P.oL [2, 1, 12, 13, 14] (fun (next : C5) t2x1 t1x1 t12x1 t13x1 t14 sx5 =>
  P.oV 15 (evBin T0 .lss 3 false t14 t13x1) fun t15 =>
  P.oI t15 (P.oV 17 (evIndexAddr T0 32 t12x1 t14) fun t17 =>
   P.oV 18 (evLoad T0 sx5.h 35 t17) fun t18 =>
   P.oN 4 (.cells [(.i .i64 0), (.i .i64 0), (.s []), (.nilz true), (.nilz true)] 35 false) (fun id => (.ptr id 0)) sx5 fun t4 sx6 =>
   P.oH (evStore T0 sx6.h 35 t4 t18) sx6 fun sx7 =>
   P.oV 19 (evOff 3 t1x1) fun t19 =>
   P.oV 20 (evLoad T0 sx7.h 32 t19) fun t20 =>
   P.oV 22 (evLoad T0 sx7.h 35 t4) fun t22 =>
   P.oT (freeArgs [t22]) (P.oC 23 107 [t22] sx7 fun t23 sx8 =>
   P.oV 24 (evIndexAddr T0 32 t20 t14) fun t24 =>
   P.oD (storeA T0 sx7.h 35 t24 t23) fun i b =>
   P.oT ((rdsOK sx7.n (befG [[], [0], [], [], [3], [3, 4, 2, 0, 1], [3, 4, 2, 0, 1, 5]]) [3, 4, 2, 0, 1, 5] [] i [4, 3, 1]) && (wrsOK [3, 4, 2, 0, 1, 5] i [])) (P.oS ⟨(sx7.h.put i (some b)), sx7.n⟩ fun sx9 =>
   P.oV 25 (evBin T0 .add 3 true t14 (.i .i64 1)) fun t25 =>
   next t2x1 t1x1 t12x1 t13x1 t25 sx9)))
  (P.oV 26 (evOff 4 t1x1) fun t26 =>
   P.oV 27 (evLoad T0 sx5.h 33 t26) fun t27 =>
   P.oC 28 78 [t27] sx5 fun t28 sx6 =>
   P.oV 29 (evOff 4 t1x1) fun t29 =>
   P.oH (evStore T0 sx6.h 33 t29 t28) sx6 fun sx7 =>
   P.oV 30 (evOff 4 t1x1) fun t30 =>
   P.oV 31 (evLoad T0 sx7.h 33 t30) fun t31 =>
   P.oV 32 (evBuiltin T0 sx7.h .len [33] [t31]) fun t32 =>
   P.oL [2, 1, 31, 32, 33] (fun (nextx1 : C5) t2x2 t1x2 t31x1 t32x1 t33 sx8 =>
   P.oV 34 (evBin T0 .lss 3 false t33 t32x1) fun t34 =>
   P.oI t34 (P.oV 36 (evIndexAddr T0 33 t31x1 t33) fun t36 =>
    P.oV 37 (evLoad T0 sx8.h 52 t36) fun t37 =>
    P.oN 6 (.cells [(.s []), (.i .i64 0), (.i .i64 0), (.s []), (.nilz true), (.nilz true)] 52 false) (fun id => (.ptr id 0)) sx8 fun t6 sx9 =>
    P.oH (evStore T0 sx9.h 52 t6 t37) sx9 fun sx10 =>
    P.oV 38 (evOff 4 t1x2) fun t38 =>
    P.oV 39 (evLoad T0 sx10.h 33 t38) fun t39 =>
    P.oV 41 (evOff 1 t6) fun t41 =>
    P.oV 42 (evLoad T0 sx10.h 35 t41) fun t42 =>
    P.oT (freeArgs [t42]) (P.oC 43 107 [t42] sx10 fun t43 sx11 =>
    P.oV 44 (evIndexAddr T0 33 t39 t33) fun t44 =>
    P.oV 45 (evOff 1 t44) fun t45 =>
    P.oD (storeA T0 sx10.h 35 t45 t43) fun i b =>
    P.oT ((rdsOK sx10.n (befG [[], [0], [], [], [3], [3, 4], [3, 4, 5, 2, 0, 1], [3, 4, 5, 2, 0, 1, 6], [3, 4, 5, 2, 0, 1, 6, 7]]) [3, 4, 5, 2, 0, 1, 6, 7] [] i [5, 4, 1]) && (wrsOK [3, 4, 5, 2, 0, 1, 6, 7] i [])) (P.oS ⟨(sx10.h.put i (some b)), sx10.n⟩ fun sx12 =>
    P.oV 46 (evBin T0 .add 3 true t33 (.i .i64 1)) fun t46 =>
    nextx1 t2x2 t1x2 t31x1 t32x1 t46 sx12)))
   (P.oV 47 (evLoad T0 sx8.h 35 t1x2) fun t47 =>
    P.oH (evStore T0 sx8.h 35 t2x2 t47) sx8 fun sx9 =>
    P.oV 2 (evLoad T0 sx9.h 35 t2x2) fun t2x3 =>
    Q t2x3 sx9)) t2x1 t1x1 t31 t32 (.i .i64 0) sx7)) t2 t1 t12 t13 (.i .i64 0) sx4
theorem w107_eq (P : Prims) (a0 : AV) (Q : AV → AS → Prop) : w107 P a0 Q = vcBody P T0 Go.Proofs.Tryz.f107 (codeOf Go.Proofs.Tryz.f107) an107 [a0] ⟨.nil, 0⟩ Q := by kernel_rfl

end Go.Proofs.YtmfhmlhaofpeiaaGreatDoor.Ev
