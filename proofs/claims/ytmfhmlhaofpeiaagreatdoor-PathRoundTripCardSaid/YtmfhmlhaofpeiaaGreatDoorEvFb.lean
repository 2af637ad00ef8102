/- The functions' code, laid out. Printed by WP.lean.txt, a program of this session's. -/
import Derived.Test.YtmfhmlhaofpeiaaGreatDoorEvTy
namespace Go.Proofs.YtmfhmlhaofpeiaaGreatDoor.Ev
open Go Go.RowKit
set_option linter.unusedVariables false
set_option maxRecDepth 100000
/- orchestrator/orchestratorlaw06.PathParses -/
def an4 : AN := (.seq none .leaf (.seq none (.seq none .leaf (.two (.seq none .leaf .leaf) .leaf)) (.seq none .leaf (.seq none .leaf (.seq none .leaf .leaf)))))
def w4 (P : Prims) (a0 : AV) (Q : AV → AS → Prop) : Prop :=
  P.oV 8 (evBuiltin T0 Tr.nil .len [9] [a0]) fun t8 =>
  P.oV 9 (evBin T0 .gtr 3 true t8 (.i .i64 3000)) fun t9 =>
  P.oG [11, 12, 13] t9 true (fun (k : C3) => P.oV 12 (evBuiltin T0 Tr.nil .len [9] [a0]) fun t12 =>
   P.oV 13 (evBin T0 .leq 3 true t12 (.i .i64 20000)) fun t13 =>
   k a0 t12 t13 ⟨Tr.nil, 0⟩) ⟨Tr.nil, 0⟩ fun t11 t12 t13 sx1 =>
  P.oV 14 (evPick t9 (some t13) (some (.b false))) fun t14 =>
  P.oG [16, 17, 18] t14 false (fun (k : C3) => P.oV 17 (evBuiltin T0 sx1.h .len [9] [a0]) fun t17 =>
   P.oV 18 (evBin T0 .gtr 3 true t17 (.i .i64 20100)) fun t18 =>
   k a0 t17 t18 sx1) sx1 fun t16 t17 t18 sx2 =>
  P.oV 19 (evPick t14 (some (.b true)) (some t18)) fun t19 =>
  P.oI t19 (P.oC 20 12 [] sx2 fun t20 sx3 =>
   Q t20 sx3)
  (P.oC 23 17 [a0] sx2 fun t23 sx3 =>
   P.oV 24 (evExtract 0 t23) fun t24 =>
   P.oV 25 (evExtract 1 t23) fun t25 =>
   P.oC 28 18 [a0] sx3 fun t28 sx4 =>
   P.oV 29 (evExtract 0 t28) fun t29 =>
   P.oV 30 (evExtract 1 t28) fun t30 =>
   P.oV 33 (evBin T0 .eql 26 false t25 t30) fun t33 =>
   P.oG [35, 36, 37] t33 true (fun (k : C3) => P.oC 37 19 [t24, t29] sx4 fun t37 sx5 =>
    k t24 t29 t37 sx5) sx4 fun t35 t36 t37 sx5 =>
   P.oV 38 (evPick t33 (some t37) (some (.b false))) fun t38 =>
   P.oG [40] t38 true (fun (k : C1) => P.oC 40 12 [] sx5 fun t40 sx6 =>
    k t40 sx6) sx5 fun t40 sx6 =>
   P.oV 41 (evPick t38 (some t40) (some (.b false))) fun t41 =>
   Q t41 sx6)
theorem w4_eq (P : Prims) (a0 : AV) (Q : AV → AS → Prop) : w4 P a0 Q = vcBody P T0 Go.Proofs.Tryz.f4 (codeOf Go.Proofs.Tryz.f4) an4 [a0] ⟨.nil, 0⟩ Q := by kernel_rfl
theorem r4 (a0 : AV) {r : AV} (hi : AV.idfree.idfrees [a0] = true) (hn : AV.norm.norms [a0] = [a0]) (h : w4 (prims T0) a0 (fun r1 s1 => oZ T0 s1 r1 (fun r2 => r2 = r))) : R T0 4 [a0] r :=
  R.mk (by kernel_rfl) (by kernel_rfl) (show T0.fn 4 = some Go.Proofs.Tryz.f4 by kernel_rfl) (by kernel_rfl) (by kernel_rfl) hi hn (by rw [w4_eq] at h; exact h)
/- orchestrator/orchestratorlaw06.PathPrints -/
/- orchestrator/orchestratorlaw06.PathRoundTrip -/
def an9 : AN := (.seq none .leaf (.seq none (.seq none .leaf (.two (.seq none .leaf .leaf) .leaf)) (.seq (some [1]) (.seq none .leaf (.seq none .leaf (.two (.seq none .leaf (.seq none .leaf (.two (.seq none .leaf .leaf) .leaf))) .leaf))) (.seq (some []) (.seq none .leaf (.seq none .leaf (.two (.seq none .leaf (.seq none .leaf (.two (.seq none .leaf .leaf) .leaf))) .leaf))) (.seq none .leaf .leaf)))))
def w9 (P : Prims) (a0 a1 : AV) (Q : AV → AS → Prop) : Prop :=
  P.oC 14 11 [a0] ⟨Tr.nil, 0⟩ fun t14 sx1 =>
  P.oV 15 (evUn .not t14) fun t15 =>
  P.oG [17, 18, 19] t15 false (fun (k : C3) => P.oV 18 (evBuiltin T0 sx1.h .len [9] [a1]) fun t18 =>
   P.oV 19 (evBin T0 .gtr 3 true t18 (.i .i64 3000)) fun t19 =>
   k a1 t18 t19 sx1) sx1 fun t17 t18 t19 sx2 =>
  P.oV 20 (evPick t15 (some (.b true)) (some t19)) fun t20 =>
  P.oI t20 (P.oC 21 12 [] sx2 fun t21 sx3 =>
   Q t21 sx3)
  (P.oJ [1] (fun (k : C1) =>
    P.oC 24 20 [a0] sx2 fun t24 sx3 =>
    P.oV 25 (evExtract 0 t24) fun t25 =>
    P.oV 26 (evExtract 1 t24) fun t26 =>
    P.oV 28 (evBin T0 .eql 26 true t26 (.i .i64 0)) fun t28 =>
    P.oI t28 (P.oC 31 17 [t25] sx3 fun t31 sx4 =>
     P.oV 32 (evExtract 0 t31) fun t32 =>
     P.oV 33 (evExtract 1 t31) fun t33 =>
     P.oV 35 (evBin T0 .neq 26 true t33 (.i .i64 0)) fun t35 =>
     P.oG [37, 38, 39, 40] t35 false (fun (kx1 : C4) => P.oC 39 19 [t32, a0] sx4 fun t39 sx5 =>
      P.oV 40 (evUn .not t39) fun t40 =>
      kx1 t32 a0 t39 t40 sx5) sx4 fun t37 t38 t39 t40 sx5 =>
     P.oV 41 (evPick t35 (some (.b true)) (some t40)) fun t41 =>
     P.oI t41 (Q (.b false) sx5)
     (k a1 sx5))
    (k a1 sx3))
   (fun t1 sx3 =>
   P.oJ [] (fun (k : C0) =>
    P.oC 44 17 [t1] sx3 fun t44 sx4 =>
    P.oV 45 (evExtract 0 t44) fun t45 =>
    P.oV 46 (evExtract 1 t44) fun t46 =>
    P.oV 48 (evBin T0 .eql 26 true t46 (.i .i64 0)) fun t48 =>
    P.oI t48 (P.oC 51 20 [t45] sx4 fun t51 sx5 =>
     P.oV 52 (evExtract 0 t51) fun t52 =>
     P.oV 53 (evExtract 1 t51) fun t53 =>
     P.oV 55 (evBin T0 .neq 26 true t53 (.i .i64 0)) fun t55 =>
     P.oG [57, 58, 59] t55 false (fun (kx1 : C3) => P.oV 59 (evBin T0 .neq 9 false t52 t1) fun t59 =>
      kx1 t52 t1 t59 sx5) sx5 fun t57 t58 t59 sx6 =>
     P.oV 60 (evPick t55 (some (.b true)) (some t59)) fun t60 =>
     P.oG [62, 63, 64] t60 false (fun (kx1 : C3) => P.oC 63 13 [t45] sx6 fun t63 sx7 =>
      P.oV 64 (evUn .not t63) fun t64 =>
      kx1 t45 t63 t64 sx7) sx6 fun t62 t63 t64 sx7 =>
     P.oV 65 (evPick t60 (some (.b true)) (some t64)) fun t65 =>
     P.oI t65 (Q (.b false) sx7)
     (k sx7))
    (k sx4))
   (fun sx4 =>
   P.oC 66 12 [] sx4 fun t66 sx5 =>
   Q t66 sx5)))
theorem w9_eq (P : Prims) (a0 a1 : AV) (Q : AV → AS → Prop) : w9 P a0 a1 Q = vcBody P T0 Go.Proofs.Tryz.f9 (codeOf Go.Proofs.Tryz.f9) an9 [a0, a1] ⟨.nil, 0⟩ Q := by kernel_rfl
theorem r9 (a0 a1 : AV) {r : AV} (hi : AV.idfree.idfrees [a0, a1] = true) (hn : AV.norm.norms [a0, a1] = [a0, a1]) (h : w9 (prims T0) a0 a1 (fun r1 s1 => oZ T0 s1 r1 (fun r2 => r2 = r))) : R T0 9 [a0, a1] r :=
  R.mk (by kernel_rfl) (by kernel_rfl) (show T0.fn 9 = some Go.Proofs.Tryz.f9 by kernel_rfl) (by kernel_rfl) (by kernel_rfl) hi hn (by rw [w9_eq] at h; exact h)
/- orchestrator/path.Parse -/
def an17 : AN := (.seq none .leaf (.seq none (.seq none .leaf (.two (.seq none .leaf .leaf) .leaf)) (.seq none .leaf (.seq none (.seq none .leaf (.one (.loop [4, 5] (.seq none (.seq none .leaf (.two .leaf .leaf)) (.one (.seq none (.seq none .leaf (.two (.seq none .leaf (.seq none (.seq none .leaf (.two (.seq none .leaf .leaf) .leaf)) (.seq none .leaf .leaf))) .leaf)) (.seq (some [5, 4]) (.seq none .leaf (.two (.seq none (.seq none .leaf (.two (.seq none .leaf .leaf) .leaf)) .leaf) .leaf)) (.seq none .leaf (.seq none (.seq none .leaf (.two (.seq none .leaf .leaf) .leaf)) .leaf))))))))) (.seq none (.seq none .leaf (.two (.seq none .leaf .leaf) .leaf)) (.seq none .leaf .leaf))))))
def w17 (P : Prims) (a0 : AV) (Q : AV → AS → Prop) : Prop :=
  P.oV 11 (evBuiltin T0 Tr.nil .len [9] [a0]) fun t11 =>
  P.oV 12 (evBin T0 .gtr 3 true t11 (.i .i64 20000)) fun t12 =>
  P.oI t12 (Q (.tup [(.nilz true), (.i .i64 4)]) ⟨Tr.nil, 0⟩)
  (P.oL [4, 5] (fun (next : C2) t4 t5 sx1 =>
   P.oV 15 (evBin T0 .neq 9 true t5 (.s [])) fun t15 =>
   P.oI t15 (P.oV 17 (evIndex T0 9 t5 (.i .i64 0)) fun t17 =>
    P.oV 18 (evBin T0 .eql 5 true t17 (.i .u8 91)) fun t18 =>
    P.oI t18 (P.oC 21 38 [t5] sx1 fun t21 sx2 =>
     P.oV 22 (evExtract 0 t21) fun t22 =>
     P.oV 23 (evExtract 1 t21) fun t23 =>
     P.oV 24 (evExtract 2 t21) fun t24 =>
     P.oN 6 (.cells [(.i .i64 0), (.s []), (.i .i64 0), (.s [])] 50 false) (fun id => (.ptr id 0)) sx2 fun t6 sx3 =>
     P.oH (evStore T0 sx3.h 50 t6 t22) sx3 fun sx4 =>
     P.oV 26 (evUn .not t24) fun t26 =>
     P.oI t26 (Q (.tup [(.nilz true), (.i .i64 2)]) sx4)
     (P.oV 28 (evLoad T0 sx4.h 50 t6) fun t28 =>
      P.oV 29 (evIce T0 22 1 [(0, t28)]) fun t29 =>
      P.oM 30 (evAppend T0 sx4 22 22 t4 t29) fun t30 sx5 =>
      next t30 t23 sx5))
    (P.oJ [5, 4] (fun (k : C2) =>
      P.oV 33 (evBuiltin T0 sx1.h .len [22] [t4]) fun t33 =>
      P.oV 34 (evBin T0 .gtr 3 true t33 (.i .i64 0)) fun t34 =>
      P.oI t34 (P.oV 36 (evIndex T0 9 t5 (.i .i64 0)) fun t36 =>
       P.oV 37 (evBin T0 .neq 5 true t36 (.i .u8 46)) fun t37 =>
       P.oI t37 (Q (.tup [(.nilz true), (.i .i64 2)]) sx1)
       (P.oV 39 (evSliceH T0 sx1.h 9 t5 (some (.i .i64 1)) none none) fun t39 =>
        k t39 t4 sx1))
      (k t5 t4 sx1))
     (fun t5x1 t4x1 sx2 =>
     P.oC 41 39 [t5x1] sx2 fun t41 sx3 =>
     P.oV 43 (evBin T0 .eql 3 true t41 (.i .i64 0)) fun t43 =>
     P.oI t43 (Q (.tup [(.nilz true), (.i .i64 2)]) sx3)
     (P.oT (plainA t5x1) (P.oT (plainA t41) (P.oT (plainA t5x1) (P.oT (plainOp (some t41)) (P.oT (plainOp none) (P.oT (plainOp none) (P.oV 53 (evSlice T0 9 t5x1 (some t41) none none) fun t53 =>
      P.oT (plainA t53) (P.oV 47 (evSliceH T0 Tr.nil 9 t5x1 none (some t41) none) fun t47 =>
      P.oV 48 (evBuild T0 50 [(0, (.i .i64 1)), (1, t47)]) fun t48 =>
      P.oV 49 (evIce T0 22 1 [(0, t48)]) fun t49 =>
      P.oM 50 (evAppend T0 sx3 22 22 t4x1 t49) fun t50 sx4 =>
      next t50 t53 sx4)))))))))))
   (P.oC 55 13 [t4] sx1 fun t55 sx2 =>
    P.oV 56 (evUn .not t55) fun t56 =>
    P.oI t56 (Q (.tup [(.nilz true), (.i .i64 1)]) sx2)
    (Q (.tup [t4, (.i .i64 0)]) sx2))) (.nilz true) a0 ⟨Tr.nil, 0⟩)
theorem w17_eq (P : Prims) (a0 : AV) (Q : AV → AS → Prop) : w17 P a0 Q = vcBody P T0 Go.Proofs.Tryz.f17 (codeOf Go.Proofs.Tryz.f17) an17 [a0] ⟨.nil, 0⟩ Q := by kernel_rfl
theorem r17 (a0 : AV) {r : AV} (hi : AV.idfree.idfrees [a0] = true) (hn : AV.norm.norms [a0] = [a0]) (h : w17 (prims T0) a0 (fun r1 s1 => oZ T0 s1 r1 (fun r2 => r2 = r))) : R T0 17 [a0] r :=
  R.mk (by kernel_rfl) (by kernel_rfl) (show T0.fn 17 = some Go.Proofs.Tryz.f17 by kernel_rfl) (by kernel_rfl) (by kernel_rfl) hi hn (by rw [w17_eq] at h; exact h)
/- orchestrator/orchestratorref06.Parse -/
/- orchestrator/orchestratorref06.Same -/
def an19 : AN := (.seq none .leaf (.seq none .leaf .leaf))
def w19 (P : Prims) (a0 a1 : AV) (Q : AV → AS → Prop) : Prop :=
  P.oV 6 (evBuiltin T0 Tr.nil .len [22] [a0]) fun t6 =>
  P.oV 8 (evBuiltin T0 Tr.nil .len [22] [a1]) fun t8 =>
  P.oV 9 (evBin T0 .eql 3 false t6 t8) fun t9 =>
  P.oG [11, 12, 13] t9 true (fun (k : C3) => P.oC 13 16 [a0, a1] ⟨Tr.nil, 0⟩ fun t13 sx1 =>
   k a0 a1 t13 sx1) ⟨Tr.nil, 0⟩ fun t11 t12 t13 sx1 =>
  P.oV 14 (evPick t9 (some t13) (some (.b false))) fun t14 =>
  Q t14 sx1
theorem w19_eq (P : Prims) (a0 a1 : AV) (Q : AV → AS → Prop) : w19 P a0 a1 Q = vcBody P T0 Go.Proofs.Tryz.f19 (codeOf Go.Proofs.Tryz.f19) an19 [a0, a1] ⟨.nil, 0⟩ Q := by kernel_rfl
theorem r19 (a0 a1 : AV) {r : AV} (hi : AV.idfree.idfrees [a0, a1] = true) (hn : AV.norm.norms [a0, a1] = [a0, a1]) (h : w19 (prims T0) a0 a1 (fun r1 s1 => oZ T0 s1 r1 (fun r2 => r2 = r))) : R T0 19 [a0, a1] r :=
  R.mk (by kernel_rfl) (by kernel_rfl) (show T0.fn 19 = some Go.Proofs.Tryz.f19 by kernel_rfl) (by kernel_rfl) (by kernel_rfl) hi hn (by rw [w19_eq] at h; exact h)
/- orchestrator/path.Print -/
def an20 : AN := (.seq none .leaf (.seq none (.seq none .leaf (.two (.seq none .leaf .leaf) .leaf)) (.seq none .leaf (.seq none (.seq none .leaf (.one (.loop [4, 10, 11, 12] (.seq none .leaf (.seq none (.two .leaf .leaf) (.seq (some [4, 10, 11, 12]) (.one (.seq none .leaf (.seq none .leaf (.one (.seq none .leaf (.two (.seq (some [4, 10, 11, 12, 6]) (.seq none .leaf (.two .leaf .leaf)) .leaf) (.seq none .leaf (.two .leaf (.seq none .leaf (.two .leaf .leaf)))))))))) .leaf)))))) (.seq none .leaf .leaf)))))
def w20 (P : Prims) (a0 : AV) (Q : AV → AS → Prop) : Prop :=
  P.oC 8 13 [a0] ⟨Tr.nil, 0⟩ fun t8 sx1 =>
  P.oV 9 (evUn .not t8) fun t9 =>
  P.oI t9 (Q (.tup [(.s []), (.i .i64 1)]) sx1)
  (P.oN 4 (.cells [.nilp, (.nilz true)] 65 false) (fun id => (.ptr id 0)) sx1 fun t4 sx2 =>
   P.oV 11 (evBuiltin T0 sx2.h .len [22] [a0]) fun t11 =>
   P.oL [4, 10, 11, 12] (fun (next : C4) t4x1 t10 t11x1 t12 sx3 =>
   P.oV 13 (evBin T0 .lss 3 false t12 t11x1) fun t13 =>
   P.oI t13 (P.oJ [4, 10, 11, 12] (fun (k : C4) =>
     P.oV 15 (evIndexAddr T0 22 t10 t12) fun t15 =>
     P.oV 16 (evLoad T0 sx3.h 50 t15) fun t16 =>
     P.oN 6 (.cells [(.i .i64 0), (.s []), (.i .i64 0), (.s [])] 50 false) (fun id => (.ptr id 0)) sx3 fun t6 sx4 =>
     P.oH (evStore T0 sx4.h 50 t6 t16) sx4 fun sx5 =>
     P.oV 17 (evOff 0 t6) fun t17 =>
     P.oV 18 (evLoad T0 sx5.h 3 t17) fun t18 =>
     P.oV 20 (evBin T0 .eql 3 true t18 (.i .i64 1)) fun t20 =>
     P.oI t20 (P.oJ [4, 10, 11, 12, 6] (fun (kx1 : C5) =>
       P.oV 22 (evBin T0 .gtr 3 true t12 (.i .i64 0)) fun t22 =>
       P.oI t22 (P.oC 23 41 [t4x1, (.i .u8 46)] sx5 fun t23 sx6 =>
        kx1 t4x1 t10 t11x1 t12 t6 sx6)
       (kx1 t4x1 t10 t11x1 t12 t6 sx5))
      (fun t4x2 t10x1 t11x2 t12x1 t6x1 sx6 =>
      P.oV 24 (evOff 1 t6x1) fun t24 =>
      P.oV 25 (evLoad T0 sx6.h 9 t24) fun t25 =>
      P.oC 26 42 [t4x2, t25] sx6 fun t26 sx7 =>
      k t4x2 t10x1 t11x2 t12x1 sx7))
     (P.oV 28 (evBin T0 .eql 3 true t18 (.i .i64 2)) fun t28 =>
      P.oI t28 (P.oV 29 (evOff 2 t6) fun t29 =>
       P.oV 30 (evLoad T0 sx5.h 3 t29) fun t30 =>
       P.oC 31 43 [t30] sx5 fun t31 sx6 =>
       P.oV 32 (evBin T0 .add 9 true (.s [91]) t31) fun t32 =>
       P.oV 33 (evBin T0 .add 9 true t32 (.s [93])) fun t33 =>
       P.oC 34 42 [t4x1, t33] sx6 fun t34 sx7 =>
       k t4x1 t10 t11x1 t12 sx7)
      (P.oV 36 (evBin T0 .eql 3 true t18 (.i .i64 3)) fun t36 =>
       P.oI t36 (P.oV 37 (evOff 1 t6) fun t37 =>
        P.oV 38 (evLoad T0 sx5.h 9 t37) fun t38 =>
        P.oV 39 (evBin T0 .add 9 true (.s [91]) t38) fun t39 =>
        P.oV 40 (evBin T0 .add 9 true t39 (.s [61])) fun t40 =>
        P.oV 41 (evOff 3 t6) fun t41 =>
        P.oV 42 (evLoad T0 sx5.h 9 t41) fun t42 =>
        P.oC 43 44 [t42] sx5 fun t43 sx6 =>
        P.oV 44 (evBin T0 .add 9 false t40 t43) fun t44 =>
        P.oV 45 (evBin T0 .add 9 true t44 (.s [93])) fun t45 =>
        P.oC 46 42 [t4x1, t45] sx5 fun t46 sx7 =>
        k t4x1 t10 t11x1 t12 sx7)
       (k t4x1 t10 t11x1 t12 sx5))))
    (fun t4x2 t10x1 t11x2 t12x1 sx4 =>
    P.oV 47 (evBin T0 .add 3 true t12x1 (.i .i64 1)) fun t47 =>
    next t4x2 t10x1 t11x2 t47 sx4))
   (P.oC 48 45 [t4x1] sx3 fun t48 sx4 =>
    Q (.tup [t48, (.i .i64 0)]) sx4)) t4 a0 t11 (.i .i64 0) sx2)
theorem w20_eq (P : Prims) (a0 : AV) (Q : AV → AS → Prop) : w20 P a0 Q = vcBody P T0 Go.Proofs.Tryz.f20 (codeOf Go.Proofs.Tryz.f20) an20 [a0] ⟨.nil, 0⟩ Q := by kernel_rfl
theorem r20 (a0 : AV) {r : AV} (hi : AV.idfree.idfrees [a0] = true) (hn : AV.norm.norms [a0] = [a0]) (h : w20 (prims T0) a0 (fun r1 s1 => oZ T0 s1 r1 (fun r2 => r2 = r))) : R T0 20 [a0] r :=
  R.mk (by kernel_rfl) (by kernel_rfl) (show T0.fn 20 = some Go.Proofs.Tryz.f20 by kernel_rfl) (by kernel_rfl) (by kernel_rfl) hi hn (by rw [w20_eq] at h; exact h)
/- orchestrator/orchestratorref06.Print -/
def an21 : AN := (.seq none .leaf (.seq none (.seq none .leaf (.two (.seq none .leaf .leaf) .leaf)) (.seq none .leaf (.seq none (.seq none .leaf (.one (.loop [4, 0, 5] (.seq none (.seq none .leaf (.two .leaf .leaf)) (.seq (some [4, 0, 5]) (.one (.seq none .leaf (.two .leaf (.seq none .leaf (.two .leaf (.seq none .leaf (.two .leaf .leaf))))))) .leaf))))) (.seq none .leaf .leaf)))))
def w21 (P : Prims) (a0 : AV) (Q : AV → AS → Prop) : Prop :=
  P.oC 7 14 [a0] ⟨Tr.nil, 0⟩ fun t7 sx1 =>
  P.oV 8 (evUn .not t7) fun t8 =>
  P.oI t8 (Q (.tup [(.s []), (.i .i64 1)]) sx1)
  (P.oL [4, 0, 5] (fun (next : C3) t4 t0 t5 sx2 =>
   P.oV 11 (evBuiltin T0 sx2.h .len [22] [t0]) fun t11 =>
   P.oV 12 (evBin T0 .lss 3 false t5 t11) fun t12 =>
   P.oI t12 (P.oJ [4, 0, 5] (fun (k : C3) =>
     P.oV 17 (evIndexAddr T0 22 t0 t5) fun t17 =>
     P.oV 18 (evOff 0 t17) fun t18 =>
     P.oV 19 (evLoad T0 sx2.h 3 t18) fun t19 =>
     P.oV 20 (evBin T0 .eql 3 true t19 (.i .i64 2)) fun t20 =>
     P.oI t20 (P.oV 22 (evBin T0 .add 9 true t4 (.s [91])) fun t22 =>
      P.oV 25 (evIndexAddr T0 22 t0 t5) fun t25 =>
      P.oV 26 (evOff 2 t25) fun t26 =>
      P.oV 27 (evLoad T0 sx2.h 3 t26) fun t27 =>
      P.oC 28 46 [t27] sx2 fun t28 sx3 =>
      P.oV 29 (evBin T0 .add 9 false t22 t28) fun t29 =>
      P.oV 30 (evBin T0 .add 9 true t29 (.s [93])) fun t30 =>
      k t30 t0 t5 sx3)
     (P.oV 33 (evIndexAddr T0 22 t0 t5) fun t33 =>
      P.oV 34 (evOff 0 t33) fun t34 =>
      P.oV 35 (evLoad T0 sx2.h 3 t34) fun t35 =>
      P.oV 36 (evBin T0 .eql 3 true t35 (.i .i64 3)) fun t36 =>
      P.oI t36 (P.oV 38 (evBin T0 .add 9 true t4 (.s [91])) fun t38 =>
       P.oV 41 (evIndexAddr T0 22 t0 t5) fun t41 =>
       P.oV 42 (evOff 1 t41) fun t42 =>
       P.oV 43 (evLoad T0 sx2.h 9 t42) fun t43 =>
       P.oV 44 (evBin T0 .add 9 false t38 t43) fun t44 =>
       P.oV 45 (evBin T0 .add 9 true t44 (.s [61])) fun t45 =>
       P.oV 48 (evIndexAddr T0 22 t0 t5) fun t48 =>
       P.oV 49 (evOff 3 t48) fun t49 =>
       P.oV 50 (evLoad T0 sx2.h 9 t49) fun t50 =>
       P.oC 51 47 [t50] sx2 fun t51 sx3 =>
       P.oV 52 (evBin T0 .add 9 false t45 t51) fun t52 =>
       P.oV 53 (evBin T0 .add 9 true t52 (.s [93])) fun t53 =>
       k t53 t0 t5 sx2)
      (P.oV 55 (evBin T0 .gtr 3 true t5 (.i .i64 0)) fun t55 =>
       P.oI t55 (P.oV 57 (evBin T0 .add 9 true t4 (.s [46])) fun t57 =>
        P.oV 60 (evIndexAddr T0 22 t0 t5) fun t60 =>
        P.oV 61 (evOff 1 t60) fun t61 =>
        P.oV 62 (evLoad T0 sx2.h 9 t61) fun t62 =>
        P.oV 63 (evBin T0 .add 9 false t57 t62) fun t63 =>
        k t63 t0 t5 sx2)
       (P.oV 66 (evIndexAddr T0 22 t0 t5) fun t66 =>
        P.oV 67 (evOff 1 t66) fun t67 =>
        P.oV 68 (evLoad T0 sx2.h 9 t67) fun t68 =>
        k t68 t0 t5 sx2))))
    (fun t4x1 t0x1 t5x1 sx3 =>
    P.oV 14 (evBin T0 .add 3 true t5x1 (.i .i64 1)) fun t14 =>
    next t4x1 t0x1 t14 sx3))
   (Q (.tup [t4, (.i .i64 0)]) sx2)) (.s []) a0 (.i .i64 0) sx1)
theorem w21_eq (P : Prims) (a0 : AV) (Q : AV → AS → Prop) : w21 P a0 Q = vcBody P T0 Go.Proofs.Tryz.f21 (codeOf Go.Proofs.Tryz.f21) an21 [a0] ⟨.nil, 0⟩ Q := by kernel_rfl
theorem r21 (a0 : AV) {r : AV} (hi : AV.idfree.idfrees [a0] = true) (hn : AV.norm.norms [a0] = [a0]) (h : w21 (prims T0) a0 (fun r1 s1 => oZ T0 s1 r1 (fun r2 => r2 = r))) : R T0 21 [a0] r :=
  R.mk (by kernel_rfl) (by kernel_rfl) (show T0.fn 21 = some Go.Proofs.Tryz.f21 by kernel_rfl) (by kernel_rfl) (by kernel_rfl) hi hn (by rw [w21_eq] at h; exact h)
/- orchestrator/path.bracket -/
def an38 : AN := (.seq none .leaf (.seq none .leaf (.seq none .leaf (.seq none (.one (.seq none .leaf (.two (.seq none .leaf .leaf) (.seq none .leaf (.two (.seq none .leaf (.seq none .leaf .leaf)) (.seq none .leaf (.two (.seq none .leaf .leaf) .leaf))))))) (.seq none .leaf (.seq none (.seq none .leaf (.two (.seq none .leaf .leaf) .leaf)) (.seq none .leaf .leaf)))))))
def w38 (P : Prims) (a0 : AV) (Q : AV → AS → Prop) : Prop :=
  P.oN 2 (.cells [(.i .i64 0), (.s []), (.i .i64 0), (.s [])] 50 false) (fun id => (.ptr id 0)) ⟨Tr.nil, 0⟩ fun t2 sx1 =>
  P.oV 11 (evSliceH T0 sx1.h 9 a0 (some (.i .i64 1)) none none) fun t11 =>
  P.oC 12 39 [t11] sx1 fun t12 sx2 =>
  P.oV 15 (evBin T0 .add 3 true (.i .i64 1) t12) fun t15 =>
  P.oV 16 (evSliceH T0 Tr.nil 9 a0 (some (.i .i64 1)) (some t15) none) fun t16 =>
  P.oV 19 (evBin T0 .add 3 true (.i .i64 1) t12) fun t19 =>
  P.oV 20 (evSliceH T0 Tr.nil 9 a0 (some t19) none none) fun t20 =>
  P.oV 23 (evBin T0 .eql 3 true t12 (.i .i64 0)) fun t23 =>
  P.oG [25, 26] t23 false (fun (k : C2) => P.oV 26 (evBin T0 .eql 9 true t20 (.s [])) fun t26 =>
   k t20 t26 sx2) sx2 fun t25 t26 sx3 =>
  P.oV 27 (evPick t23 (some (.b true)) (some t26)) fun t27 =>
  P.oI t27 (P.oV 28 (evLoad T0 sx3.h 50 t2) fun t28 =>
   P.oH (evStore T0 sx3.h 50 t2 t28) sx3 fun sx4 =>
   P.oV 2 (evLoad T0 sx4.h 50 t2) fun t2x1 =>
   Q (.tup [t2x1, (.s []), (.b false)]) sx4)
  (P.oV 31 (evIndex T0 9 t20 (.i .i64 0)) fun t31 =>
   P.oV 32 (evBin T0 .eql 5 true t31 (.i .u8 93)) fun t32 =>
   P.oI t32 (P.oC 35 64 [t16] sx3 fun t35 sx4 =>
    P.oV 36 (evExtract 0 t35) fun t36 =>
    P.oV 37 (evExtract 1 t35) fun t37 =>
    P.oV 39 (evBuild T0 50 [(0, (.i .i64 2)), (2, t36)]) fun t39 =>
    P.oV 41 (evSliceH T0 Tr.nil 9 t20 (some (.i .i64 1)) none none) fun t41 =>
    P.oD (storeA T0 sx4.h 50 t2 t39) fun i b =>
    P.oT ((rdsOK sx4.n (befG [[], [0], [], [2], [], [0, 1], [0, 1, 5, 2, 3], [0, 1, 5, 2, 3, 6, 4]]) [0, 1] [] i []) && (wrsOK [0, 1] i [])) (P.oS ⟨(sx4.h.put i (some b)), sx4.n⟩ fun sx5 =>
    P.oV 2 (evLoad T0 sx5.h 50 t2) fun t2x1 =>
    Q (.tup [t2x1, t41, t37]) sx5))
   (P.oV 45 (evIndex T0 9 t20 (.i .i64 0)) fun t45 =>
    P.oV 46 (evBin T0 .neq 5 true t45 (.i .u8 61)) fun t46 =>
    P.oI t46 (P.oV 47 (evLoad T0 sx3.h 50 t2) fun t47 =>
     P.oH (evStore T0 sx3.h 50 t2 t47) sx3 fun sx4 =>
     P.oV 2 (evLoad T0 sx4.h 50 t2) fun t2x1 =>
     Q (.tup [t2x1, (.s []), (.b false)]) sx4)
    (P.oV 50 (evSliceH T0 sx3.h 9 t20 (some (.i .i64 1)) none none) fun t50 =>
     P.oC 51 65 [t50] sx3 fun t51 sx4 =>
     P.oV 52 (evExtract 0 t51) fun t52 =>
     P.oV 53 (evExtract 1 t51) fun t53 =>
     P.oV 54 (evExtract 2 t51) fun t54 =>
     P.oV 56 (evUn .not t54) fun t56 =>
     P.oG [58, 59] t56 false (fun (k : C2) => P.oV 59 (evBin T0 .eql 9 true t53 (.s [])) fun t59 =>
      k t53 t59 sx4) sx4 fun t58 t59 sx5 =>
     P.oV 60 (evPick t56 (some (.b true)) (some t59)) fun t60 =>
     P.oG [62, 63, 64] t60 false (fun (k : C3) => P.oV 63 (evIndex T0 9 t53 (.i .i64 0)) fun t63 =>
      P.oV 64 (evBin T0 .neq 5 true t63 (.i .u8 93)) fun t64 =>
      k t53 t63 t64 sx5) sx5 fun t62 t63 t64 sx6 =>
     P.oV 65 (evPick t60 (some (.b true)) (some t64)) fun t65 =>
     P.oI t65 (P.oV 66 (evLoad T0 sx6.h 50 t2) fun t66 =>
      P.oH (evStore T0 sx6.h 50 t2 t66) sx6 fun sx7 =>
      P.oV 2 (evLoad T0 sx7.h 50 t2) fun t2x1 =>
      Q (.tup [t2x1, (.s []), (.b false)]) sx7)
     (P.oV 69 (evBuild T0 50 [(0, (.i .i64 3)), (1, t16), (3, t52)]) fun t69 =>
      P.oV 71 (evSliceH T0 Tr.nil 9 t53 (some (.i .i64 1)) none none) fun t71 =>
      P.oD (storeA T0 sx6.h 50 t2 t69) fun i b =>
      P.oT ((rdsOK sx6.n (befG [[], [], [1, 0], [], [3], [1, 0, 2], [1, 0, 2, 5, 3, 4], [1, 0, 2, 5, 3, 4, 6]]) [1, 0, 2] [] i []) && (wrsOK [1, 0, 2] i [])) (P.oS ⟨(sx6.h.put i (some b)), sx6.n⟩ fun sx7 =>
      P.oV 2 (evLoad T0 sx7.h 50 t2) fun t2x1 =>
      Q (.tup [t2x1, t71, (.b true)]) sx7)))))
theorem w38_eq (P : Prims) (a0 : AV) (Q : AV → AS → Prop) : w38 P a0 Q = vcBody P T0 Go.Proofs.Tryz.f38 (codeOf Go.Proofs.Tryz.f38) an38 [a0] ⟨.nil, 0⟩ Q := by kernel_rfl
theorem r38 (a0 : AV) {r : AV} (hi : AV.idfree.idfrees [a0] = true) (hn : AV.norm.norms [a0] = [a0]) (h : w38 (prims T0) a0 (fun r1 s1 => oZ T0 s1 r1 (fun r2 => r2 = r))) : R T0 38 [a0] r :=
  R.mk (by kernel_rfl) (by kernel_rfl) (show T0.fn 38 = some Go.Proofs.Tryz.f38 by kernel_rfl) (by kernel_rfl) (by kernel_rfl) hi hn (by rw [w38_eq] at h; exact h)
/- orchestrator/path.nameLength -/
def an39 : AN := (.seq none .leaf (.seq none (.seq none .leaf (.one (.loop [0, 6] (.seq none .leaf (.seq none (.two .leaf .leaf) (.one (.seq none .leaf (.seq none .leaf (.two (.seq none .leaf .leaf) .leaf))))))))) (.seq none .leaf .leaf)))
def w39 (P : Prims) (a0 : AV) (Q : AV → AS → Prop) : Prop :=
  P.oE (evRange T0 9 a0) fun b f =>
  P.oN 6 b f ⟨Tr.nil, 0⟩ fun t6 sx1 =>
  P.oL [0, 6] (fun (next : C2) t0 t6x1 sx2 =>
  P.oM 7 (evNext sx2 t6x1) fun t7 sx3 =>
  P.oV 8 (evExtract 0 t7) fun t8 =>
  P.oI t8 (P.oV 9 (evExtract 1 t7) fun t9 =>
   P.oV 10 (evExtract 2 t7) fun t10 =>
   P.oC 12 66 [t10] sx3 fun t12 sx4 =>
   P.oV 13 (evUn .not t12) fun t13 =>
   P.oI t13 (Q t9 sx4)
   (next t0 t6x1 sx4))
  (P.oV 16 (evBuiltin T0 sx3.h .len [9] [t0]) fun t16 =>
   Q t16 sx3)) a0 t6 sx1
theorem w39_eq (P : Prims) (a0 : AV) (Q : AV → AS → Prop) : w39 P a0 Q = vcBody P T0 Go.Proofs.Tryz.f39 (codeOf Go.Proofs.Tryz.f39) an39 [a0] ⟨.nil, 0⟩ Q := by kernel_rfl
theorem r39 (a0 : AV) {r : AV} (hi : AV.idfree.idfrees [a0] = true) (hn : AV.norm.norms [a0] = [a0]) (h : w39 (prims T0) a0 (fun r1 s1 => oZ T0 s1 r1 (fun r2 => r2 = r))) : R T0 39 [a0] r :=
  R.mk (by kernel_rfl) (by kernel_rfl) (show T0.fn 39 = some Go.Proofs.Tryz.f39 by kernel_rfl) (by kernel_rfl) (by kernel_rfl) hi hn (by rw [w39_eq] at h; exact h)
/- orchestrator/orchestratorref06.step -/
/- (*strings.Builder).WriteByte -/
def an41 : AN := (.seq none .leaf (.seq none .leaf (.seq none .leaf (.seq none .leaf .leaf))))
def w41 (P : Prims) (a0 a1 : AV) (s : AS) (Q : AV → AS → Prop) : Prop :=
  P.oC 6 69 [a0] s fun t6 sx1 =>
  P.oV 9 (evNilCheck a0) fun t9 =>
  P.oV 10 (evOff 1 t9) fun t10 =>
  P.oV 11 (evLoad T0 sx1.h 63 t10) fun t11 =>
  P.oV 13 (evIce T0 63 1 [(0, a1)]) fun t13 =>
  P.oM 14 (evAppend T0 sx1 63 63 t11 t13) fun t14 sx2 =>
  P.oV 15 (evNilCheck a0) fun t15 =>
  P.oV 16 (evOff 1 t15) fun t16 =>
  P.oH (evStore T0 sx2.h 63 t16 t14) sx2 fun sx3 =>
  Q .nili sx3
theorem w41_eq (P : Prims) (a0 a1 : AV) (s : AS) (Q : AV → AS → Prop) : w41 P a0 a1 s Q = vcBody P T0 Go.Proofs.Tryz.f41 (codeOf Go.Proofs.Tryz.f41) an41 [a0, a1] s Q := by kernel_rfl
theorem r41 (a0 a1 : AV) {s s' : AS} {r : AV} (h : w41 (prims T0) a0 a1 s (fun r1 s1 => r1 = r ∧ s1 = s')) : Runs T0 41 [a0, a1] s r s' :=
  Runs.mk (by kernel_rfl) (by kernel_rfl) (show T0.fn 41 = some Go.Proofs.Tryz.f41 by kernel_rfl) (by kernel_rfl) (by kernel_rfl) (by kernel_rfl) (by rw [w41_eq] at h; exact h)
/- (*strings.Builder).WriteString -/
def an42 : AN := (.seq none .leaf (.seq none .leaf (.seq none .leaf (.seq none .leaf .leaf))))
def w42 (P : Prims) (a0 a1 : AV) (s : AS) (Q : AV → AS → Prop) : Prop :=
  P.oC 7 69 [a0] s fun t7 sx1 =>
  P.oV 10 (evNilCheck a0) fun t10 =>
  P.oV 11 (evOff 1 t10) fun t11 =>
  P.oV 12 (evLoad T0 sx1.h 63 t11) fun t12 =>
  P.oM 14 (evAppend T0 sx1 63 9 t12 a1) fun t14 sx2 =>
  P.oV 15 (evNilCheck a0) fun t15 =>
  P.oV 16 (evOff 1 t15) fun t16 =>
  P.oH (evStore T0 sx2.h 63 t16 t14) sx2 fun sx3 =>
  P.oV 18 (evBuiltin T0 sx3.h .len [9] [a1]) fun t18 =>
  Q (.tup [t18, .nili]) sx3
theorem w42_eq (P : Prims) (a0 a1 : AV) (s : AS) (Q : AV → AS → Prop) : w42 P a0 a1 s Q = vcBody P T0 Go.Proofs.Tryz.f42 (codeOf Go.Proofs.Tryz.f42) an42 [a0, a1] s Q := by kernel_rfl
theorem r42 (a0 a1 : AV) {s s' : AS} {r : AV} (h : w42 (prims T0) a0 a1 s (fun r1 s1 => r1 = r ∧ s1 = s')) : Runs T0 42 [a0, a1] s r s' :=
  Runs.mk (by kernel_rfl) (by kernel_rfl) (show T0.fn 42 = some Go.Proofs.Tryz.f42 by kernel_rfl) (by kernel_rfl) (by kernel_rfl) (by kernel_rfl) (by rw [w42_eq] at h; exact h)
/- strconv.Itoa -/
def an43 : AN := (.seq none .leaf (.seq none .leaf .leaf))
def w43 (P : Prims) (a0 : AV) (Q : AV → AS → Prop) : Prop :=
  P.oC 4 70 [a0] ⟨Tr.nil, 0⟩ fun t4 sx1 =>
  Q t4 sx1
theorem w43_eq (P : Prims) (a0 : AV) (Q : AV → AS → Prop) : w43 P a0 Q = vcBody P T0 Go.Proofs.Tryz.f43 (codeOf Go.Proofs.Tryz.f43) an43 [a0] ⟨.nil, 0⟩ Q := by kernel_rfl
theorem r43 (a0 : AV) {r : AV} (hi : AV.idfree.idfrees [a0] = true) (hn : AV.norm.norms [a0] = [a0]) (h : w43 (prims T0) a0 (fun r1 s1 => oZ T0 s1 r1 (fun r2 => r2 = r))) : R T0 43 [a0] r :=
  R.mk (by kernel_rfl) (by kernel_rfl) (show T0.fn 43 = some Go.Proofs.Tryz.f43 by kernel_rfl) (by kernel_rfl) (by kernel_rfl) hi hn (by rw [w43_eq] at h; exact h)
/- orchestrator/path.quote -/
def an44 : AN := (.seq none .leaf (.seq none .leaf (.seq none .leaf (.seq none (.seq none .leaf (.one (.loop [3, 8] (.seq none .leaf (.seq none (.two .leaf .leaf) (.one (.seq none .leaf (.seq none .leaf (.one (.seq (some [3, 8, 5, 12, 15]) (.seq none .leaf (.two .leaf .leaf)) (.two (.seq none .leaf .leaf) (.seq none .leaf (.two .leaf .leaf))))))))))))) (.seq none .leaf (.seq none .leaf .leaf))))))
def w44 (P : Prims) (a0 : AV) (Q : AV → AS → Prop) : Prop :=
  P.oN 3 (.cells [.nilp, (.nilz true)] 65 false) (fun id => (.ptr id 0)) ⟨Tr.nil, 0⟩ fun t3 sx1 =>
  P.oC 6 41 [t3, (.i .u8 34)] sx1 fun t6 sx2 =>
  P.oE (evRange T0 9 a0) fun b f =>
  P.oN 8 b f sx2 fun t8 sx3 =>
  P.oL [3, 8] (fun (next : C2) t3x1 t8x1 sx4 =>
  P.oM 9 (evNext sx4 t8x1) fun t9 sx5 =>
  P.oV 10 (evExtract 0 t9) fun t10 =>
  P.oI t10 (P.oV 11 (evExtract 2 t9) fun t11 =>
   P.oJ [3, 8, 5, 12, 15] (fun (k : C5) =>
    P.oV 16 (evBin T0 .eql 21 true t11 (.i .i32 34)) fun t16 =>
    P.oI t16 (k t3x1 t8x1 t11 t11 t16 sx5)
    (P.oV 17 (evBin T0 .eql 21 true t11 (.i .i32 92)) fun t17 =>
     k t3x1 t8x1 t11 t11 t17 sx5))
   (fun t3x2 t8x2 t5 t12 t15 sx6 =>
   P.oI t15 (P.oC 18 41 [t3x2, (.i .u8 92)] sx6 fun t18 sx7 =>
    P.oC 20 71 [t3x2, t5] sx7 fun t20 sx8 =>
    next t3x2 t8x2 sx8)
   (P.oV 22 (evBin T0 .eql 21 true t12 (.i .i32 10)) fun t22 =>
    P.oI t22 (P.oC 23 42 [t3x2, (.s [92, 110])] sx6 fun t23 sx7 =>
     next t3x2 t8x2 sx7)
    (P.oC 14 71 [t3x2, t5] sx6 fun t14 sx7 =>
     next t3x2 t8x2 sx7))))
  (P.oC 24 41 [t3x1, (.i .u8 34)] sx5 fun t24 sx6 =>
   P.oC 25 45 [t3x1] sx6 fun t25 sx7 =>
   Q t25 sx7)) t3 t8 sx3
theorem w44_eq (P : Prims) (a0 : AV) (Q : AV → AS → Prop) : w44 P a0 Q = vcBody P T0 Go.Proofs.Tryz.f44 (codeOf Go.Proofs.Tryz.f44) an44 [a0] ⟨.nil, 0⟩ Q := by kernel_rfl
theorem r44 (a0 : AV) {r : AV} (hi : AV.idfree.idfrees [a0] = true) (hn : AV.norm.norms [a0] = [a0]) (h : w44 (prims T0) a0 (fun r1 s1 => oZ T0 s1 r1 (fun r2 => r2 = r))) : R T0 44 [a0] r :=
  R.mk (by kernel_rfl) (by kernel_rfl) (show T0.fn 44 = some Go.Proofs.Tryz.f44 by kernel_rfl) (by kernel_rfl) (by kernel_rfl) hi hn (by rw [w44_eq] at h; exact h)
/- (*strings.Builder).String -/
def an45 : AN := (.seq none .leaf (.seq none .leaf .leaf))
def w45 (P : Prims) (a0 : AV) (s : AS) (Q : AV → AS → Prop) : Prop :=
  P.oV 4 (evNilCheck a0) fun t4 =>
  P.oV 5 (evOff 1 t4) fun t5 =>
  P.oV 6 (evLoad T0 s.h 63 t5) fun t6 =>
  P.oV 7 (evBuiltin T0 s.h .unsafeSliceData [63] [t6]) fun t7 =>
  P.oV 9 (evNilCheck a0) fun t9 =>
  P.oV 10 (evOff 1 t9) fun t10 =>
  P.oV 11 (evLoad T0 s.h 63 t10) fun t11 =>
  P.oV 12 (evBuiltin T0 s.h .len [63] [t11]) fun t12 =>
  P.oM 13 (evUStr T0 s 87 t7 t12) fun t13 sx1 =>
  Q t13 sx1
theorem w45_eq (P : Prims) (a0 : AV) (s : AS) (Q : AV → AS → Prop) : w45 P a0 s Q = vcBody P T0 Go.Proofs.Tryz.f45 (codeOf Go.Proofs.Tryz.f45) an45 [a0] s Q := by kernel_rfl
theorem r45 (a0 : AV) {s s' : AS} {r : AV} (h : w45 (prims T0) a0 s (fun r1 s1 => r1 = r ∧ s1 = s')) : Runs T0 45 [a0] s r s' :=
  Runs.mk (by kernel_rfl) (by kernel_rfl) (show T0.fn 45 = some Go.Proofs.Tryz.f45 by kernel_rfl) (by kernel_rfl) (by kernel_rfl) (by kernel_rfl) (by rw [w45_eq] at h; exact h)
/- orchestrator/orchestratorref06.decimal -/
def an46 : AN := (.seq none .leaf (.seq none .leaf (.seq none (.seq none .leaf (.two (.seq none .leaf .leaf) .leaf)) (.seq none .leaf .leaf))))
def w46 (P : Prims) (a0 : AV) (Q : AV → AS → Prop) : Prop :=
  P.oV 5 (evBin T0 .lss 3 true a0 (.i .i64 10)) fun t5 =>
  P.oI t5 (P.oV 9 (evBin T0 .add 3 true a0 (.i .i64 1)) fun t9 =>
   P.oV 10 (evSliceH T0 Tr.nil 9 (.s [48, 49, 50, 51, 52, 53, 54, 55, 56, 57]) (some a0) (some t9) none) fun t10 =>
   Q t10 ⟨Tr.nil, 0⟩)
  (P.oV 13 (evBin T0 .quo 3 true a0 (.i .i64 10)) fun t13 =>
   P.oV 15 (evBin T0 .quo 3 true a0 (.i .i64 10)) fun t15 =>
   P.oV 16 (evBin T0 .add 3 true t15 (.i .i64 1)) fun t16 =>
   P.oV 17 (evSliceH T0 Tr.nil 9 (.s [48, 49, 50, 51, 52, 53, 54, 55, 56, 57]) (some t13) (some t16) none) fun t17 =>
   P.oV 20 (evBin T0 .rem 3 true a0 (.i .i64 10)) fun t20 =>
   P.oV 22 (evBin T0 .rem 3 true a0 (.i .i64 10)) fun t22 =>
   P.oV 23 (evBin T0 .add 3 true t22 (.i .i64 1)) fun t23 =>
   P.oV 24 (evSliceH T0 Tr.nil 9 (.s [48, 49, 50, 51, 52, 53, 54, 55, 56, 57]) (some t20) (some t23) none) fun t24 =>
   P.oV 25 (evBin T0 .add 9 false t17 t24) fun t25 =>
   Q t25 ⟨Tr.nil, 0⟩)
theorem w46_eq (P : Prims) (a0 : AV) (Q : AV → AS → Prop) : w46 P a0 Q = vcBody P T0 Go.Proofs.Tryz.f46 (codeOf Go.Proofs.Tryz.f46) an46 [a0] ⟨.nil, 0⟩ Q := by kernel_rfl
theorem r46 (a0 : AV) {r : AV} (hi : AV.idfree.idfrees [a0] = true) (hn : AV.norm.norms [a0] = [a0]) (h : w46 (prims T0) a0 (fun r1 s1 => oZ T0 s1 r1 (fun r2 => r2 = r))) : R T0 46 [a0] r :=
  R.mk (by kernel_rfl) (by kernel_rfl) (show T0.fn 46 = some Go.Proofs.Tryz.f46 by kernel_rfl) (by kernel_rfl) (by kernel_rfl) hi hn (by rw [w46_eq] at h; exact h)
/- orchestrator/orchestratorref06.quote -/
def an47 : AN := (.seq none .leaf (.seq none .leaf (.seq none (.seq none .leaf (.one (.loop [3, 0, 4] (.seq none (.seq none .leaf (.two .leaf .leaf)) (.seq (some [3, 0, 4]) (.one (.seq none .leaf (.two .leaf (.seq none .leaf (.two .leaf .leaf))))) .leaf))))) (.seq none .leaf .leaf))))
def w47 (P : Prims) (a0 : AV) (Q : AV → AS → Prop) : Prop :=
  P.oL [3, 0, 4] (fun (next : C3) t3 t0 t4 sx1 =>
  P.oV 7 (evBuiltin T0 sx1.h .len [9] [t0]) fun t7 =>
  P.oV 8 (evBin T0 .lss 3 false t4 t7) fun t8 =>
  P.oI t8 (P.oJ [3, 0, 4] (fun (k : C3) =>
    P.oV 13 (evIndex T0 9 t0 t4) fun t13 =>
    P.oV 14 (evBin T0 .eql 5 true t13 (.i .u8 10)) fun t14 =>
    P.oI t14 (P.oV 16 (evBin T0 .add 9 true t3 (.s [92, 110])) fun t16 =>
     k t16 t0 t4 sx1)
    (P.oV 19 (evIndex T0 9 t0 t4) fun t19 =>
     P.oV 20 (evBin T0 .eql 5 true t19 (.i .u8 34)) fun t20 =>
     P.oG [22, 23, 24, 25] t20 false (fun (kx1 : C4) => P.oV 24 (evIndex T0 9 t0 t4) fun t24 =>
      P.oV 25 (evBin T0 .eql 5 true t24 (.i .u8 92)) fun t25 =>
      kx1 t0 t4 t24 t25 sx1) sx1 fun t22 t23 t24 t25 sx2 =>
     P.oV 26 (evPick t20 (some (.b true)) (some t25)) fun t26 =>
     P.oI t26 (P.oV 28 (evBin T0 .add 9 true t3 (.s [92])) fun t28 =>
      P.oV 32 (evBin T0 .add 3 true t4 (.i .i64 1)) fun t32 =>
      P.oV 33 (evSliceH T0 sx2.h 9 t0 (some t4) (some t32) none) fun t33 =>
      P.oV 34 (evBin T0 .add 9 false t28 t33) fun t34 =>
      k t34 t0 t4 sx2)
     (P.oV 39 (evBin T0 .add 3 true t4 (.i .i64 1)) fun t39 =>
      P.oV 40 (evSliceH T0 sx2.h 9 t0 (some t4) (some t39) none) fun t40 =>
      P.oV 41 (evBin T0 .add 9 false t3 t40) fun t41 =>
      k t41 t0 t4 sx2)))
   (fun t3x1 t0x1 t4x1 sx2 =>
   P.oV 10 (evBin T0 .add 3 true t4x1 (.i .i64 1)) fun t10 =>
   next t3x1 t0x1 t10 sx2))
  (P.oV 43 (evBin T0 .add 9 true t3 (.s [34])) fun t43 =>
   Q t43 sx1)) (.s [34]) a0 (.i .i64 0) ⟨Tr.nil, 0⟩
theorem w47_eq (P : Prims) (a0 : AV) (Q : AV → AS → Prop) : w47 P a0 Q = vcBody P T0 Go.Proofs.Tryz.f47 (codeOf Go.Proofs.Tryz.f47) an47 [a0] ⟨.nil, 0⟩ Q := by kernel_rfl
theorem r47 (a0 : AV) {r : AV} (hi : AV.idfree.idfrees [a0] = true) (hn : AV.norm.norms [a0] = [a0]) (h : w47 (prims T0) a0 (fun r1 s1 => oZ T0 s1 r1 (fun r2 => r2 = r))) : R T0 47 [a0] r :=
  R.mk (by kernel_rfl) (by kernel_rfl) (show T0.fn 47 = some Go.Proofs.Tryz.f47 by kernel_rfl) (by kernel_rfl) (by kernel_rfl) hi hn (by rw [w47_eq] at h; exact h)
/- orchestrator/path.index -/
def an64 : AN := (.seq none .leaf (.seq none (.seq none .leaf (.one (.loop [0, 9] (.seq none .leaf (.seq none (.two .leaf .leaf) (.one (.seq none .leaf (.seq none .leaf (.two (.seq none .leaf .leaf) .leaf))))))))) (.seq none (.seq none .leaf (.two (.seq none .leaf .leaf) .leaf)) (.seq none .leaf (.seq (some [6]) (.seq none .leaf (.two .leaf .leaf)) (.seq none .leaf .leaf))))))
def w64 (P : Prims) (a0 : AV) (Q : AV → AS → Prop) : Prop :=
  P.oE (evRange T0 9 a0) fun b f =>
  P.oN 9 b f ⟨Tr.nil, 0⟩ fun t9 sx1 =>
  P.oL [0, 9] (fun (next : C2) t0 t9x1 sx2 =>
  P.oM 10 (evNext sx2 t9x1) fun t10 sx3 =>
  P.oV 11 (evExtract 0 t10) fun t11 =>
  P.oI t11 (P.oV 12 (evExtract 2 t10) fun t12 =>
   P.oV 14 (evBin T0 .lss 21 true t12 (.i .i32 48)) fun t14 =>
   P.oG [16, 17] t14 false (fun (k : C2) => P.oV 17 (evBin T0 .gtr 21 true t12 (.i .i32 57)) fun t17 =>
    k t12 t17 sx3) sx3 fun t16 t17 sx4 =>
   P.oV 18 (evPick t14 (some (.b true)) (some t17)) fun t18 =>
   P.oI t18 (Q (.tup [(.i .i64 0), (.b false)]) sx4)
   (next t0 t9x1 sx4))
  (P.oV 20 (evBin T0 .eql 9 true t0 (.s [])) fun t20 =>
   P.oG [22, 23, 24, 25] t20 false (fun (k : C4) => P.oV 23 (evBuiltin T0 sx3.h .len [9] [t0]) fun t23 =>
    P.oV 24 (evBin T0 .gtr 3 true t23 (.i .i64 1)) fun t24 =>
    k t0 t23 t24 t24 sx3) sx3 fun t22 t23 t24 t25 sx4 =>
   P.oG [26, 27, 28] t25 true (fun (k : C3) => P.oV 27 (evIndex T0 9 t0 (.i .i64 0)) fun t27 =>
    P.oV 28 (evBin T0 .eql 5 true t27 (.i .u8 48)) fun t28 =>
    k t0 t27 t28 sx4) sx4 fun t26 t27 t28 sx5 =>
   P.oG [29] t20 false (fun (k : C1) => P.oV 29 (evPick t25 (some t28) (some (.b false))) fun t29 =>
    k t29 sx5) sx5 fun t29 sx6 =>
   P.oV 30 (evPick t20 (some (.b true)) (some t29)) fun t30 =>
   P.oI t30 (Q (.tup [(.i .i64 0), (.b false)]) sx6)
   (P.oC 33 94 [t0] sx6 fun t33 sx7 =>
    P.oV 34 (evExtract 0 t33) fun t34 =>
    P.oV 35 (evExtract 1 t33) fun t35 =>
    P.oJ [6] (fun (k : C1) =>
     P.oV 37 (evBin T0 .neq 67 true t35 .nili) fun t37 =>
     P.oG [39, 40] t37 false (fun (kx1 : C2) => P.oV 40 (evBin T0 .gtr 3 true t34 (.i .i64 64)) fun t40 =>
      kx1 t34 t40 sx7) sx7 fun t39 t40 sx8 =>
     P.oV 41 (evPick t37 (some (.b true)) (some t40)) fun t41 =>
     P.oI t41 (k (.i .i64 65) sx8)
     (k t34 sx8))
    (fun t6 sx8 =>
    Q (.tup [t6, (.b true)]) sx8)))) a0 t9 sx1
theorem w64_eq (P : Prims) (a0 : AV) (Q : AV → AS → Prop) : w64 P a0 Q = vcBody P T0 Go.Proofs.Tryz.f64 (codeOf Go.Proofs.Tryz.f64) an64 [a0] ⟨.nil, 0⟩ Q := by kernel_rfl
theorem r64 (a0 : AV) {r : AV} (hi : AV.idfree.idfrees [a0] = true) (hn : AV.norm.norms [a0] = [a0]) (h : w64 (prims T0) a0 (fun r1 s1 => oZ T0 s1 r1 (fun r2 => r2 = r))) : R T0 64 [a0] r :=
  R.mk (by kernel_rfl) (by kernel_rfl) (show T0.fn 64 = some Go.Proofs.Tryz.f64 by kernel_rfl) (by kernel_rfl) (by kernel_rfl) hi hn (by rw [w64_eq] at h; exact h)
/- orchestrator/path.unquote -/
def an65 : AN := (.seq none .leaf (.seq none .leaf (.seq none (.seq none .leaf (.two (.seq none .leaf .leaf) .leaf)) (.seq none (.seq none .leaf (.one (.loop [5, 0, 6] (.seq none (.seq none .leaf (.two .leaf .leaf)) (.seq (some [5, 0, 6]) (.one (.seq none .leaf (.one (.seq none .leaf (.two (.seq none .leaf .leaf) (.seq none .leaf (.two (.seq none .leaf .leaf) (.seq none .leaf (.two .leaf (.seq none .leaf (.two (.seq none .leaf .leaf) (.seq none .leaf (.two (.seq none .leaf .leaf) (.seq none .leaf .leaf)))))))))))))) .leaf))))) (.seq none .leaf .leaf)))))
def w65 (P : Prims) (a0 : AV) (Q : AV → AS → Prop) : Prop :=
  P.oN 5 (.cells [.nilp, (.nilz true)] 65 false) (fun id => (.ptr id 0)) ⟨Tr.nil, 0⟩ fun t5 sx1 =>
  P.oV 9 (evBin T0 .eql 9 true a0 (.s [])) fun t9 =>
  P.oG [11, 12, 13] t9 false (fun (k : C3) => P.oV 12 (evIndex T0 9 a0 (.i .i64 0)) fun t12 =>
   P.oV 13 (evBin T0 .neq 5 true t12 (.i .u8 34)) fun t13 =>
   k a0 t12 t13 sx1) sx1 fun t11 t12 t13 sx2 =>
  P.oV 14 (evPick t9 (some (.b true)) (some t13)) fun t14 =>
  P.oI t14 (Q (.tup [(.s []), (.s []), (.b false)]) sx2)
  (P.oL [5, 0, 6] (fun (next : C3) t5x1 t0 t6 sx3 =>
   P.oV 17 (evBuiltin T0 sx3.h .len [9] [t0]) fun t17 =>
   P.oV 18 (evBin T0 .lss 3 false t6 t17) fun t18 =>
   P.oI t18 (P.oJ [5, 0, 6] (fun (k : C3) =>
     P.oV 23 (evIndex T0 9 t0 t6) fun t23 =>
     P.oV 26 (evBin T0 .eql 5 true t23 (.i .u8 34)) fun t26 =>
     P.oI t26 (P.oT (plainA t0) (P.oT (plainA t6) (P.oT (plainA t6) (P.oT (plainA (.i .i64 1)) (P.oV 30 (evBin T0 .add 3 true t6 (.i .i64 1)) fun t30 =>
      P.oT (plainA t30) (P.oT (plainA t0) (P.oT (plainOp (some t30)) (P.oT (plainOp none) (P.oT (plainOp none) (P.oV 31 (evSlice T0 9 t0 (some t30) none none) fun t31 =>
      P.oT (plainA t31) (P.oC 27 45 [t5x1] sx3 fun t27 sx4 =>
      Q (.tup [t27, t31, (.b true)]) sx4)))))))))))
     (P.oV 34 (evBin T0 .lss 5 true t23 (.i .u8 32)) fun t34 =>
      P.oG [36, 37] t34 false (fun (kx1 : C2) => P.oV 37 (evBin T0 .gtr 5 true t23 (.i .u8 126)) fun t37 =>
       kx1 t23 t37 sx3) sx3 fun t36 t37 sx4 =>
      P.oV 38 (evPick t34 (some (.b true)) (some t37)) fun t38 =>
      P.oI t38 (Q (.tup [(.s []), (.s []), (.b false)]) sx4)
      (P.oV 41 (evBin T0 .neq 5 true t23 (.i .u8 92)) fun t41 =>
       P.oI t41 (P.oC 43 41 [t5x1, t23] sx4 fun t43 sx5 =>
        k t5x1 t0 t6 sx5)
       (P.oV 46 (evBin T0 .add 3 true t6 (.i .i64 1)) fun t46 =>
        P.oV 48 (evBuiltin T0 sx4.h .len [9] [t0]) fun t48 =>
        P.oV 49 (evBin T0 .lss 3 false t46 t48) fun t49 =>
        P.oG [51, 52, 53, 54, 55, 56] t49 true (fun (kx1 : C6) => P.oV 53 (evBin T0 .add 3 true t6 (.i .i64 1)) fun t53 =>
         P.oV 54 (evIndex T0 9 t0 t53) fun t54 =>
         P.oV 55 (evBin T0 .eql 5 true t54 (.i .u8 34)) fun t55 =>
         kx1 t0 t6 t53 t54 t55 t55 sx4) sx4 fun t51 t52 t53 t54 t55 t56 sx5 =>
        P.oG [57, 58, 59, 60, 61] t56 false (fun (kx1 : C5) => P.oV 59 (evBin T0 .add 3 true t6 (.i .i64 1)) fun t59 =>
         P.oV 60 (evIndex T0 9 t0 t59) fun t60 =>
         P.oV 61 (evBin T0 .eql 5 true t60 (.i .u8 92)) fun t61 =>
         kx1 t0 t6 t59 t60 t61 sx5) sx5 fun t57 t58 t59 t60 t61 sx6 =>
        P.oG [62] t49 true (fun (kx1 : C1) => P.oV 62 (evPick t56 (some (.b true)) (some t61)) fun t62 =>
         kx1 t62 sx6) sx6 fun t62 sx7 =>
        P.oV 63 (evPick t49 (some t62) (some (.b false))) fun t63 =>
        P.oI t63 (P.oV 65 (evBin T0 .add 3 true t6 (.i .i64 1)) fun t65 =>
         P.oV 68 (evIndex T0 9 t0 t65) fun t68 =>
         P.oC 69 41 [t5x1, t68] sx7 fun t69 sx8 =>
         k t5x1 t0 t65 sx8)
        (P.oV 72 (evBin T0 .add 3 true t6 (.i .i64 1)) fun t72 =>
         P.oV 74 (evBuiltin T0 sx7.h .len [9] [t0]) fun t74 =>
         P.oV 75 (evBin T0 .lss 3 false t72 t74) fun t75 =>
         P.oG [77, 78, 79, 80, 81] t75 true (fun (kx1 : C5) => P.oV 79 (evBin T0 .add 3 true t6 (.i .i64 1)) fun t79 =>
          P.oV 80 (evIndex T0 9 t0 t79) fun t80 =>
          P.oV 81 (evBin T0 .eql 5 true t80 (.i .u8 110)) fun t81 =>
          kx1 t0 t6 t79 t80 t81 sx7) sx7 fun t77 t78 t79 t80 t81 sx8 =>
         P.oV 82 (evPick t75 (some t81) (some (.b false))) fun t82 =>
         P.oI t82 (P.oV 84 (evBin T0 .add 3 true t6 (.i .i64 1)) fun t84 =>
          P.oC 85 41 [t5x1, (.i .u8 10)] sx8 fun t85 sx9 =>
          k t5x1 t0 t84 sx9)
         (Q (.tup [(.s []), (.s []), (.b false)]) sx8))))))
    (fun t5x2 t0x1 t6x1 sx4 =>
    P.oV 20 (evBin T0 .add 3 true t6x1 (.i .i64 1)) fun t20 =>
    next t5x2 t0x1 t20 sx4))
   (Q (.tup [(.s []), (.s []), (.b false)]) sx3)) t5 a0 (.i .i64 1) sx2)
theorem w65_eq (P : Prims) (a0 : AV) (Q : AV → AS → Prop) : w65 P a0 Q = vcBody P T0 Go.Proofs.Tryz.f65 (codeOf Go.Proofs.Tryz.f65) an65 [a0] ⟨.nil, 0⟩ Q := by kernel_rfl
theorem r65 (a0 : AV) {r : AV} (hi : AV.idfree.idfrees [a0] = true) (hn : AV.norm.norms [a0] = [a0]) (h : w65 (prims T0) a0 (fun r1 s1 => oZ T0 s1 r1 (fun r2 => r2 = r))) : R T0 65 [a0] r :=
  R.mk (by kernel_rfl) (by kernel_rfl) (show T0.fn 65 = some Go.Proofs.Tryz.f65 by kernel_rfl) (by kernel_rfl) (by kernel_rfl) hi hn (by rw [w65_eq] at h; exact h)
/- orchestrator/orchestratorref06.bracket -/
/- orchestrator/orchestratorref06.name -/
/- (*strings.Builder).copyCheck -/
def an69 : AN := (.seq none .leaf (.two .leaf (.seq none .leaf (.two .leaf .leaf))))
def w69 (P : Prims) (a0 : AV) (s : AS) (Q : AV → AS → Prop) : Prop :=
  P.oV 3 (evNilCheck a0) fun t3 =>
  P.oV 4 (evOff 0 t3) fun t4 =>
  P.oV 5 (evLoad T0 s.h 62 t4) fun t5 =>
  P.oV 6 (evBin T0 .eql 62 true t5 .nilp) fun t6 =>
  P.oI t6 (P.oV 9 (evConv T0 s.h 62 106 a0) fun t9 =>
   P.oC 10 98 [t9] s fun t10 sx1 =>
   P.oV 11 (evConv T0 sx1.h 106 62 t10) fun t11 =>
   P.oV 12 (evNilCheck a0) fun t12 =>
   P.oV 13 (evOff 0 t12) fun t13 =>
   P.oH (evStore T0 sx1.h 62 t13 t11) sx1 fun sx2 =>
   Q (.tup []) sx2)
  (P.oV 15 (evNilCheck a0) fun t15 =>
   P.oV 16 (evOff 0 t15) fun t16 =>
   P.oV 17 (evLoad T0 s.h 62 t16) fun t17 =>
   P.oV 19 (evBin T0 .neq 62 false t17 a0) fun t19 =>
   P.oI t19 (False)
   (Q (.tup []) s))
theorem w69_eq (P : Prims) (a0 : AV) (s : AS) (Q : AV → AS → Prop) : w69 P a0 s Q = vcBody P T0 Go.Proofs.Tryz.f69 (codeOf Go.Proofs.Tryz.f69) an69 [a0] s Q := by kernel_rfl
theorem r69 (a0 : AV) {s s' : AS} {r : AV} (h : w69 (prims T0) a0 s (fun r1 s1 => r1 = r ∧ s1 = s')) : Runs T0 69 [a0] s r s' :=
  Runs.mk (by kernel_rfl) (by kernel_rfl) (show T0.fn 69 = some Go.Proofs.Tryz.f69 by kernel_rfl) (by kernel_rfl) (by kernel_rfl) (by kernel_rfl) (by rw [w69_eq] at h; exact h)
/- (*strings.Builder).WriteRune -/
def an71 : AN := (.seq none .leaf (.seq none .leaf (.seq none .leaf (.seq none .leaf (.seq none .leaf .leaf)))))
def w71 (P : Prims) (a0 a1 : AV) (s : AS) (Q : AV → AS → Prop) : Prop :=
  P.oC 8 69 [a0] s fun t8 sx1 =>
  P.oV 10 (evNilCheck a0) fun t10 =>
  P.oV 11 (evOff 1 t10) fun t11 =>
  P.oV 12 (evLoad T0 sx1.h 63 t11) fun t12 =>
  P.oV 13 (evBuiltin T0 sx1.h .len [63] [t12]) fun t13 =>
  P.oV 16 (evNilCheck a0) fun t16 =>
  P.oV 17 (evOff 1 t16) fun t17 =>
  P.oV 18 (evLoad T0 sx1.h 63 t17) fun t18 =>
  P.oC 20 100 [t18, a1] sx1 fun t20 sx2 =>
  P.oV 21 (evNilCheck a0) fun t21 =>
  P.oV 22 (evOff 1 t21) fun t22 =>
  P.oH (evStore T0 sx2.h 63 t22 t20) sx2 fun sx3 =>
  P.oV 24 (evNilCheck a0) fun t24 =>
  P.oV 25 (evOff 1 t24) fun t25 =>
  P.oV 26 (evLoad T0 sx3.h 63 t25) fun t26 =>
  P.oV 27 (evBuiltin T0 sx3.h .len [63] [t26]) fun t27 =>
  P.oV 29 (evBin T0 .sub 3 false t27 t13) fun t29 =>
  Q (.tup [t29, .nili]) sx3
theorem w71_eq (P : Prims) (a0 a1 : AV) (s : AS) (Q : AV → AS → Prop) : w71 P a0 a1 s Q = vcBody P T0 Go.Proofs.Tryz.f71 (codeOf Go.Proofs.Tryz.f71) an71 [a0, a1] s Q := by kernel_rfl
theorem r71 (a0 a1 : AV) {s s' : AS} {r : AV} (h : w71 (prims T0) a0 a1 s (fun r1 s1 => r1 = r ∧ s1 = s')) : Runs T0 71 [a0, a1] s r s' :=
  Runs.mk (by kernel_rfl) (by kernel_rfl) (show T0.fn 71 = some Go.Proofs.Tryz.f71 by kernel_rfl) (by kernel_rfl) (by kernel_rfl) (by kernel_rfl) (by rw [w71_eq] at h; exact h)
/- strconv.Atoi -/
def an94 : AN := (.seq none .leaf (.seq none .leaf (.seq none (.seq none .leaf (.two (.seq none .leaf .leaf) .leaf)) (.seq none .leaf .leaf))))
def w94 (P : Prims) (a0 : AV) (Q : AV → AS → Prop) : Prop :=
  P.oC 8 112 [a0] ⟨Tr.nil, 0⟩ fun t8 sx1 =>
  P.oV 9 (evExtract 0 t8) fun t9 =>
  P.oV 10 (evExtract 1 t8) fun t10 =>
  P.oV 12 (evBin T0 .neq 67 true t10 .nili) fun t12 =>
  P.oI t12 (P.oC 16 113 [(.s [65, 116, 111, 105]), a0, (.i .i64 0), (.i .i64 0), t10] sx1 fun t16 sx2 =>
   Q (.tup [t9, t16]) sx2)
  (Q (.tup [t9, .nili]) sx1)
theorem w94_eq (P : Prims) (a0 : AV) (Q : AV → AS → Prop) : w94 P a0 Q = vcBody P T0 Go.Proofs.Tryz.f94 (codeOf Go.Proofs.Tryz.f94) an94 [a0] ⟨.nil, 0⟩ Q := by kernel_rfl
theorem r94 (a0 : AV) {r : AV} (hi : AV.idfree.idfrees [a0] = true) (hn : AV.norm.norms [a0] = [a0]) (h : w94 (prims T0) a0 (fun r1 s1 => oZ T0 s1 r1 (fun r2 => r2 = r))) : R T0 94 [a0] r :=
  R.mk (by kernel_rfl) (by kernel_rfl) (show T0.fn 94 = some Go.Proofs.Tryz.f94 by kernel_rfl) (by kernel_rfl) (by kernel_rfl) hi hn (by rw [w94_eq] at h; exact h)
/- orchestrator/orchestratorref06.number -/
/- orchestrator/orchestratorref06.digits -/
/- orchestrator/orchestratorref06.quoted -/
/- unicode/utf8.AppendRune -/
def an100 : AN := (.seq none .leaf (.seq none (.seq none .leaf (.two (.seq none .leaf .leaf) .leaf)) (.seq none .leaf .leaf)))
def w100 (P : Prims) (a0 a1 : AV) (s : AS) (Q : AV → AS → Prop) : Prop :=
  P.oV 6 (evConv T0 s.h 21 122 a1) fun t6 =>
  P.oV 7 (evBin T0 .leq 122 true t6 (.i .u32 127)) fun t7 =>
  P.oI t7 (P.oV 10 (evConv T0 s.h 21 5 a1) fun t10 =>
   P.oV 11 (evIce T0 63 1 [(0, t10)]) fun t11 =>
   P.oM 12 (evAppend T0 s 63 63 a0 t11) fun t12 sx1 =>
   Q t12 sx1)
  (P.oC 15 118 [a0, a1] s fun t15 sx1 =>
   Q t15 sx1)
theorem w100_eq (P : Prims) (a0 a1 : AV) (s : AS) (Q : AV → AS → Prop) : w100 P a0 a1 s Q = vcBody P T0 Go.Proofs.Tryz.f100 (codeOf Go.Proofs.Tryz.f100) an100 [a0, a1] s Q := by kernel_rfl
theorem r100 (a0 a1 : AV) {s s' : AS} {r : AV} (h : w100 (prims T0) a0 a1 s (fun r1 s1 => r1 = r ∧ s1 = s')) : Runs T0 100 [a0, a1] s r s' :=
  Runs.mk (by kernel_rfl) (by kernel_rfl) (show T0.fn 100 = some Go.Proofs.Tryz.f100 by kernel_rfl) (by kernel_rfl) (by kernel_rfl) (by kernel_rfl) (by rw [w100_eq] at h; exact h)

end Go.Proofs.YtmfhmlhaofpeiaaGreatDoor.Ev
