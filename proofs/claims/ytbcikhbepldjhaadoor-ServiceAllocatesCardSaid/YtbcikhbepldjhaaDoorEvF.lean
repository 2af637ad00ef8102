/- The functions' code, laid out. Printed by WP.lean.txt, a program of this session's. -/
import Derived.Test.YtbcikhbepldjhaaDoorEvTy
namespace Go.Proofs.YtbcikhbepldjhaaDoor.Ev
open Go Go.RowKit
set_option linter.unusedVariables false
set_option maxRecDepth 100000
/- orchestrator/orchestratorlaw56.ServiceAllocates -/
def an3 : AN := (.seq none .leaf (.seq none (.seq none .leaf (.two (.seq none .leaf .leaf) .leaf)) (.seq none .leaf (.seq none .leaf (.seq none (.seq none .leaf (.two (.seq none .leaf .leaf) .leaf)) (.seq none .leaf (.seq none (.seq none .leaf (.two (.seq none .leaf .leaf) .leaf)) (.seq none (.seq none .leaf (.one (.loop [14, 13, 15] (.seq none (.seq none .leaf (.two .leaf .leaf)) (.seq none (.one (.seq none .leaf (.two (.seq none .leaf .leaf) .leaf))) .leaf))))) (.seq none .leaf .leaf)))))))))
def w3 (P : Prims) (a0 a1 a2 a3 : AV) (Q : AV → AS → Prop) : Prop :=
  P.oV 17 (evBuild T0 33 []) fun t17 =>
  P.oV 18 (evBuild T0 36 []) fun t18 =>
  P.oC 19 8 [a0, t17, t18] ⟨Tr.nil, 0⟩ fun t19 sx1 =>
  P.oI t19 (P.oC 20 9 [] sx1 fun t20 sx2 =>
   Q t20 sx2)
  (P.oC 25 10 [a0, a1, a2] sx1 fun t25 sx2 =>
   P.oV 26 (evExtract 0 t25) fun t26 =>
   P.oV 27 (evExtract 1 t25) fun t27 =>
   P.oC 32 11 [a0, a1, a2] sx2 fun t32 sx3 =>
   P.oV 33 (evExtract 0 t32) fun t33 =>
   P.oV 34 (evExtract 1 t32) fun t34 =>
   P.oV 37 (evBin T0 .neq 3 false t26 t33) fun t37 =>
   P.oG [39, 40, 41] t37 false (fun (k : C3) => P.oV 41 (evBin T0 .neq 38 false t27 t34) fun t41 =>
    k t27 t34 t41 sx3) sx3 fun t39 t40 t41 sx4 =>
   P.oV 42 (evPick t37 (some (.b true)) (some t41)) fun t42 =>
   P.oI t42 (Q (.b false) sx4)
   (P.oC 45 12 [a0, a3] sx4 fun t45 sx5 =>
    P.oC 48 13 [a0, a3] sx5 fun t48 sx6 =>
    P.oV 50 (evBuiltin T0 sx6.h .len [22] [t45]) fun t50 =>
    P.oV 52 (evBuiltin T0 sx6.h .len [22] [t48]) fun t52 =>
    P.oV 53 (evBin T0 .neq 3 false t50 t52) fun t53 =>
    P.oI t53 (Q (.b false) sx6)
    (P.oL [14, 13, 15] (fun (next : C3) t14 t13 t15 sx7 =>
     P.oV 56 (evBuiltin T0 sx7.h .len [22] [t13]) fun t56 =>
     P.oV 57 (evBin T0 .lss 3 false t15 t56) fun t57 =>
     P.oI t57 (P.oV 62 (evIndexAddr T0 22 t13 t15) fun t62 =>
      P.oV 63 (evOff 16 t62) fun t63 =>
      P.oV 64 (evLoad T0 sx7.h 3 t63) fun t64 =>
      P.oV 67 (evIndexAddr T0 22 t14 t15) fun t67 =>
      P.oV 68 (evOff 16 t67) fun t68 =>
      P.oV 69 (evLoad T0 sx7.h 3 t68) fun t69 =>
      P.oV 70 (evBin T0 .neq 3 false t64 t69) fun t70 =>
      P.oG [72, 73, 74, 75, 76, 77, 78, 79, 80, 81, 82, 83, 84] t70 false (fun (k : C13) => P.oV 74 (evIndexAddr T0 22 t13 t15) fun t74 =>
       P.oV 75 (evOff 0 t74) fun t75 =>
       P.oV 76 (evOff 2 t75) fun t76 =>
       P.oV 77 (evLoad T0 sx7.h 9 t76) fun t77 =>
       P.oV 80 (evIndexAddr T0 22 t14 t15) fun t80 =>
       P.oV 81 (evOff 0 t80) fun t81 =>
       P.oV 82 (evOff 2 t81) fun t82 =>
       P.oV 83 (evLoad T0 sx7.h 9 t82) fun t83 =>
       P.oV 84 (evBin T0 .neq 9 false t77 t83) fun t84 =>
       k t13 t15 t74 t75 t76 t77 t14 t15 t80 t81 t82 t83 t84 sx7) sx7 fun t72 t73 t74 t75 t76 t77 t78 t79 t80 t81 t82 t83 t84 sx8 =>
      P.oV 85 (evPick t70 (some (.b true)) (some t84)) fun t85 =>
      P.oG [87, 88, 89, 90, 91, 92, 93, 94, 95, 96, 97] t85 false (fun (k : C11) => P.oV 89 (evIndexAddr T0 22 t13 t15) fun t89 =>
       P.oV 90 (evOff 15 t89) fun t90 =>
       P.oV 91 (evLoad T0 sx7.h 4 t90) fun t91 =>
       P.oV 94 (evIndexAddr T0 22 t14 t15) fun t94 =>
       P.oV 95 (evOff 15 t94) fun t95 =>
       P.oV 96 (evLoad T0 sx7.h 4 t95) fun t96 =>
       P.oV 97 (evBin T0 .neq 4 false t91 t96) fun t97 =>
       k t13 t15 t89 t90 t91 t14 t15 t94 t95 t96 t97 sx7) sx7 fun t87 t88 t89 t90 t91 t92 t93 t94 t95 t96 t97 sx9 =>
      P.oV 98 (evPick t85 (some (.b true)) (some t97)) fun t98 =>
      P.oI t98 (Q (.b false) sx7)
      (P.oV 59 (evBin T0 .add 3 true t15 (.i .i64 1)) fun t59 =>
       next t14 t13 t59 sx7))
     (P.oC 99 9 [] sx7 fun t99 sx8 =>
      Q t99 sx8)) t48 t45 (.i .i64 0) sx6)))
theorem w3_eq (P : Prims) (a0 a1 a2 a3 : AV) (Q : AV → AS → Prop) : w3 P a0 a1 a2 a3 Q = vcBody P T0 Go.Proofs.Tryd.f3 (codeOf Go.Proofs.Tryd.f3) an3 [a0, a1, a2, a3] ⟨.nil, 0⟩ Q := by kernel_rfl
theorem r3 (a0 a1 a2 a3 : AV) {r : AV} (hi : AV.idfree.idfrees [a0, a1, a2, a3] = true) (hn : AV.norm.norms [a0, a1, a2, a3] = [a0, a1, a2, a3]) (h : w3 (prims T0) a0 a1 a2 a3 (fun r1 s1 => oZ T0 s1 r1 (fun r2 => r2 = r))) : R T0 3 [a0, a1, a2, a3] r :=
  R.mk (by kernel_rfl) (by kernel_rfl) (show T0.fn 3 = some Go.Proofs.Tryd.f3 by kernel_rfl) (by kernel_rfl) (by kernel_rfl) hi hn (by rw [w3_eq] at h; exact h)
/- orchestrator/orchestratorlaw56.ServiceRoutes -/
def an4 : AN := (.seq none .leaf (.seq none (.seq none .leaf (.two (.seq none .leaf .leaf) .leaf)) (.seq none .leaf (.seq none .leaf (.seq none .leaf .leaf)))))
def w4 (P : Prims) (a0 a1 a2 a3 a4 : AV) (Q : AV → AS → Prop) : Prop :=
  P.oN 5 (.cells (AV.cells a0) 33 false) (fun id => (.ptr id 0)) ⟨Tr.nil, 0⟩ fun t5 sx1 =>
  P.oN 6 (.cells (AV.cells a1) 36 false) (fun id => (.ptr id 0)) sx1 fun t6 sx2 =>
  P.oV 17 (evLoad T0 sx2.h 33 t5) fun t17 =>
  P.oV 18 (evLoad T0 sx2.h 36 t6) fun t18 =>
  P.oC 19 8 [(.nilz true), t17, t18] sx2 fun t19 sx3 =>
  P.oI t19 (P.oC 20 9 [] sx3 fun t20 sx4 =>
   Q t20 sx4)
  (P.oV 22 (evLoad T0 sx3.h 33 t5) fun t22 =>
   P.oV 23 (evLoad T0 sx3.h 36 t6) fun t23 =>
   P.oC 27 14 [t22, t23, a2, a3, a4] sx3 fun t27 sx4 =>
   P.oV 28 (evExtract 0 t27) fun t28 =>
   P.oV 29 (evExtract 1 t27) fun t29 =>
   P.oV 30 (evExtract 2 t27) fun t30 =>
   P.oV 32 (evLoad T0 sx4.h 33 t5) fun t32 =>
   P.oV 33 (evLoad T0 sx4.h 36 t6) fun t33 =>
   P.oC 37 15 [t32, t33, a2, a3, a4] sx4 fun t37 sx5 =>
   P.oV 38 (evExtract 0 t37) fun t38 =>
   P.oV 39 (evExtract 1 t37) fun t39 =>
   P.oV 40 (evExtract 2 t37) fun t40 =>
   P.oV 43 (evBin T0 .eql 3 false t28 t38) fun t43 =>
   P.oG [45, 46, 47] t43 true (fun (k : C3) => P.oV 47 (evBin T0 .eql 3 false t29 t39) fun t47 =>
    k t29 t39 t47 sx5) sx5 fun t45 t46 t47 sx6 =>
   P.oV 48 (evPick t43 (some t47) (some (.b false))) fun t48 =>
   P.oG [50, 51, 52] t48 true (fun (k : C3) => P.oV 52 (evBin T0 .eql 4 false t30 t40) fun t52 =>
    k t30 t40 t52 sx6) sx6 fun t50 t51 t52 sx7 =>
   P.oV 53 (evPick t48 (some t52) (some (.b false))) fun t53 =>
   P.oG [55] t53 true (fun (k : C1) => P.oC 55 9 [] sx7 fun t55 sx8 =>
    k t55 sx8) sx7 fun t55 sx8 =>
   P.oV 56 (evPick t53 (some t55) (some (.b false))) fun t56 =>
   Q t56 sx8)
theorem w4_eq (P : Prims) (a0 a1 a2 a3 a4 : AV) (Q : AV → AS → Prop) : w4 P a0 a1 a2 a3 a4 Q = vcBody P T0 Go.Proofs.Tryd.f4 (codeOf Go.Proofs.Tryd.f4) an4 [a0, a1, a2, a3, a4] ⟨.nil, 0⟩ Q := by kernel_rfl
theorem r4 (a0 a1 a2 a3 a4 : AV) {r : AV} (hi : AV.idfree.idfrees [a0, a1, a2, a3, a4] = true) (hn : AV.norm.norms [a0, a1, a2, a3, a4] = [a0, a1, a2, a3, a4]) (h : w4 (prims T0) a0 a1 a2 a3 a4 (fun r1 s1 => oZ T0 s1 r1 (fun r2 => r2 = r))) : R T0 4 [a0, a1, a2, a3, a4] r :=
  R.mk (by kernel_rfl) (by kernel_rfl) (show T0.fn 4 = some Go.Proofs.Tryd.f4 by kernel_rfl) (by kernel_rfl) (by kernel_rfl) hi hn (by rw [w4_eq] at h; exact h)
/- orchestrator/orchestratorlaw56.ServiceMinimalMove -/
def an5 : AN := (.seq none .leaf (.seq none .leaf (.seq none (.seq none .leaf (.two (.seq none .leaf .leaf) .leaf)) (.seq none .leaf (.seq none .leaf (.seq none .leaf (.seq none .leaf (.seq none .leaf (.seq none .leaf (.seq none .leaf .leaf))))))))))
def w5 (P : Prims) (a0 a1 a2 : AV) (Q : AV → AS → Prop) : Prop :=
  P.oC 18 16 [a0] ⟨Tr.nil, 0⟩ fun t18 sx1 =>
  P.oN 7 (.cells [(.s []), (.s []), (.s []), (.i .i64 0), (.i .i64 0), (.i .i64 0), (.i .i64 0), (.b false), (.i .i64 0), (.nilz true), (.nilz true), (.nilz true), (.nilz true), (.nilz true), (.nilz true)] 36 false) (fun id => (.ptr id 0)) sx1 fun t7 sx2 =>
  P.oH (evStore T0 sx2.h 36 t7 t18) sx2 fun sx3 =>
  P.oV 19 (evBuild T0 33 []) fun t19 =>
  P.oV 20 (evLoad T0 sx3.h 36 t7) fun t20 =>
  P.oC 21 8 [(.nilz true), t19, t20] sx3 fun t21 sx4 =>
  P.oG [23, 24, 25] t21 false (fun (k : C3) => P.oV 24 (evBuiltin T0 sx4.h .len [26] [a0]) fun t24 =>
   P.oV 25 (evBin T0 .lss 3 true t24 (.i .i64 2)) fun t25 =>
   k a0 t24 t25 sx4) sx4 fun t23 t24 t25 sx5 =>
  P.oV 26 (evPick t21 (some (.b true)) (some t25)) fun t26 =>
  P.oI t26 (P.oC 27 9 [] sx5 fun t27 sx6 =>
   Q t27 sx6)
  (P.oV 29 (evConv T0 sx5.h 5 3 a1) fun t29 =>
   P.oV 31 (evBuiltin T0 sx5.h .len [26] [a0]) fun t31 =>
   P.oV 32 (evBin T0 .rem 3 false t29 t31) fun t32 =>
   P.oE (evLit T0 34 0 []) fun b f =>
   P.oN 33 b f sx5 fun t33 sx6 =>
   P.oV 34 (evOff 14 t7) fun t34 =>
   P.oV 35 (evLoad T0 sx6.h 34 t34) fun t35 =>
   P.oV 37 (evSlice T0 34 t35 none (some t32) none) fun t37 =>
   P.oM 38 (evAppend T0 sx6 34 34 t33 t37) fun t38 sx7 =>
   P.oV 40 (evOff 14 t7) fun t40 =>
   P.oV 41 (evLoad T0 sx7.h 34 t40) fun t41 =>
   P.oV 43 (evBin T0 .add 3 true t32 (.i .i64 1)) fun t43 =>
   P.oV 44 (evSlice T0 34 t41 (some t43) none none) fun t44 =>
   P.oM 45 (evAppend T0 sx7 34 34 t38 t44) fun t45 sx8 =>
   P.oV 47 (evBuild T0 36 [(2, t45)]) fun t47 =>
   P.oN 10 (.cells [(.s []), (.s []), (.s []), (.i .i64 0), (.i .i64 0), (.i .i64 0), (.i .i64 0), (.b false), (.i .i64 0), (.nilz true), (.nilz true), (.nilz true), (.nilz true), (.nilz true), (.nilz true)] 36 false) (fun id => (.ptr id 0)) sx8 fun t10 sx9 =>
   P.oH (evStore T0 sx9.h 36 t10 t47) sx9 fun sx10 =>
   P.oC 49 17 [] sx10 fun t49 sx11 =>
   P.oV 50 (evLoad T0 sx10.h 36 t7) fun t50 =>
   P.oC 52 14 [t49, t50, (.i .i64 1), a2, (.i .i64 0)] sx10 fun t52 sx12 =>
   P.oV 53 (evExtract 0 t52) fun t53 =>
   P.oV 54 (evExtract 1 t52) fun t54 =>
   P.oV 55 (evExtract 2 t52) fun t55 =>
   P.oC 57 17 [] sx10 fun t57 sx13 =>
   P.oV 58 (evLoad T0 sx10.h 36 t10) fun t58 =>
   P.oC 60 14 [t57, t58, (.i .i64 1), a2, (.i .i64 0)] sx10 fun t60 sx14 =>
   P.oV 61 (evExtract 0 t60) fun t61 =>
   P.oV 62 (evExtract 1 t60) fun t62 =>
   P.oV 63 (evExtract 2 t60) fun t63 =>
   P.oG [66] t55 true (fun (k : C1) => k t63 sx10) sx10 fun t66 sx15 =>
   P.oV 67 (evPick t55 (some t66) (some (.b false))) fun t67 =>
   P.oG [69, 70, 71, 72, 73] t67 true (fun (k : C5) => P.oV 71 (evBin T0 .add 3 true t32 (.i .i64 1)) fun t71 =>
    P.oV 72 (evBin T0 .eql 3 false t53 t71) fun t72 =>
    k t53 t32 t71 t72 t72 sx15) sx15 fun t69 t70 t71 t72 t73 sx16 =>
   P.oG [74, 75, 76] t73 false (fun (k : C3) => P.oV 76 (evBin T0 .eql 3 false t53 t61) fun t76 =>
    k t53 t61 t76 sx16) sx16 fun t74 t75 t76 sx17 =>
   P.oG [77] t67 true (fun (k : C1) => P.oV 77 (evPick t73 (some (.b true)) (some t76)) fun t77 =>
    k t77 sx17) sx17 fun t77 sx18 =>
   P.oV 78 (evPick t67 (some t77) (some (.b false))) fun t78 =>
   P.oG [80, 81, 82, 83] t78 true (fun (k : C4) => P.oV 82 (evBin T0 .add 3 true t32 (.i .i64 1)) fun t82 =>
    P.oV 83 (evBin T0 .neq 3 false t61 t82) fun t83 =>
    k t61 t32 t82 t83 sx18) sx18 fun t80 t81 t82 t83 sx19 =>
   P.oV 84 (evPick t78 (some t83) (some (.b false))) fun t84 =>
   P.oG [86] t84 true (fun (k : C1) => P.oC 86 9 [] sx19 fun t86 sx20 =>
    k t86 sx20) sx19 fun t86 sx20 =>
   P.oV 87 (evPick t84 (some t86) (some (.b false))) fun t87 =>
   Q t87 sx20)
theorem w5_eq (P : Prims) (a0 a1 a2 : AV) (Q : AV → AS → Prop) : w5 P a0 a1 a2 Q = vcBody P T0 Go.Proofs.Tryd.f5 (codeOf Go.Proofs.Tryd.f5) an5 [a0, a1, a2] ⟨.nil, 0⟩ Q := by kernel_rfl
theorem r5 (a0 a1 a2 : AV) {r : AV} (hi : AV.idfree.idfrees [a0, a1, a2] = true) (hn : AV.norm.norms [a0, a1, a2] = [a0, a1, a2]) (h : w5 (prims T0) a0 a1 a2 (fun r1 s1 => oZ T0 s1 r1 (fun r2 => r2 = r))) : R T0 5 [a0, a1, a2] r :=
  R.mk (by kernel_rfl) (by kernel_rfl) (show T0.fn 5 = some Go.Proofs.Tryd.f5 by kernel_rfl) (by kernel_rfl) (by kernel_rfl) hi hn (by rw [w5_eq] at h; exact h)
/- orchestrator/orchestratorlaw56.ServiceFair -/
def an6 : AN := (.seq none .leaf (.seq none .leaf (.seq none (.seq none .leaf (.two (.seq none .leaf .leaf) .leaf)) (.seq none .leaf (.seq none .leaf (.seq none .leaf (.seq none (.seq none .leaf (.one (.loop [9, 0, 1, 2, 7, 8, 10] (.seq none (.seq none .leaf (.two .leaf .leaf)) (.seq none (.one (.seq none .leaf (.seq none (.seq none .leaf (.two (.seq none .leaf .leaf) .leaf)) .leaf))) .leaf))))) (.seq none .leaf .leaf))))))))
def w6 (P : Prims) (a0 a1 a2 : AV) (Q : AV → AS → Prop) : Prop :=
  P.oC 15 16 [a0] ⟨Tr.nil, 0⟩ fun t15 sx1 =>
  P.oN 7 (.cells [(.s []), (.s []), (.s []), (.i .i64 0), (.i .i64 0), (.i .i64 0), (.i .i64 0), (.b false), (.i .i64 0), (.nilz true), (.nilz true), (.nilz true), (.nilz true), (.nilz true), (.nilz true)] 36 false) (fun id => (.ptr id 0)) sx1 fun t7 sx2 =>
  P.oH (evStore T0 sx2.h 36 t7 t15) sx2 fun sx3 =>
  P.oV 16 (evBuild T0 33 []) fun t16 =>
  P.oV 17 (evLoad T0 sx3.h 36 t7) fun t17 =>
  P.oC 18 8 [(.nilz true), t16, t17] sx3 fun t18 sx4 =>
  P.oI t18 (P.oC 19 9 [] sx4 fun t19 sx5 =>
   Q t19 sx5)
  (P.oC 20 17 [] sx4 fun t20 sx5 =>
   P.oN 8 (.cells [(.s []), (.s []), (.s []), (.i .i64 0), (.i .i64 0), (.i .i64 0), (.i .i64 0), (.b false), (.i .i64 0), (.nilz true), (.nilz true), (.nilz true), (.nilz true), (.nilz true), (.nilz true), (.b false), (.i .i64 0)] 33 false) (fun id => (.ptr id 0)) sx5 fun t8 sx6 =>
   P.oH (evStore T0 sx6.h 33 t8 t20) sx6 fun sx7 =>
   P.oV 21 (evOff 15 t8) fun t21 =>
   P.oH (evStore T0 sx7.h 4 t21 (.b false)) sx7 fun sx8 =>
   P.oV 23 (evBuiltin T0 sx8.h .len [26] [a0]) fun t23 =>
   P.oV 24 (evBin T0 .add 3 true t23 (.i .i64 1)) fun t24 =>
   P.oE (evMake T0 50 t24 t24) fun b f =>
   P.oN 25 b f sx8 fun t25 sx9 =>
   P.oL [9, 0, 1, 2, 7, 8, 10] (fun (next : C7) t9 t0 t1 t2 t7x1 t8x1 t10 sx10 =>
   P.oV 28 (evBuiltin T0 sx10.h .len [26] [t0]) fun t28 =>
   P.oV 29 (evBin T0 .lss 3 false t10 t28) fun t29 =>
   P.oI t29 (P.oV 33 (evLoad T0 sx10.h 33 t8x1) fun t33 =>
    P.oV 34 (evLoad T0 sx10.h 36 t7x1) fun t34 =>
    P.oV 37 (evConv T0 sx10.h 49 3 t1) fun t37 =>
    P.oV 39 (evBin T0 .add 3 false t37 t10) fun t39 =>
    P.oC 40 14 [t33, t34, (.i .i64 1), t2, t39] sx10 fun t40 sx11 =>
    P.oV 41 (evExtract 0 t40) fun t41 =>
    P.oV 42 (evExtract 1 t40) fun t42 =>
    P.oV 43 (evExtract 2 t40) fun t43 =>
    P.oV 45 (evUn .not t43) fun t45 =>
    P.oG [47, 48] t45 false (fun (k : C2) => P.oV 48 (evBin T0 .neq 3 true t42 (.i .i64 2)) fun t48 =>
     k t42 t48 sx11) sx11 fun t47 t48 sx12 =>
    P.oV 49 (evPick t45 (some (.b true)) (some t48)) fun t49 =>
    P.oG [51, 52] t49 false (fun (k : C2) => P.oV 52 (evBin T0 .lss 3 true t41 (.i .i64 1)) fun t52 =>
     k t41 t52 sx12) sx12 fun t51 t52 sx13 =>
    P.oV 53 (evPick t49 (some (.b true)) (some t52)) fun t53 =>
    P.oG [55, 56, 57, 58] t53 false (fun (k : C4) => P.oV 57 (evBuiltin T0 sx13.h .len [26] [t0]) fun t57 =>
     P.oV 58 (evBin T0 .gtr 3 false t41 t57) fun t58 =>
     k t41 t0 t57 t58 sx13) sx13 fun t55 t56 t57 t58 sx14 =>
    P.oV 59 (evPick t53 (some (.b true)) (some t58)) fun t59 =>
    P.oG [61, 62, 63, 64] t59 false (fun (k : C4) => P.oV 63 (evIndexAddr T0 50 t9 t41) fun t63 =>
     P.oV 64 (evLoad T0 sx14.h 4 t63) fun t64 =>
     k t9 t41 t63 t64 sx14) sx14 fun t61 t62 t63 t64 sx15 =>
    P.oV 65 (evPick t59 (some (.b true)) (some t64)) fun t65 =>
    P.oI t65 (Q (.b false) sx15)
    (P.oV 68 (evIndexAddr T0 50 t9 t41) fun t68 =>
     P.oH (evStore T0 sx15.h 4 t68 (.b true)) sx15 fun sx16 =>
     P.oV 31 (evBin T0 .add 3 true t10 (.i .i64 1)) fun t31 =>
     next t9 t0 t1 t2 t7x1 t8x1 t31 sx16))
   (P.oC 69 9 [] sx10 fun t69 sx11 =>
    Q t69 sx11)) t25 a0 a1 a2 t7 t8 (.i .i64 0) sx9)
theorem w6_eq (P : Prims) (a0 a1 a2 : AV) (Q : AV → AS → Prop) : w6 P a0 a1 a2 Q = vcBody P T0 Go.Proofs.Tryd.f6 (codeOf Go.Proofs.Tryd.f6) an6 [a0, a1, a2] ⟨.nil, 0⟩ Q := by kernel_rfl
theorem r6 (a0 a1 a2 : AV) {r : AV} (hi : AV.idfree.idfrees [a0, a1, a2] = true) (hn : AV.norm.norms [a0, a1, a2] = [a0, a1, a2]) (h : w6 (prims T0) a0 a1 a2 (fun r1 s1 => oZ T0 s1 r1 (fun r2 => r2 = r))) : R T0 6 [a0, a1, a2] r :=
  R.mk (by kernel_rfl) (by kernel_rfl) (show T0.fn 6 = some Go.Proofs.Tryd.f6 by kernel_rfl) (by kernel_rfl) (by kernel_rfl) hi hn (by rw [w6_eq] at h; exact h)
/- orchestrator/orchestratorlaw56.ServiceFree -/
def an7 : AN := (.seq none .leaf (.seq none (.seq none .leaf (.two (.seq none .leaf .leaf) .leaf)) (.seq none .leaf (.seq none (.seq none .leaf (.two (.seq none .leaf .leaf) .leaf)) (.seq none (.seq none .leaf (.two (.seq none .leaf .leaf) .leaf)) (.seq none .leaf (.seq none (.seq none .leaf (.one (.loop [1, 7, 9, 0, 10] (.seq none (.seq none .leaf (.two .leaf .leaf)) (.seq (some [1, 7, 9, 0, 10]) (.one (.seq none (.seq none .leaf (.two (.seq none .leaf .leaf) .leaf)) (.seq none .leaf (.seq none (.seq none .leaf (.one (.loop [1, 7, 9, 0, 10, 11, 12] (.seq none (.seq none .leaf (.two .leaf .leaf)) (.seq none (.one .leaf) .leaf))))) (.seq none .leaf (.two .leaf .leaf)))))) .leaf))))) (.seq none .leaf .leaf))))))))
def w7 (P : Prims) (a0 a1 a2 : AV) (Q : AV → AS → Prop) : Prop :=
  P.oV 14 (evBuild T0 33 []) fun t14 =>
  P.oV 15 (evBuild T0 36 []) fun t15 =>
  P.oC 16 8 [a0, t14, t15] ⟨Tr.nil, 0⟩ fun t16 sx1 =>
  P.oI t16 (P.oC 17 9 [] sx1 fun t17 sx2 =>
   Q t17 sx2)
  (P.oC 22 10 [a0, a1, a2] sx1 fun t22 sx2 =>
   P.oV 23 (evExtract 0 t22) fun t23 =>
   P.oV 24 (evExtract 1 t22) fun t24 =>
   P.oV 26 (evBin T0 .neq 38 true t24 (.i .i64 0)) fun t26 =>
   P.oI t26 (P.oV 28 (evBin T0 .eql 3 true t23 (.i .i64 0)) fun t28 =>
    P.oG [30, 31, 32] t28 true (fun (k : C3) => P.oV 31 (evBin T0 .eql 38 true t24 (.i .i64 5)) fun t31 =>
     k t24 t31 t31 sx2) sx2 fun t30 t31 t32 sx3 =>
    P.oG [33, 34, 35] t32 false (fun (k : C3) => P.oV 34 (evBin T0 .eql 38 true t24 (.i .i64 15)) fun t34 =>
     k t24 t34 t34 sx3) sx3 fun t33 t34 t35 sx4 =>
    P.oG [36, 37, 38, 39] t35 true (fun (k : C4) => P.oV 38 (evBuiltin T0 sx4.h .len [22] [a0]) fun t38 =>
     P.oV 39 (evBin T0 .leq 3 false a2 t38) fun t39 =>
     k a2 a0 t38 t39 sx4) sx4 fun t36 t37 t38 t39 sx5 =>
    P.oG [40] t32 false (fun (k : C1) => P.oV 40 (evPick t35 (some t39) (some (.b false))) fun t40 =>
     k t40 sx5) sx5 fun t40 sx6 =>
    P.oG [41] t28 true (fun (k : C1) => P.oV 41 (evPick t32 (some (.b true)) (some t40)) fun t41 =>
     k t41 sx6) sx6 fun t41 sx7 =>
    P.oV 42 (evPick t28 (some t41) (some (.b false))) fun t42 =>
    P.oG [44] t42 true (fun (k : C1) => P.oC 44 9 [] sx7 fun t44 sx8 =>
     k t44 sx8) sx7 fun t44 sx8 =>
    P.oV 45 (evPick t42 (some t44) (some (.b false))) fun t45 =>
    Q t45 sx8)
   (P.oV 48 (evBin T0 .lss 3 false t23 a1) fun t48 =>
    P.oG [50, 51, 52, 53, 54] t48 false (fun (k : C5) => P.oV 52 (evBin T0 .sub 3 false t23 a1) fun t52 =>
     P.oV 54 (evBin T0 .geq 3 false t52 a2) fun t54 =>
     k t23 a1 t52 a2 t54 sx2) sx2 fun t50 t51 t52 t53 t54 sx3 =>
    P.oV 55 (evPick t48 (some (.b true)) (some t54)) fun t55 =>
    P.oG [57, 58, 59, 60, 61, 62] t55 false (fun (k : C6) => P.oV 59 (evBin T0 .sub 3 false t23 a1) fun t59 =>
     P.oV 61 (evBuiltin T0 sx3.h .len [22] [a0]) fun t61 =>
     P.oV 62 (evBin T0 .gtr 3 false t59 t61) fun t62 =>
     k t23 a1 t59 a0 t61 t62 sx3) sx3 fun t57 t58 t59 t60 t61 t62 sx4 =>
    P.oV 63 (evPick t55 (some (.b true)) (some t62)) fun t63 =>
    P.oI t63 (Q (.b false) sx4)
    (P.oL [1, 7, 9, 0, 10] (fun (next : C5) t1 t7 t9 t0 t10 sx5 =>
     P.oV 66 (evBuiltin T0 sx5.h .len [22] [t0]) fun t66 =>
     P.oV 67 (evBin T0 .lss 3 false t10 t66) fun t67 =>
     P.oI t67 (P.oJ [1, 7, 9, 0, 10] (fun (k : C5) =>
       P.oV 72 (evIndexAddr T0 22 t0 t10) fun t72 =>
       P.oV 73 (evOff 16 t72) fun t73 =>
       P.oV 74 (evLoad T0 sx5.h 3 t73) fun t74 =>
       P.oV 76 (evBin T0 .eql 3 false t74 t7) fun t76 =>
       P.oI t76 (Q (.b false) sx5)
       (P.oL [1, 7, 9, 0, 10, 11, 12] (fun (nextx1 : C7) t1x1 t7x1 t9x1 t0x1 t10x1 t11 t12 sx6 =>
        P.oV 79 (evBin T0 .lss 3 false t12 t10x1) fun t79 =>
        P.oI t79 (P.oG [84, 85, 86, 87, 88, 89, 90, 91, 92, 93, 94] t11 false (fun (kx1 : C11) => P.oV 86 (evIndexAddr T0 22 t0x1 t12) fun t86 =>
          P.oV 87 (evOff 16 t86) fun t87 =>
          P.oV 88 (evLoad T0 sx6.h 3 t87) fun t88 =>
          P.oV 91 (evIndexAddr T0 22 t0x1 t10x1) fun t91 =>
          P.oV 92 (evOff 16 t91) fun t92 =>
          P.oV 93 (evLoad T0 sx6.h 3 t92) fun t93 =>
          P.oV 94 (evBin T0 .eql 3 false t88 t93) fun t94 =>
          kx1 t0x1 t12 t86 t87 t88 t0x1 t10x1 t91 t92 t93 t94 sx6) sx6 fun t84 t85 t86 t87 t88 t89 t90 t91 t92 t93 t94 sx7 =>
         P.oV 95 (evPick t11 (some (.b true)) (some t94)) fun t95 =>
         P.oV 81 (evBin T0 .add 3 true t12 (.i .i64 1)) fun t81 =>
         nextx1 t1x1 t7x1 t9x1 t0x1 t10x1 t95 t81 sx6)
        (P.oV 98 (evIndexAddr T0 22 t0x1 t10x1) fun t98 =>
         P.oV 99 (evOff 16 t98) fun t99 =>
         P.oV 100 (evLoad T0 sx6.h 3 t99) fun t100 =>
         P.oV 102 (evBin T0 .geq 3 false t100 t1x1) fun t102 =>
         P.oG [104, 105, 106, 107, 108, 109, 110] t102 true (fun (kx1 : C7) => P.oV 106 (evIndexAddr T0 22 t0x1 t10x1) fun t106 =>
          P.oV 107 (evOff 16 t106) fun t107 =>
          P.oV 108 (evLoad T0 sx6.h 3 t107) fun t108 =>
          P.oV 110 (evBin T0 .lss 3 false t108 t7x1) fun t110 =>
          kx1 t0x1 t10x1 t106 t107 t108 t7x1 t110 sx6) sx6 fun t104 t105 t106 t107 t108 t109 t110 sx7 =>
         P.oV 111 (evPick t102 (some t110) (some (.b false))) fun t111 =>
         P.oG [113, 114] t111 true (fun (kx1 : C2) => P.oV 114 (evUn .not t11) fun t114 =>
          kx1 t11 t114 sx7) sx7 fun t113 t114 sx8 =>
         P.oV 115 (evPick t111 (some t114) (some (.b false))) fun t115 =>
         P.oI t115 (P.oV 117 (evBin T0 .add 3 true t9x1 (.i .i64 1)) fun t117 =>
          k t1x1 t7x1 t117 t0x1 t10x1 sx8)
         (k t1x1 t7x1 t9x1 t0x1 t10x1 sx8))) t1 t7 t9 t0 t10 (.b false) (.i .i64 0) sx5))
      (fun t1x1 t7x1 t9x1 t0x1 t10x1 sx6 =>
      P.oV 69 (evBin T0 .add 3 true t10x1 (.i .i64 1)) fun t69 =>
      next t1x1 t7x1 t9x1 t0x1 t69 sx6))
     (P.oV 121 (evBin T0 .sub 3 false t7 t1) fun t121 =>
      P.oV 122 (evBin T0 .eql 3 false t9 t121) fun t122 =>
      P.oG [124] t122 true (fun (k : C1) => P.oC 124 9 [] sx5 fun t124 sx6 =>
       k t124 sx6) sx5 fun t124 sx6 =>
      P.oV 125 (evPick t122 (some t124) (some (.b false))) fun t125 =>
      Q t125 sx6)) a1 t23 (.i .i64 0) a0 (.i .i64 0) sx4)))
theorem w7_eq (P : Prims) (a0 a1 a2 : AV) (Q : AV → AS → Prop) : w7 P a0 a1 a2 Q = vcBody P T0 Go.Proofs.Tryd.f7 (codeOf Go.Proofs.Tryd.f7) an7 [a0, a1, a2] ⟨.nil, 0⟩ Q := by kernel_rfl
theorem r7 (a0 a1 a2 : AV) {r : AV} (hi : AV.idfree.idfrees [a0, a1, a2] = true) (hn : AV.norm.norms [a0, a1, a2] = [a0, a1, a2]) (h : w7 (prims T0) a0 a1 a2 (fun r1 s1 => oZ T0 s1 r1 (fun r2 => r2 = r))) : R T0 7 [a0, a1, a2] r :=
  R.mk (by kernel_rfl) (by kernel_rfl) (show T0.fn 7 = some Go.Proofs.Tryd.f7 by kernel_rfl) (by kernel_rfl) (by kernel_rfl) hi hn (by rw [w7_eq] at h; exact h)
/- orchestrator/orchestratorlaw56.heavy -/
def an8 : AN := (.seq none .leaf (.seq none (.seq none .leaf (.one (.loop [5, 4, 0, 7] (.seq none (.seq none .leaf (.two .leaf .leaf)) (.seq none (.one (.seq none .leaf (.two (.seq none .leaf .leaf) .leaf))) .leaf))))) (.seq none .leaf .leaf)))
def w8 (P : Prims) (a0 a1 a2 : AV) (Q : AV → AS → Prop) : Prop :=
  P.oN 4 (.cells (AV.cells a1) 33 false) (fun id => (.ptr id 0)) ⟨Tr.nil, 0⟩ fun t4 sx1 =>
  P.oN 5 (.cells (AV.cells a2) 36 false) (fun id => (.ptr id 0)) sx1 fun t5 sx2 =>
  P.oL [5, 4, 0, 7] (fun (next : C4) t5x1 t4x1 t0 t7 sx3 =>
  P.oV 9 (evOff 14 t5x1) fun t9 =>
  P.oV 10 (evLoad T0 sx3.h 34 t9) fun t10 =>
  P.oV 11 (evBuiltin T0 sx3.h .len [34] [t10]) fun t11 =>
  P.oV 12 (evBin T0 .lss 3 false t7 t11) fun t12 =>
  P.oI t12 (P.oV 15 (evOff 14 t5x1) fun t15 =>
   P.oV 16 (evLoad T0 sx3.h 34 t15) fun t16 =>
   P.oV 18 (evIndexAddr T0 34 t16 t7) fun t18 =>
   P.oV 19 (evOff 0 t18) fun t19 =>
   P.oV 20 (evLoad T0 sx3.h 9 t19) fun t20 =>
   P.oV 21 (evBuiltin T0 sx3.h .len [9] [t20]) fun t21 =>
   P.oV 22 (evBin T0 .gtr 3 true t21 (.i .i64 200)) fun t22 =>
   P.oI t22 (Q (.b true) sx3)
   (P.oV 14 (evBin T0 .add 3 true t7 (.i .i64 1)) fun t14 =>
    next t5x1 t4x1 t0 t14 sx3))
  (P.oV 24 (evBuiltin T0 sx3.h .len [22] [t0]) fun t24 =>
   P.oV 25 (evBin T0 .gtr 3 true t24 (.i .i64 60)) fun t25 =>
   P.oG [27, 28, 29, 30] t25 false (fun (k : C4) => P.oV 27 (evOff 14 t4x1) fun t27 =>
    P.oV 28 (evLoad T0 sx3.h 31 t27) fun t28 =>
    P.oV 29 (evBuiltin T0 sx3.h .len [31] [t28]) fun t29 =>
    P.oV 30 (evBin T0 .gtr 3 true t29 (.i .i64 30)) fun t30 =>
    k t27 t28 t29 t30 sx3) sx3 fun t27 t28 t29 t30 sx4 =>
   P.oV 31 (evPick t25 (some (.b true)) (some t30)) fun t31 =>
   P.oG [33, 34, 35, 36] t31 false (fun (k : C4) => P.oV 33 (evOff 14 t5x1) fun t33 =>
    P.oV 34 (evLoad T0 sx4.h 34 t33) fun t34 =>
    P.oV 35 (evBuiltin T0 sx4.h .len [34] [t34]) fun t35 =>
    P.oV 36 (evBin T0 .gtr 3 true t35 (.i .i64 30)) fun t36 =>
    k t33 t34 t35 t36 sx4) sx4 fun t33 t34 t35 t36 sx5 =>
   P.oV 37 (evPick t31 (some (.b true)) (some t36)) fun t37 =>
   Q t37 sx5)) t5 t4 a0 (.i .i64 0) sx2
theorem w8_eq (P : Prims) (a0 a1 a2 : AV) (Q : AV → AS → Prop) : w8 P a0 a1 a2 Q = vcBody P T0 Go.Proofs.Tryd.f8 (codeOf Go.Proofs.Tryd.f8) an8 [a0, a1, a2] ⟨.nil, 0⟩ Q := by kernel_rfl
theorem r8 (a0 a1 a2 : AV) {r : AV} (hi : AV.idfree.idfrees [a0, a1, a2] = true) (hn : AV.norm.norms [a0, a1, a2] = [a0, a1, a2]) (h : w8 (prims T0) a0 a1 a2 (fun r1 s1 => oZ T0 s1 r1 (fun r2 => r2 = r))) : R T0 8 [a0, a1, a2] r :=
  R.mk (by kernel_rfl) (by kernel_rfl) (show T0.fn 8 = some Go.Proofs.Tryd.f8 by kernel_rfl) (by kernel_rfl) (by kernel_rfl) hi hn (by rw [w8_eq] at h; exact h)
/- orchestrator/orchestratorlaw56.awake -/
def an9 : AN := (.seq none .leaf (.seq none .leaf (.seq none .leaf (.seq none .leaf (.seq none .leaf (.seq none .leaf (.seq none .leaf (.seq none .leaf (.seq none .leaf (.seq none .leaf (.seq none .leaf (.seq none .leaf .leaf))))))))))))
def w9 (P : Prims) (Q : AV → AS → Prop) : Prop :=
  P.oV 20 (evBuild T0 33 [(4, (.i .i64 10))]) fun t20 =>
  P.oV 21 (evBuild T0 29 [(2, (.s [97]))]) fun t21 =>
  P.oV 22 (evBuild T0 33 [(4, (.i .i64 11)), (0, t21)]) fun t22 =>
  P.oE (evLit T0 22 2 [(0, t20), (1, t22)]) fun b f =>
  P.oN 23 b f ⟨Tr.nil, 0⟩ fun t23 sx1 =>
  P.oC 26 10 [t23, (.i .i64 10), (.i .i64 5)] sx1 fun t26 sx2 =>
  P.oV 27 (evExtract 0 t26) fun t27 =>
  P.oV 28 (evExtract 1 t26) fun t28 =>
  P.oC 31 10 [t23, (.i .i64 10), (.i .i64 2)] sx2 fun t31 sx3 =>
  P.oV 32 (evExtract 0 t31) fun t32 =>
  P.oV 33 (evExtract 1 t31) fun t33 =>
  P.oC 36 10 [t23, (.i .i64 0), (.i .i64 2)] sx3 fun t36 sx4 =>
  P.oV 37 (evExtract 0 t36) fun t37 =>
  P.oV 38 (evExtract 1 t36) fun t38 =>
  P.oC 40 12 [t23, (.s [97])] sx4 fun t40 sx5 =>
  P.oV 41 (evBuild T0 56 [(1, (.i .i64 80)), (2, (.i .i64 8080))]) fun t41 =>
  P.oE (evLit T0 31 1 [(0, t41)]) fun bx1 fx1 =>
  P.oN 42 bx1 fx1 sx5 fun t42 sx6 =>
  P.oV 43 (evBuild T0 33 [(2, t42)]) fun t43 =>
  P.oN 9 (.cells [(.s []), (.s []), (.s []), (.i .i64 0), (.i .i64 0), (.i .i64 0), (.i .i64 0), (.b false), (.i .i64 0), (.nilz true), (.nilz true), (.nilz true), (.nilz true), (.nilz true), (.nilz true), (.b false), (.i .i64 0)] 33 false) (fun id => (.ptr id 0)) sx6 fun t9 sx7 =>
  P.oH (evStore T0 sx7.h 33 t9 t43) sx7 fun sx8 =>
  P.oV 44 (evBuild T0 54 [(0, (.s [112])), (2, (.i .i64 1)), (3, (.b true))]) fun t44 =>
  P.oV 45 (evBuild T0 54 [(0, (.s [113])), (2, (.i .i64 2)), (3, (.b true))]) fun t45 =>
  P.oE (evLit T0 34 2 [(0, t44), (1, t45)]) fun bx2 fx2 =>
  P.oN 46 bx2 fx2 sx8 fun t46 sx9 =>
  P.oV 47 (evBuild T0 36 [(2, t46)]) fun t47 =>
  P.oN 10 (.cells [(.s []), (.s []), (.s []), (.i .i64 0), (.i .i64 0), (.i .i64 0), (.i .i64 0), (.b false), (.i .i64 0), (.nilz true), (.nilz true), (.nilz true), (.nilz true), (.nilz true), (.nilz true)] 36 false) (fun id => (.ptr id 0)) sx9 fun t10 sx10 =>
  P.oH (evStore T0 sx10.h 36 t10 t47) sx10 fun sx11 =>
  P.oV 49 (evLoad T0 sx11.h 33 t9) fun t49 =>
  P.oV 50 (evLoad T0 sx11.h 36 t10) fun t50 =>
  P.oC 51 14 [t49, t50, (.i .i64 80), (.i .i64 7), (.i .i64 1)] sx11 fun t51 sx12 =>
  P.oV 52 (evExtract 0 t51) fun t52 =>
  P.oV 53 (evExtract 1 t51) fun t53 =>
  P.oV 54 (evExtract 2 t51) fun t54 =>
  P.oV 56 (evLoad T0 sx12.h 33 t9) fun t56 =>
  P.oV 57 (evLoad T0 sx12.h 36 t10) fun t57 =>
  P.oC 58 14 [t56, t57, (.i .i64 80), (.i .i64 7), (.i .i64 2)] sx12 fun t58 sx13 =>
  P.oV 59 (evExtract 0 t58) fun t59 =>
  P.oV 60 (evExtract 1 t58) fun t60 =>
  P.oV 61 (evExtract 2 t58) fun t61 =>
  P.oV 63 (evLoad T0 sx13.h 33 t9) fun t63 =>
  P.oV 64 (evLoad T0 sx13.h 36 t10) fun t64 =>
  P.oC 65 14 [t63, t64, (.i .i64 81), (.i .i64 7), (.i .i64 1)] sx13 fun t65 sx14 =>
  P.oV 66 (evExtract 0 t65) fun t66 =>
  P.oV 67 (evExtract 1 t65) fun t67 =>
  P.oV 68 (evExtract 2 t65) fun t68 =>
  P.oV 70 (evBin T0 .eql 3 true t27 (.i .i64 12)) fun t70 =>
  P.oG [72, 73] t70 true (fun (k : C2) => P.oV 73 (evBin T0 .eql 38 true t28 (.i .i64 0)) fun t73 =>
   k t28 t73 sx14) sx14 fun t72 t73 sx15 =>
  P.oV 74 (evPick t70 (some t73) (some (.b false))) fun t74 =>
  P.oG [76, 77] t74 true (fun (k : C2) => P.oV 77 (evBin T0 .eql 38 true t33 (.i .i64 15)) fun t77 =>
   k t33 t77 sx15) sx15 fun t76 t77 sx16 =>
  P.oV 78 (evPick t74 (some t77) (some (.b false))) fun t78 =>
  P.oG [80, 81] t78 true (fun (k : C2) => P.oV 81 (evBin T0 .eql 38 true t38 (.i .i64 5)) fun t81 =>
   k t38 t81 sx16) sx16 fun t80 t81 sx17 =>
  P.oV 82 (evPick t78 (some t81) (some (.b false))) fun t82 =>
  P.oG [84, 85, 86] t82 true (fun (k : C3) => P.oV 85 (evBuiltin T0 sx17.h .len [22] [t40]) fun t85 =>
   P.oV 86 (evBin T0 .eql 3 true t85 (.i .i64 2)) fun t86 =>
   k t40 t85 t86 sx17) sx17 fun t84 t85 t86 sx18 =>
  P.oV 87 (evPick t82 (some t86) (some (.b false))) fun t87 =>
  P.oG [89, 90, 91, 92, 93] t87 true (fun (k : C5) => P.oV 90 (evIndexAddr T0 22 t40 (.i .i64 0)) fun t90 =>
   P.oV 91 (evOff 16 t90) fun t91 =>
   P.oV 92 (evLoad T0 sx18.h 3 t91) fun t92 =>
   P.oV 93 (evBin T0 .eql 3 true t92 (.i .i64 10)) fun t93 =>
   k t40 t90 t91 t92 t93 sx18) sx18 fun t89 t90 t91 t92 t93 sx19 =>
  P.oV 94 (evPick t87 (some t93) (some (.b false))) fun t94 =>
  P.oG [96, 97, 98, 99, 100] t94 true (fun (k : C5) => P.oV 97 (evIndexAddr T0 22 t40 (.i .i64 1)) fun t97 =>
   P.oV 98 (evOff 16 t97) fun t98 =>
   P.oV 99 (evLoad T0 sx19.h 3 t98) fun t99 =>
   P.oV 100 (evBin T0 .eql 3 true t99 (.i .i64 0)) fun t100 =>
   k t40 t97 t98 t99 t100 sx19) sx19 fun t96 t97 t98 t99 t100 sx20 =>
  P.oV 101 (evPick t94 (some t100) (some (.b false))) fun t101 =>
  P.oG [103, 104] t101 true (fun (k : C2) => P.oV 104 (evBin T0 .eql 3 true t52 (.i .i64 2)) fun t104 =>
   k t52 t104 sx20) sx20 fun t103 t104 sx21 =>
  P.oV 105 (evPick t101 (some t104) (some (.b false))) fun t105 =>
  P.oG [107, 108] t105 true (fun (k : C2) => P.oV 108 (evBin T0 .eql 3 true t53 (.i .i64 8080)) fun t108 =>
   k t53 t108 sx21) sx21 fun t107 t108 sx22 =>
  P.oV 109 (evPick t105 (some t108) (some (.b false))) fun t109 =>
  P.oG [111] t109 true (fun (k : C1) => k t54 sx22) sx22 fun t111 sx23 =>
  P.oV 112 (evPick t109 (some t111) (some (.b false))) fun t112 =>
  P.oG [114, 115] t112 true (fun (k : C2) => P.oV 115 (evBin T0 .eql 3 true t59 (.i .i64 1)) fun t115 =>
   k t59 t115 sx23) sx23 fun t114 t115 sx24 =>
  P.oV 116 (evPick t112 (some t115) (some (.b false))) fun t116 =>
  P.oG [118, 119] t116 true (fun (k : C2) => P.oV 119 (evUn .not t68) fun t119 =>
   k t68 t119 sx24) sx24 fun t118 t119 sx25 =>
  P.oV 120 (evPick t116 (some t119) (some (.b false))) fun t120 =>
  Q t120 sx25
theorem w9_eq (P : Prims) (Q : AV → AS → Prop) : w9 P  Q = vcBody P T0 Go.Proofs.Tryd.f9 (codeOf Go.Proofs.Tryd.f9) an9 [] ⟨.nil, 0⟩ Q := by kernel_rfl
theorem r9 {r : AV} (hi : AV.idfree.idfrees [] = true) (hn : AV.norm.norms [] = []) (h : w9 (prims T0)  (fun r1 s1 => oZ T0 s1 r1 (fun r2 => r2 = r))) : R T0 9 [] r :=
  R.mk (by kernel_rfl) (by kernel_rfl) (show T0.fn 9 = some Go.Proofs.Tryd.f9 by kernel_rfl) (by kernel_rfl) (by kernel_rfl) hi hn (by rw [w9_eq] at h; exact h)
/- orchestrator/service.Allocate -/
def an10 : AN := (.seq none .leaf (.seq none (.seq none .leaf (.two (.seq none .leaf .leaf) .leaf)) (.seq none .leaf (.seq none (.seq none .leaf (.one (.loop [1, 8, 0, 2, 30, 31, 32] (.seq none .leaf (.seq none (.two .leaf .leaf) (.seq none (.one (.seq none .leaf .leaf)) .leaf)))))) (.seq none (.seq none .leaf (.one (.loop [1, 8, 44, 45] (.seq none .leaf (.seq none (.two .leaf .leaf) (.seq none (.one (.seq none .leaf (.seq none .leaf (.two (.seq none .leaf .leaf) .leaf)))) .leaf)))))) (.seq none .leaf .leaf))))))
def w10 (P : Prims) (a0 a1 a2 : AV) (Q : AV → AS → Prop) : Prop :=
  P.oV 13 (evBin T0 .lss 3 true a1 (.i .i64 1)) fun t13 =>
  P.oG [15, 16] t13 false (fun (k : C2) => P.oV 16 (evBin T0 .lss 3 true a2 (.i .i64 1)) fun t16 =>
   k a2 t16 ⟨Tr.nil, 0⟩) ⟨Tr.nil, 0⟩ fun t15 t16 sx1 =>
  P.oV 17 (evPick t13 (some (.b true)) (some t16)) fun t17 =>
  P.oG [19, 20] t17 false (fun (k : C2) => P.oV 20 (evBin T0 .gtr 3 true a1 (.i .i64 1000000000000000)) fun t20 =>
   k a1 t20 sx1) sx1 fun t19 t20 sx2 =>
  P.oV 21 (evPick t17 (some (.b true)) (some t20)) fun t21 =>
  P.oG [23, 24, 25, 26, 27] t21 false (fun (k : C5) => P.oV 25 (evBin T0 .sub 3 true (.i .i64 1000000000000000) a1) fun t25 =>
   P.oV 26 (evBin T0 .add 3 true t25 (.i .i64 1)) fun t26 =>
   P.oV 27 (evBin T0 .gtr 3 false a2 t26) fun t27 =>
   k a2 a1 t25 t26 t27 sx2) sx2 fun t23 t24 t25 t26 t27 sx3 =>
  P.oV 28 (evPick t21 (some (.b true)) (some t27)) fun t28 =>
  P.oI t28 (Q (.tup [(.i .i64 0), (.i .i64 5)]) sx3)
  (P.oN 29 (.map []) (fun id => (.mp id)) sx3 fun t29 sx4 =>
   P.oV 31 (evBuiltin T0 sx4.h .len [22] [a0]) fun t31 =>
   P.oL [1, 8, 0, 2, 30, 31, 32] (fun (next : C7) t1 t8 t0 t2 t30 t31x1 t32 sx5 =>
   P.oV 33 (evBin T0 .lss 3 false t32 t31x1) fun t33 =>
   P.oI t33 (P.oV 34 (evIndexAddr T0 22 t30 t32) fun t34 =>
    P.oV 35 (evLoad T0 sx5.h 33 t34) fun t35 =>
    P.oN 10 (.cells [(.s []), (.s []), (.s []), (.i .i64 0), (.i .i64 0), (.i .i64 0), (.i .i64 0), (.b false), (.i .i64 0), (.nilz true), (.nilz true), (.nilz true), (.nilz true), (.nilz true), (.nilz true), (.b false), (.i .i64 0)] 33 false) (fun id => (.ptr id 0)) sx5 fun t10 sx6 =>
    P.oH (evStore T0 sx6.h 33 t10 t35) sx6 fun sx7 =>
    P.oV 37 (evOff 16 t10) fun t37 =>
    P.oV 38 (evLoad T0 sx7.h 3 t37) fun t38 =>
    P.oH (evMapUpdate T0 sx7.h 57 t8 t38 (.b true)) sx7 fun sx8 =>
    P.oV 39 (evBin T0 .add 3 true t32 (.i .i64 1)) fun t39 =>
    next t1 t8 t0 t2 t30 t31x1 t39 sx8)
   (P.oV 42 (evBuiltin T0 sx5.h .len [22] [t0]) fun t42 =>
    P.oV 43 (evBin T0 .add 3 true t42 (.i .i64 1)) fun t43 =>
    P.oV 44 (evBuiltin T0 sx5.h .min [3, 3] [t2, t43]) fun t44 =>
    P.oL [1, 8, 44, 45] (fun (nextx1 : C4) t1x1 t8x1 t44x1 t45 sx6 =>
    P.oV 46 (evBin T0 .lss 3 false t45 t44x1) fun t46 =>
    P.oI t46 (P.oV 51 (evBin T0 .add 3 false t1x1 t45) fun t51 =>
     P.oV 52 (evLookup T0 sx6.h 57 t8x1 t51 false) fun t52 =>
     P.oV 53 (evUn .not t52) fun t53 =>
     P.oI t53 (P.oV 56 (evBin T0 .add 3 false t1x1 t45) fun t56 =>
      Q (.tup [t56, (.i .i64 0)]) sx6)
     (P.oV 57 (evBin T0 .add 3 true t45 (.i .i64 1)) fun t57 =>
      nextx1 t1x1 t8x1 t44x1 t57 sx6))
    (Q (.tup [(.i .i64 0), (.i .i64 15)]) sx6)) t1 t8 t44 (.i .i64 0) sx5)) a1 t29 a0 a2 a0 t31 (.i .i64 0) sx4)
theorem w10_eq (P : Prims) (a0 a1 a2 : AV) (Q : AV → AS → Prop) : w10 P a0 a1 a2 Q = vcBody P T0 Go.Proofs.Tryd.f10 (codeOf Go.Proofs.Tryd.f10) an10 [a0, a1, a2] ⟨.nil, 0⟩ Q := by kernel_rfl
theorem r10 (a0 a1 a2 : AV) {r : AV} (hi : AV.idfree.idfrees [a0, a1, a2] = true) (hn : AV.norm.norms [a0, a1, a2] = [a0, a1, a2]) (h : w10 (prims T0) a0 a1 a2 (fun r1 s1 => oZ T0 s1 r1 (fun r2 => r2 = r))) : R T0 10 [a0, a1, a2] r :=
  R.mk (by kernel_rfl) (by kernel_rfl) (show T0.fn 10 = some Go.Proofs.Tryd.f10 by kernel_rfl) (by kernel_rfl) (by kernel_rfl) hi hn (by rw [w10_eq] at h; exact h)
/- orchestrator/orchestratorref56.Allocate -/
def an11 : AN := (.seq none .leaf (.seq none (.seq none .leaf (.two (.seq none .leaf .leaf) .leaf)) (.seq none (.seq none .leaf (.one (.loop [1, 0, 2, 8] (.seq none (.seq none .leaf (.two .leaf .leaf)) (.seq none (.one (.seq none .leaf (.two (.seq none .leaf .leaf) .leaf))) .leaf))))) (.seq none .leaf .leaf))))
def w11 (P : Prims) (a0 a1 a2 : AV) (Q : AV → AS → Prop) : Prop :=
  P.oV 10 (evBin T0 .lss 3 true a1 (.i .i64 1)) fun t10 =>
  P.oG [12, 13] t10 false (fun (k : C2) => P.oV 13 (evBin T0 .lss 3 true a2 (.i .i64 1)) fun t13 =>
   k a2 t13 ⟨Tr.nil, 0⟩) ⟨Tr.nil, 0⟩ fun t12 t13 sx1 =>
  P.oV 14 (evPick t10 (some (.b true)) (some t13)) fun t14 =>
  P.oG [16, 17] t14 false (fun (k : C2) => P.oV 17 (evBin T0 .gtr 3 true a1 (.i .i64 1000000000000000)) fun t17 =>
   k a1 t17 sx1) sx1 fun t16 t17 sx2 =>
  P.oV 18 (evPick t14 (some (.b true)) (some t17)) fun t18 =>
  P.oG [20, 21, 22, 23, 24] t18 false (fun (k : C5) => P.oV 22 (evBin T0 .sub 3 true (.i .i64 1000000000000000) a1) fun t22 =>
   P.oV 23 (evBin T0 .add 3 true t22 (.i .i64 1)) fun t23 =>
   P.oV 24 (evBin T0 .gtr 3 false a2 t23) fun t24 =>
   k a2 a1 t22 t23 t24 sx2) sx2 fun t20 t21 t22 t23 t24 sx3 =>
  P.oV 25 (evPick t18 (some (.b true)) (some t24)) fun t25 =>
  P.oI t25 (Q (.tup [(.i .i64 0), (.i .i64 5)]) sx3)
  (P.oL [1, 0, 2, 8] (fun (next : C4) t1 t0 t2 t8 sx4 =>
   P.oV 28 (evBin T0 .lss 3 false t8 t2) fun t28 =>
   P.oG [30, 31, 32, 33] t28 true (fun (k : C4) => P.oV 32 (evBuiltin T0 sx4.h .len [22] [t0]) fun t32 =>
    P.oV 33 (evBin T0 .leq 3 false t8 t32) fun t33 =>
    k t8 t0 t32 t33 sx4) sx4 fun t30 t31 t32 t33 sx5 =>
   P.oV 34 (evPick t28 (some t33) (some (.b false))) fun t34 =>
   P.oI t34 (P.oV 40 (evBin T0 .add 3 false t1 t8) fun t40 =>
    P.oC 41 18 [t0, t40] sx5 fun t41 sx6 =>
    P.oV 42 (evUn .not t41) fun t42 =>
    P.oI t42 (P.oV 45 (evBin T0 .add 3 false t1 t8) fun t45 =>
     Q (.tup [t45, (.i .i64 0)]) sx6)
    (P.oV 36 (evBin T0 .add 3 true t8 (.i .i64 1)) fun t36 =>
     next t1 t0 t2 t36 sx6))
   (Q (.tup [(.i .i64 0), (.i .i64 15)]) sx5)) a1 a0 a2 (.i .i64 0) sx3)
theorem w11_eq (P : Prims) (a0 a1 a2 : AV) (Q : AV → AS → Prop) : w11 P a0 a1 a2 Q = vcBody P T0 Go.Proofs.Tryd.f11 (codeOf Go.Proofs.Tryd.f11) an11 [a0, a1, a2] ⟨.nil, 0⟩ Q := by kernel_rfl
theorem r11 (a0 a1 a2 : AV) {r : AV} (hi : AV.idfree.idfrees [a0, a1, a2] = true) (hn : AV.norm.norms [a0, a1, a2] = [a0, a1, a2]) (h : w11 (prims T0) a0 a1 a2 (fun r1 s1 => oZ T0 s1 r1 (fun r2 => r2 = r))) : R T0 11 [a0, a1, a2] r :=
  R.mk (by kernel_rfl) (by kernel_rfl) (show T0.fn 11 = some Go.Proofs.Tryd.f11 by kernel_rfl) (by kernel_rfl) (by kernel_rfl) hi hn (by rw [w11_eq] at h; exact h)
/- orchestrator/service.Release -/
def an12 : AN := (.seq none .leaf (.seq none .leaf (.seq none (.seq none .leaf (.one (.loop [5, 1, 8, 9, 10] (.seq none .leaf (.seq none (.two .leaf .leaf) (.seq none (.one (.seq none .leaf (.seq none .leaf (.seq (some [1, 8, 9, 10, 7, 5]) (.seq none .leaf (.two .leaf .leaf)) .leaf)))) .leaf)))))) (.seq none .leaf .leaf))))
def w12 (P : Prims) (a0 a1 : AV) (s : AS) (Q : AV → AS → Prop) : Prop :=
  P.oV 9 (evBuiltin T0 s.h .len [22] [a0]) fun t9 =>
  P.oL [5, 1, 8, 9, 10] (fun (next : C5) t5 t1 t8 t9x1 t10 sx1 =>
  P.oV 11 (evBin T0 .lss 3 false t10 t9x1) fun t11 =>
  P.oI t11 (P.oV 12 (evIndexAddr T0 22 t8 t10) fun t12 =>
   P.oV 13 (evLoad T0 sx1.h 33 t12) fun t13 =>
   P.oN 7 (.cells [(.s []), (.s []), (.s []), (.i .i64 0), (.i .i64 0), (.i .i64 0), (.i .i64 0), (.b false), (.i .i64 0), (.nilz true), (.nilz true), (.nilz true), (.nilz true), (.nilz true), (.nilz true), (.b false), (.i .i64 0)] 33 false) (fun id => (.ptr id 0)) sx1 fun t7 sx2 =>
   P.oH (evStore T0 sx2.h 33 t7 t13) sx2 fun sx3 =>
   P.oV 14 (evLoad T0 sx3.h 33 t7) fun t14 =>
   P.oC 15 19 [t14] sx3 fun t15 sx4 =>
   P.oH (evStore T0 sx4.h 33 t7 t15) sx4 fun sx5 =>
   P.oJ [1, 8, 9, 10, 7, 5] (fun (k : C6) =>
    P.oV 16 (evOff 0 t7) fun t16 =>
    P.oV 17 (evOff 2 t16) fun t17 =>
    P.oV 18 (evLoad T0 sx5.h 9 t17) fun t18 =>
    P.oV 20 (evBin T0 .eql 9 false t18 t1) fun t20 =>
    P.oI t20 (P.oV 21 (evOff 16 t7) fun t21 =>
     P.oH (evStore T0 sx5.h 3 t21 (.i .i64 0)) sx5 fun sx6 =>
     k t1 t8 t9x1 t10 t7 t5 sx6)
    (k t1 t8 t9x1 t10 t7 t5 sx5))
   (fun t1x1 t8x1 t9x2 t10x1 t7x1 t5x1 sx6 =>
   P.oV 23 (evLoad T0 sx6.h 33 t7x1) fun t23 =>
   P.oE (evLit T0 22 1 [(0, t23)]) fun b f =>
   P.oN 24 b f sx6 fun t24 sx7 =>
   P.oM 25 (evAppend T0 sx7 22 22 t5x1 t24) fun t25 sx8 =>
   P.oV 26 (evBin T0 .add 3 true t10x1 (.i .i64 1)) fun t26 =>
   next t25 t1x1 t8x1 t9x2 t26 sx8))
  (Q t5 sx1)) (.nilz true) a1 a0 t9 (.i .i64 0) s
theorem w12_eq (P : Prims) (a0 a1 : AV) (s : AS) (Q : AV → AS → Prop) : w12 P a0 a1 s Q = vcBody P T0 Go.Proofs.Tryd.f12 (codeOf Go.Proofs.Tryd.f12) an12 [a0, a1] s Q := by kernel_rfl
theorem r12 (a0 a1 : AV) {s s' : AS} {r : AV} (h : w12 (prims T0) a0 a1 s (fun r1 s1 => r1 = r ∧ s1 = s')) : Runs T0 12 [a0, a1] s r s' :=
  Runs.mk (by kernel_rfl) (by kernel_rfl) (show T0.fn 12 = some Go.Proofs.Tryd.f12 by kernel_rfl) (by kernel_rfl) (by kernel_rfl) (by kernel_rfl) (by rw [w12_eq] at h; exact h)
/- orchestrator/orchestratorref56.Release -/
def an13 : AN := (.seq none .leaf (.seq none .leaf (.seq none (.seq none .leaf (.one (.loop [5, 1, 0, 6] (.seq none (.seq none .leaf (.two .leaf .leaf)) (.seq none (.one (.seq none .leaf (.seq (some [1, 0, 6, 7, 5]) (.seq none .leaf (.two .leaf .leaf)) .leaf))) .leaf))))) (.seq none .leaf .leaf))))
def w13 (P : Prims) (a0 a1 : AV) (Q : AV → AS → Prop) : Prop :=
  P.oL [5, 1, 0, 6] (fun (next : C4) t5 t1 t0 t6 sx1 =>
  P.oV 10 (evBuiltin T0 sx1.h .len [22] [t0]) fun t10 =>
  P.oV 11 (evBin T0 .lss 3 false t6 t10) fun t11 =>
  P.oI t11 (P.oV 16 (evIndexAddr T0 22 t0 t6) fun t16 =>
   P.oV 17 (evLoad T0 sx1.h 33 t16) fun t17 =>
   P.oN 7 (.cells [(.s []), (.s []), (.s []), (.i .i64 0), (.i .i64 0), (.i .i64 0), (.i .i64 0), (.b false), (.i .i64 0), (.nilz true), (.nilz true), (.nilz true), (.nilz true), (.nilz true), (.nilz true), (.b false), (.i .i64 0)] 33 false) (fun id => (.ptr id 0)) sx1 fun t7 sx2 =>
   P.oH (evStore T0 sx2.h 33 t7 t17) sx2 fun sx3 =>
   P.oJ [1, 0, 6, 7, 5] (fun (k : C5) =>
    P.oV 18 (evOff 0 t7) fun t18 =>
    P.oV 19 (evOff 2 t18) fun t19 =>
    P.oV 20 (evLoad T0 sx3.h 9 t19) fun t20 =>
    P.oV 22 (evBin T0 .eql 9 false t20 t1) fun t22 =>
    P.oI t22 (P.oV 23 (evOff 16 t7) fun t23 =>
     P.oH (evStore T0 sx3.h 3 t23 (.i .i64 0)) sx3 fun sx4 =>
     k t1 t0 t6 t7 t5 sx4)
    (k t1 t0 t6 t7 t5 sx3))
   (fun t1x1 t0x1 t6x1 t7x1 t5x1 sx4 =>
   P.oV 25 (evLoad T0 sx4.h 33 t7x1) fun t25 =>
   P.oE (evLit T0 22 1 [(0, t25)]) fun b f =>
   P.oN 26 b f sx4 fun t26 sx5 =>
   P.oM 27 (evAppend T0 sx5 22 22 t5x1 t26) fun t27 sx6 =>
   P.oV 13 (evBin T0 .add 3 true t6x1 (.i .i64 1)) fun t13 =>
   next t27 t1x1 t0x1 t13 sx6))
  (Q t5 sx1)) (.nilz true) a1 a0 (.i .i64 0) ⟨Tr.nil, 0⟩
theorem w13_eq (P : Prims) (a0 a1 : AV) (Q : AV → AS → Prop) : w13 P a0 a1 Q = vcBody P T0 Go.Proofs.Tryd.f13 (codeOf Go.Proofs.Tryd.f13) an13 [a0, a1] ⟨.nil, 0⟩ Q := by kernel_rfl
theorem r13 (a0 a1 : AV) {r : AV} (hi : AV.idfree.idfrees [a0, a1] = true) (hn : AV.norm.norms [a0, a1] = [a0, a1]) (h : w13 (prims T0) a0 a1 (fun r1 s1 => oZ T0 s1 r1 (fun r2 => r2 = r))) : R T0 13 [a0, a1] r :=
  R.mk (by kernel_rfl) (by kernel_rfl) (show T0.fn 13 = some Go.Proofs.Tryd.f13 by kernel_rfl) (by kernel_rfl) (by kernel_rfl) hi hn (by rw [w13_eq] at h; exact h)
/- orchestrator/service.Route -/
def an14 : AN := (.seq none .leaf (.seq none .leaf (.seq none .leaf (.seq none (.seq none .leaf (.two (.seq none .leaf .leaf) .leaf)) (.seq none .leaf (.seq none (.seq none .leaf (.two (.seq none .leaf .leaf) .leaf)) (.seq none .leaf (.seq none (.seq none .leaf (.one (.loop [15, 16, 17, 3, 63, 64, 65] (.seq none .leaf (.seq none (.two .leaf .leaf) (.seq (some [15, 16, 17, 3, 63, 64, 65]) (.one (.seq none .leaf (.seq none .leaf (.seq none .leaf (.two .leaf .leaf))))) .leaf)))))) (.seq none .leaf .leaf)))))))))
def w14 (P : Prims) (a0 a1 a2 a3 a4 : AV) (Q : AV → AS → Prop) : Prop :=
  P.oN 5 (.cells (AV.cells a0) 33 false) (fun id => (.ptr id 0)) ⟨Tr.nil, 0⟩ fun t5 sx1 =>
  P.oN 6 (.cells (AV.cells a1) 36 false) (fun id => (.ptr id 0)) sx1 fun t6 sx2 =>
  P.oN 7 (.cells (AV.cells a2) 3 false) (fun id => (.ptr id 0)) sx2 fun t7 sx3 =>
  P.oV 21 (evOff 14 t5) fun t21 =>
  P.oV 22 (evLoad T0 sx3.h 31 t21) fun t22 =>
  P.oC 24 20 [t22, (.fn 21 [] [t7])] sx3 fun t24 sx4 =>
  P.oV 25 (evLoad T0 sx4.h 36 t6) fun t25 =>
  P.oC 26 22 [t25] sx4 fun t26 sx5 =>
  P.oV 28 (evBin T0 .lss 3 true t24 (.i .i64 0)) fun t28 =>
  P.oG [30, 31, 32] t28 false (fun (k : C3) => P.oV 31 (evBuiltin T0 sx5.h .len [34] [t26]) fun t31 =>
   P.oV 32 (evBin T0 .eql 3 true t31 (.i .i64 0)) fun t32 =>
   k t26 t31 t32 sx5) sx5 fun t30 t31 t32 sx6 =>
  P.oV 33 (evPick t28 (some (.b true)) (some t32)) fun t33 =>
  P.oI t33 (Q (.tup [(.i .i64 0), (.i .i64 0), (.b false)]) sx6)
  (P.oV 34 (evOff 14 t5) fun t34 =>
   P.oV 35 (evLoad T0 sx6.h 31 t34) fun t35 =>
   P.oV 37 (evIndexAddr T0 31 t35 t24) fun t37 =>
   P.oV 38 (evOff 2 t37) fun t38 =>
   P.oV 39 (evLoad T0 sx6.h 3 t38) fun t39 =>
   P.oV 40 (evOff 15 t5) fun t40 =>
   P.oV 41 (evLoad T0 sx6.h 4 t40) fun t41 =>
   P.oV 42 (evUn .not t41) fun t42 =>
   P.oI t42 (P.oV 45 (evBuiltin T0 sx6.h .max [3, 3] [a4, (.i .i64 0)]) fun t45 =>
    P.oV 47 (evBuiltin T0 sx6.h .len [34] [t26]) fun t47 =>
    P.oV 48 (evBin T0 .rem 3 false t45 t47) fun t48 =>
    P.oV 49 (evIndexAddr T0 34 t26 t48) fun t49 =>
    P.oV 50 (evOff 2 t49) fun t50 =>
    P.oV 51 (evLoad T0 sx6.h 3 t50) fun t51 =>
    Q (.tup [t51, t39, (.b true)]) sx6)
   (P.oV 54 (evIndexAddr T0 34 t26 (.i .i64 0)) fun t54 =>
    P.oV 55 (evLoad T0 sx6.h 54 t54) fun t55 =>
    P.oV 58 (evIndexAddr T0 34 t26 (.i .i64 0)) fun t58 =>
    P.oV 59 (evOff 0 t58) fun t59 =>
    P.oV 60 (evLoad T0 sx6.h 9 t59) fun t60 =>
    P.oC 61 23 [a3, t60] sx6 fun t61 sx7 =>
    P.oT (readOK sx6.n [9, 0, 1, 2, 4, 5, 6, 7, 3, 8] [(9, (sx6.n, (some (.cells [(.s []), (.s []), (.i .i64 0), (.b false), (.b false)] 54 false))))] [(9, (sx6.n, (some (.cells [(.s []), (.s []), (.i .i64 0), (.b false), (.b false)] 54 false))))]) (P.oD (storeA T0 (sx6.h.put sx6.n (some (.cells [(.s []), (.s []), (.i .i64 0), (.b false), (.b false)] 54 false))) 54 (.ptr sx6.n 0) t55) fun i b =>
    P.oT ((rdsOK sx6.n (befG [[], [0], [0, 1], [], [], [4], [4, 5], [4, 5, 6], [4, 5, 6, 7, 3], [], [9, 0, 1, 2, 4, 5, 6, 7, 3, 8], [9, 0, 1, 2, 4, 5, 6, 7, 3, 8, 10]]) [9, 0, 1, 2, 4, 5, 6, 7, 3, 8] [(9, (sx6.n, (some (.cells [(.s []), (.s []), (.i .i64 0), (.b false), (.b false)] 54 false))))] i [8, 7, 2]) && (wrsOK [9, 0, 1, 2, 4, 5, 6, 7, 3, 8] i [(9, (sx6.n, (some (.cells [(.s []), (.s []), (.i .i64 0), (.b false), (.b false)] 54 false))))])) (P.oS ⟨((sx6.h.put sx6.n (some (.cells [(.s []), (.s []), (.i .i64 0), (.b false), (.b false)] 54 false))).put i (some b)), (sx6.n + 1)⟩ fun sx8 =>
    P.oV 63 (evSlice T0 34 t26 (some (.i .i64 1)) none none) fun t63 =>
    P.oV 64 (evBuiltin T0 sx8.h .len [34] [t63]) fun t64 =>
    P.oL [15, 16, 17, 3, 63, 64, 65] (fun (next : C7) t15 t16 t17 t3 t63x1 t64x1 t65 sx9 =>
    P.oV 66 (evBin T0 .lss 3 false t65 t64x1) fun t66 =>
    P.oI t66 (P.oJ [15, 16, 17, 3, 63, 64, 65] (fun (k : C7) =>
      P.oV 67 (evIndexAddr T0 34 t63x1 t65) fun t67 =>
      P.oV 68 (evLoad T0 sx9.h 54 t67) fun t68 =>
      P.oN 19 (.cells [(.s []), (.s []), (.i .i64 0), (.b false), (.b false)] 54 false) (fun id => (.ptr id 0)) sx9 fun t19 sx10 =>
      P.oH (evStore T0 sx10.h 54 t19 t68) sx10 fun sx11 =>
      P.oV 70 (evOff 0 t19) fun t70 =>
      P.oV 71 (evLoad T0 sx11.h 9 t70) fun t71 =>
      P.oC 72 23 [t3, t71] sx11 fun t72 sx12 =>
      P.oV 75 (evBin T0 .gtr 63 false t72 t17) fun t75 =>
      P.oG [77, 78, 79, 80] t75 false (fun (kx1 : C4) => P.oV 79 (evBin T0 .eql 63 false t72 t17) fun t79 =>
       kx1 t72 t17 t79 t79 sx12) sx12 fun t77 t78 t79 t80 sx13 =>
      P.oG [81, 82, 83, 84, 85] t80 true (fun (kx1 : C5) => P.oV 81 (evOff 0 t19) fun t81 =>
       P.oV 82 (evLoad T0 sx13.h 9 t81) fun t82 =>
       P.oV 83 (evOff 0 t16) fun t83 =>
       P.oV 84 (evLoad T0 sx13.h 9 t83) fun t84 =>
       P.oV 85 (evBin T0 .lss 9 false t82 t84) fun t85 =>
       kx1 t81 t82 t83 t84 t85 sx13) sx13 fun t81 t82 t83 t84 t85 sx14 =>
      P.oG [86] t75 false (fun (kx1 : C1) => P.oV 86 (evPick t80 (some t85) (some (.b false))) fun t86 =>
       kx1 t86 sx14) sx14 fun t86 sx15 =>
      P.oV 87 (evPick t75 (some (.b true)) (some t86)) fun t87 =>
      P.oI t87 (P.oV 88 (evLoad T0 sx15.h 54 t19) fun t88 =>
       P.oH (evStore T0 sx15.h 54 t16 t88) sx15 fun sx16 =>
       k t15 t16 t72 t3 t63x1 t64x1 t65 sx16)
      (k t15 t16 t17 t3 t63x1 t64x1 t65 sx15))
     (fun t15x1 t16x1 t17x1 t3x1 t63x2 t64x2 t65x1 sx10 =>
     P.oV 90 (evBin T0 .add 3 true t65x1 (.i .i64 1)) fun t90 =>
     next t15x1 t16x1 t17x1 t3x1 t63x2 t64x2 t90 sx10))
    (P.oV 91 (evOff 2 t16) fun t91 =>
     P.oV 92 (evLoad T0 sx9.h 3 t91) fun t92 =>
     Q (.tup [t92, t15, (.b true)]) sx9)) t39 (.ptr sx6.n 0) t61 a3 t63 t64 (.i .i64 0) sx8))))
theorem w14_eq (P : Prims) (a0 a1 a2 a3 a4 : AV) (Q : AV → AS → Prop) : w14 P a0 a1 a2 a3 a4 Q = vcBody P T0 Go.Proofs.Tryd.f14 (codeOf Go.Proofs.Tryd.f14) an14 [a0, a1, a2, a3, a4] ⟨.nil, 0⟩ Q := by kernel_rfl
theorem r14 (a0 a1 a2 a3 a4 : AV) {r : AV} (hi : AV.idfree.idfrees [a0, a1, a2, a3, a4] = true) (hn : AV.norm.norms [a0, a1, a2, a3, a4] = [a0, a1, a2, a3, a4]) (h : w14 (prims T0) a0 a1 a2 a3 a4 (fun r1 s1 => oZ T0 s1 r1 (fun r2 => r2 = r))) : R T0 14 [a0, a1, a2, a3, a4] r :=
  R.mk (by kernel_rfl) (by kernel_rfl) (show T0.fn 14 = some Go.Proofs.Tryd.f14 by kernel_rfl) (by kernel_rfl) (by kernel_rfl) hi hn (by rw [w14_eq] at h; exact h)
/- orchestrator/orchestratorref56.Route -/
def an15 : AN := (.seq none .leaf (.seq none .leaf (.seq none (.seq none .leaf (.one (.loop [14, 5, 13, 3, 4, 2] (.seq none (.seq none .leaf (.two .leaf .leaf)) (.seq none (.one (.seq none (.seq none .leaf (.two .leaf .leaf)) (.seq none .leaf (.seq (some [14, 5, 15, 13]) (.seq none .leaf (.two .leaf .leaf)) (.seq none .leaf .leaf))))) .leaf))))) (.seq none .leaf .leaf))))
def w15 (P : Prims) (a0 a1 a2 a3 a4 : AV) (Q : AV → AS → Prop) : Prop :=
  P.oN 5 (.cells (AV.cells a0) 33 false) (fun id => (.ptr id 0)) ⟨Tr.nil, 0⟩ fun t5 sx1 =>
  P.oN 6 (.cells (AV.cells a1) 36 false) (fun id => (.ptr id 0)) sx1 fun t6 sx2 =>
  P.oV 16 (evLoad T0 sx2.h 36 t6) fun t16 =>
  P.oC 17 24 [t16] sx2 fun t17 sx3 =>
  P.oL [14, 5, 13, 3, 4, 2] (fun (next : C6) t14 t5x1 t13 t3 t4 t2 sx4 =>
  P.oV 19 (evOff 14 t5x1) fun t19 =>
  P.oV 20 (evLoad T0 sx4.h 31 t19) fun t20 =>
  P.oV 21 (evBuiltin T0 sx4.h .len [31] [t20]) fun t21 =>
  P.oV 22 (evBin T0 .lss 3 false t14 t21) fun t22 =>
  P.oG [24, 25, 26] t22 true (fun (k : C3) => P.oV 25 (evBuiltin T0 sx4.h .len [34] [t13]) fun t25 =>
   P.oV 26 (evBin T0 .gtr 3 true t25 (.i .i64 0)) fun t26 =>
   k t13 t25 t26 sx4) sx4 fun t24 t25 t26 sx5 =>
  P.oV 27 (evPick t22 (some t26) (some (.b false))) fun t27 =>
  P.oI t27 (P.oV 30 (evOff 14 t5x1) fun t30 =>
   P.oV 31 (evLoad T0 sx5.h 31 t30) fun t31 =>
   P.oV 33 (evIndexAddr T0 31 t31 t14) fun t33 =>
   P.oV 34 (evOff 1 t33) fun t34 =>
   P.oV 35 (evLoad T0 sx5.h 3 t34) fun t35 =>
   P.oV 37 (evBin T0 .neq 3 false t35 t2) fun t37 =>
   P.oI t37 (P.oV 29 (evBin T0 .add 3 true t14 (.i .i64 1)) fun t29 =>
    next t29 t5x1 t13 t3 t4 t2 sx5)
   (P.oV 39 (evBuiltin T0 sx5.h .max [3, 3] [t4, (.i .i64 0)]) fun t39 =>
    P.oV 41 (evBuiltin T0 sx5.h .len [34] [t13]) fun t41 =>
    P.oV 42 (evBin T0 .rem 3 false t39 t41) fun t42 =>
    P.oJ [14, 5, 15, 13] (fun (k : C4) =>
     P.oV 43 (evOff 15 t5x1) fun t43 =>
     P.oV 44 (evLoad T0 sx5.h 4 t43) fun t44 =>
     P.oI t44 (P.oC 47 25 [t13, t3] sx5 fun t47 sx6 =>
      k t14 t5x1 t47 t13 sx6)
     (k t14 t5x1 t42 t13 sx5))
    (fun t14x1 t5x2 t15 t13x1 sx6 =>
    P.oV 50 (evIndexAddr T0 34 t13x1 t15) fun t50 =>
    P.oV 51 (evOff 2 t50) fun t51 =>
    P.oV 52 (evLoad T0 sx6.h 3 t51) fun t52 =>
    P.oV 53 (evOff 14 t5x2) fun t53 =>
    P.oV 54 (evLoad T0 sx6.h 31 t53) fun t54 =>
    P.oV 56 (evIndexAddr T0 31 t54 t14x1) fun t56 =>
    P.oV 57 (evOff 2 t56) fun t57 =>
    P.oV 58 (evLoad T0 sx6.h 3 t57) fun t58 =>
    Q (.tup [t52, t58, (.b true)]) sx6)))
  (Q (.tup [(.i .i64 0), (.i .i64 0), (.b false)]) sx5)) (.i .i64 0) t5 t17 a3 a4 a2 sx3
theorem w15_eq (P : Prims) (a0 a1 a2 a3 a4 : AV) (Q : AV → AS → Prop) : w15 P a0 a1 a2 a3 a4 Q = vcBody P T0 Go.Proofs.Tryd.f15 (codeOf Go.Proofs.Tryd.f15) an15 [a0, a1, a2, a3, a4] ⟨.nil, 0⟩ Q := by kernel_rfl
theorem r15 (a0 a1 a2 a3 a4 : AV) {r : AV} (hi : AV.idfree.idfrees [a0, a1, a2, a3, a4] = true) (hn : AV.norm.norms [a0, a1, a2, a3, a4] = [a0, a1, a2, a3, a4]) (h : w15 (prims T0) a0 a1 a2 a3 a4 (fun r1 s1 => oZ T0 s1 r1 (fun r2 => r2 = r))) : R T0 15 [a0, a1, a2, a3, a4] r :=
  R.mk (by kernel_rfl) (by kernel_rfl) (show T0.fn 15 = some Go.Proofs.Tryd.f15 by kernel_rfl) (by kernel_rfl) (by kernel_rfl) hi hn (by rw [w15_eq] at h; exact h)
/- orchestrator/orchestratorlaw56.ready -/
def an16 : AN := (.seq none .leaf (.seq none .leaf (.seq none (.seq none .leaf (.one (.loop [2, 3, 0, 4] (.seq none (.seq none .leaf (.two .leaf .leaf)) (.seq none (.one .leaf) .leaf))))) (.seq none .leaf .leaf))))
def w16 (P : Prims) (a0 : AV) (Q : AV → AS → Prop) : Prop :=
  P.oN 2 (.cells [(.s []), (.s []), (.s []), (.i .i64 0), (.i .i64 0), (.i .i64 0), (.i .i64 0), (.b false), (.i .i64 0), (.nilz true), (.nilz true), (.nilz true), (.nilz true), (.nilz true), (.nilz true)] 36 false) (fun id => (.ptr id 0)) ⟨Tr.nil, 0⟩ fun t2 sx1 =>
  P.oN 3 (.cells [(.s []), (.s []), (.s []), (.i .i64 0), (.i .i64 0), (.i .i64 0), (.i .i64 0), (.b false), (.i .i64 0), (.nilz true), (.nilz true), (.nilz true), (.nilz true), (.nilz true), (.nilz true)] 36 false) (fun id => (.ptr id 0)) sx1 fun t3 sx2 =>
  P.oL [2, 3, 0, 4] (fun (next : C4) t2x1 t3x1 t0 t4 sx3 =>
  P.oV 7 (evBuiltin T0 sx3.h .len [26] [t0]) fun t7 =>
  P.oV 8 (evBin T0 .lss 3 false t4 t7) fun t8 =>
  P.oI t8 (P.oV 11 (evOff 14 t3x1) fun t11 =>
   P.oV 12 (evLoad T0 sx3.h 34 t11) fun t12 =>
   P.oV 15 (evIndexAddr T0 26 t0 t4) fun t15 =>
   P.oV 16 (evLoad T0 sx3.h 9 t15) fun t16 =>
   P.oV 18 (evBin T0 .add 3 true t4 (.i .i64 1)) fun t18 =>
   P.oV 19 (evBuild T0 54 [(0, t16), (2, t18), (3, (.b true))]) fun t19 =>
   P.oE (evLit T0 34 1 [(0, t19)]) fun b f =>
   P.oS ⟨(sx3.h.put sx3.n (some b)), (sx3.n + 1)⟩ fun sx4 =>
   P.oM 21 (evAppend T0 sx4 34 34 t12 (f sx3.n)) fun t21 sx5 =>
   P.oV 22 (evOff 14 t3x1) fun t22 =>
   P.oD (storeA T0 sx5.h 34 t22 t21) fun i bx1 =>
   P.oT ((rdsOK sx5.n (befG [[], [0]]) [0] [] i []) && (wrsOK [0] i [])) (P.oS ⟨(sx5.h.put i (some bx1)), sx5.n⟩ fun sx6 =>
   P.oV 10 (evBin T0 .add 3 true t4 (.i .i64 1)) fun t10 =>
   next t2x1 t3x1 t0 t10 sx6))
  (P.oV 23 (evLoad T0 sx3.h 36 t3x1) fun t23 =>
   P.oH (evStore T0 sx3.h 36 t2x1 t23) sx3 fun sx4 =>
   P.oV 2 (evLoad T0 sx4.h 36 t2x1) fun t2x2 =>
   Q t2x2 sx4)) t2 t3 a0 (.i .i64 0) sx2
theorem w16_eq (P : Prims) (a0 : AV) (Q : AV → AS → Prop) : w16 P a0 Q = vcBody P T0 Go.Proofs.Tryd.f16 (codeOf Go.Proofs.Tryd.f16) an16 [a0] ⟨.nil, 0⟩ Q := by kernel_rfl
theorem r16 (a0 : AV) {r : AV} (hi : AV.idfree.idfrees [a0] = true) (hn : AV.norm.norms [a0] = [a0]) (h : w16 (prims T0) a0 (fun r1 s1 => oZ T0 s1 r1 (fun r2 => r2 = r))) : R T0 16 [a0] r :=
  R.mk (by kernel_rfl) (by kernel_rfl) (show T0.fn 16 = some Go.Proofs.Tryd.f16 by kernel_rfl) (by kernel_rfl) (by kernel_rfl) hi hn (by rw [w16_eq] at h; exact h)
/- orchestrator/orchestratorlaw56.sticky -/
def an17 : AN := (.seq none .leaf (.seq none .leaf .leaf))
def w17 (P : Prims) (Q : AV → AS → Prop) : Prop :=
  P.oN 0 (.cells [(.s []), (.s []), (.s []), (.i .i64 0), (.i .i64 0), (.i .i64 0), (.i .i64 0), (.b false), (.i .i64 0), (.nilz true), (.nilz true), (.nilz true), (.nilz true), (.nilz true), (.nilz true), (.b false), (.i .i64 0)] 33 false) (fun id => (.ptr id 0)) ⟨Tr.nil, 0⟩ fun t0 sx1 =>
  P.oV 1 (evBuild T0 56 [(1, (.i .i64 1)), (2, (.i .i64 2))]) fun t1 =>
  P.oE (evLit T0 31 1 [(0, t1)]) fun b f =>
  P.oN 2 b f sx1 fun t2 sx2 =>
  P.oV 3 (evBuild T0 33 [(3, (.b true)), (2, t2)]) fun t3 =>
  P.oH (evStore T0 sx2.h 33 t0 t3) sx2 fun sx3 =>
  P.oV 0 (evLoad T0 sx3.h 33 t0) fun t0x1 =>
  Q t0x1 sx3
theorem w17_eq (P : Prims) (Q : AV → AS → Prop) : w17 P  Q = vcBody P T0 Go.Proofs.Tryd.f17 (codeOf Go.Proofs.Tryd.f17) an17 [] ⟨.nil, 0⟩ Q := by kernel_rfl
theorem r17 {r : AV} (hi : AV.idfree.idfrees [] = true) (hn : AV.norm.norms [] = []) (h : w17 (prims T0)  (fun r1 s1 => oZ T0 s1 r1 (fun r2 => r2 = r))) : R T0 17 [] r :=
  R.mk (by kernel_rfl) (by kernel_rfl) (show T0.fn 17 = some Go.Proofs.Tryd.f17 by kernel_rfl) (by kernel_rfl) (by kernel_rfl) hi hn (by rw [w17_eq] at h; exact h)
/- orchestrator/orchestratorref56.used -/
def an18 : AN := (.seq none .leaf (.seq none (.seq none .leaf (.one (.loop [1, 0, 5] (.seq none (.seq none .leaf (.two .leaf .leaf)) (.seq none (.one (.seq none .leaf (.two (.seq none .leaf .leaf) .leaf))) .leaf))))) (.seq none .leaf .leaf)))
def w18 (P : Prims) (a0 a1 : AV) (Q : AV → AS → Prop) : Prop :=
  P.oL [1, 0, 5] (fun (next : C3) t1 t0 t5 sx1 =>
  P.oV 8 (evBuiltin T0 sx1.h .len [22] [t0]) fun t8 =>
  P.oV 9 (evBin T0 .lss 3 false t5 t8) fun t9 =>
  P.oI t9 (P.oV 14 (evIndexAddr T0 22 t0 t5) fun t14 =>
   P.oV 15 (evOff 16 t14) fun t15 =>
   P.oV 16 (evLoad T0 sx1.h 3 t15) fun t16 =>
   P.oV 18 (evBin T0 .eql 3 false t16 t1) fun t18 =>
   P.oI t18 (Q (.b true) sx1)
   (P.oV 11 (evBin T0 .add 3 true t5 (.i .i64 1)) fun t11 =>
    next t1 t0 t11 sx1))
  (Q (.b false) sx1)) a1 a0 (.i .i64 0) ⟨Tr.nil, 0⟩
theorem w18_eq (P : Prims) (a0 a1 : AV) (Q : AV → AS → Prop) : w18 P a0 a1 Q = vcBody P T0 Go.Proofs.Tryd.f18 (codeOf Go.Proofs.Tryd.f18) an18 [a0, a1] ⟨.nil, 0⟩ Q := by kernel_rfl
theorem r18 (a0 a1 : AV) {r : AV} (hi : AV.idfree.idfrees [a0, a1] = true) (hn : AV.norm.norms [a0, a1] = [a0, a1]) (h : w18 (prims T0) a0 a1 (fun r1 s1 => oZ T0 s1 r1 (fun r2 => r2 = r))) : R T0 18 [a0, a1] r :=
  R.mk (by kernel_rfl) (by kernel_rfl) (show T0.fn 18 = some Go.Proofs.Tryd.f18 by kernel_rfl) (by kernel_rfl) (by kernel_rfl) hi hn (by rw [w18_eq] at h; exact h)
/- orchestrator/service.copied -/
def an19 : AN := (.seq none .leaf (.seq none .leaf (.seq none .leaf (.seq none (.seq none .leaf (.one (.loop [2, 1, 3, 44, 45, 46] (.seq none .leaf (.seq none (.two .leaf .leaf) (.seq none (.one (.seq none .leaf .leaf)) .leaf)))))) (.seq none .leaf (.seq none (.seq none .leaf (.one (.loop [2, 1, 71, 72, 73] (.seq none .leaf (.seq none (.two .leaf .leaf) (.seq none (.one (.seq none .leaf .leaf)) .leaf)))))) (.seq none .leaf .leaf)))))))
def w19 (P : Prims) (a0 : AV) (Q : AV → AS → Prop) : Prop :=
  P.oN 1 (.cells (AV.cells a0) 33 false) (fun id => (.ptr id 0)) ⟨Tr.nil, 0⟩ fun t1 sx1 =>
  P.oN 2 (.cells [(.s []), (.s []), (.s []), (.i .i64 0), (.i .i64 0), (.i .i64 0), (.i .i64 0), (.b false), (.i .i64 0), (.nilz true), (.nilz true), (.nilz true), (.nilz true), (.nilz true), (.nilz true), (.b false), (.i .i64 0)] 33 false) (fun id => (.ptr id 0)) sx1 fun t2 sx2 =>
  P.oV 8 (evOff 0 t1) fun t8 =>
  P.oV 14 (evNilCheck t8) fun t14 =>
  P.oV 15 (evOff 9 t14) fun t15 =>
  P.oV 16 (evLoad T0 sx2.h 24 t15) fun t16 =>
  P.oC 17 26 [t16] sx2 fun t17 sx3 =>
  P.oV 19 (evNilCheck t8) fun t19 =>
  P.oV 20 (evOff 10 t19) fun t20 =>
  P.oV 21 (evLoad T0 sx2.h 25 t20) fun t21 =>
  P.oC 22 27 [t21] sx2 fun t22 sx4 =>
  P.oV 24 (evNilCheck t8) fun t24 =>
  P.oV 25 (evOff 11 t24) fun t25 =>
  P.oV 26 (evLoad T0 sx2.h 26 t25) fun t26 =>
  P.oC 27 28 [t26] sx2 fun t27 sx5 =>
  P.oV 29 (evNilCheck t8) fun t29 =>
  P.oV 30 (evOff 12 t29) fun t30 =>
  P.oV 31 (evLoad T0 sx2.h 27 t30) fun t31 =>
  P.oA 32 29 [t31] sx2.n fun t32 b =>
  P.oV 33 (evNilCheck t8) fun t33 =>
  P.oV 34 (evOff 9 t33) fun t34 =>
  P.oT (readOK sx2.n [4, 5, 6, 7, 8, 9, 10, 11, 12, 13, 14, 15, 16, 17, 18, 19, 20, 21, 22, 23, 0, 24, 25] [(23, (sx2.n, b))] [(23, (sx2.n, b))]) (P.oD (storeA T0 (sx2.h.put sx2.n b) 24 t34 t17) fun i bx1 =>
  P.oT ((rdsOK sx2.n (befG [[], [], [], [], [], [4], [4, 5], [4, 5, 6], [4, 5, 6, 7], [], [9], [9, 10], [9, 10, 11], [4, 5, 6, 7, 8, 9, 10, 11, 12], [], [14], [14, 15], [14, 15, 16], [4, 5, 6, 7, 8, 9, 10, 11, 12, 13, 14, 15, 16, 17], [], [19], [19, 20], [19, 20, 21], [4, 5, 6, 7, 8, 9, 10, 11, 12, 13, 14, 15, 16, 17, 18, 19, 20, 21, 22], [4, 5, 6, 7, 8, 9, 10, 11, 12, 13, 14, 15, 16, 17, 18, 19, 20, 21, 22, 23, 0], [4, 5, 6, 7, 8, 9, 10, 11, 12, 13, 14, 15, 16, 17, 18, 19, 20, 21, 22, 23, 0, 24], [4, 5, 6, 7, 8, 9, 10, 11, 12, 13, 14, 15, 16, 17, 18, 19, 20, 21, 22, 23, 0, 24, 25], [4, 5, 6, 7, 8, 9, 10, 11, 12, 13, 14, 15, 16, 17, 18, 19, 20, 21, 22, 23, 0, 24, 25, 26, 1], [4, 5, 6, 7, 8, 9, 10, 11, 12, 13, 14, 15, 16, 17, 18, 19, 20, 21, 22, 23, 0, 24, 25, 26, 1, 27], [4, 5, 6, 7, 8, 9, 10, 11, 12, 13, 14, 15, 16, 17, 18, 19, 20, 21, 22, 23, 0, 24, 25, 26, 1, 27, 28], [4, 5, 6, 7, 8, 9, 10, 11, 12, 13, 14, 15, 16, 17, 18, 19, 20, 21, 22, 23, 0, 24, 25, 26, 1, 27, 28, 29, 2], [4, 5, 6, 7, 8, 9, 10, 11, 12, 13, 14, 15, 16, 17, 18, 19, 20, 21, 22, 23, 0, 24, 25, 26, 1, 27, 28, 29, 2, 30], [4, 5, 6, 7, 8, 9, 10, 11, 12, 13, 14, 15, 16, 17, 18, 19, 20, 21, 22, 23, 0, 24, 25, 26, 1, 27, 28, 29, 2, 30, 31], [4, 5, 6, 7, 8, 9, 10, 11, 12, 13, 14, 15, 16, 17, 18, 19, 20, 21, 22, 23, 0, 24, 25, 26, 1, 27, 28, 29, 2, 30, 31, 32, 3], [4, 5, 6, 7, 8, 9, 10, 11, 12, 13, 14, 15, 16, 17, 18, 19, 20, 21, 22, 23, 0, 24, 25, 26, 1, 27, 28, 29, 2, 30, 31, 32, 3, 33], [4, 5, 6, 7, 8, 9, 10, 11, 12, 13, 14, 15, 16, 17, 18, 19, 20, 21, 22, 23, 0, 24, 25, 26, 1, 27, 28, 29, 2, 30, 31, 32, 3, 33, 34]]) [4, 5, 6, 7, 8, 9, 10, 11, 12, 13, 14, 15, 16, 17, 18, 19, 20, 21, 22, 23, 0, 24, 25] [(23, (sx2.n, b))] i [22, 18, 17, 13, 12, 8, 7]) && (wrsOK [4, 5, 6, 7, 8, 9, 10, 11, 12, 13, 14, 15, 16, 17, 18, 19, 20, 21, 22, 23, 0, 24, 25] i [(23, (sx2.n, b))])) (P.oV 35 (evNilCheck t8) fun t35 =>
  P.oV 36 (evOff 10 t35) fun t36 =>
  P.oT (readOK sx2.n [4, 5, 6, 7, 8, 9, 10, 11, 12, 13, 14, 15, 16, 17, 18, 19, 20, 21, 22, 23, 0, 24, 25, 26, 1, 27, 28] [(26, (i, (some bx1))), (23, (sx2.n, b))] [(26, (i, (some bx1))), (23, (sx2.n, b))]) (P.oD (storeA T0 ((sx2.h.put sx2.n b).put i (some bx1)) 25 t36 t22) fun ix1 bx2 =>
  P.oT ((rdsOK sx2.n (befG [[], [], [], [], [], [4], [4, 5], [4, 5, 6], [4, 5, 6, 7], [], [9], [9, 10], [9, 10, 11], [4, 5, 6, 7, 8, 9, 10, 11, 12], [], [14], [14, 15], [14, 15, 16], [4, 5, 6, 7, 8, 9, 10, 11, 12, 13, 14, 15, 16, 17], [], [19], [19, 20], [19, 20, 21], [4, 5, 6, 7, 8, 9, 10, 11, 12, 13, 14, 15, 16, 17, 18, 19, 20, 21, 22], [4, 5, 6, 7, 8, 9, 10, 11, 12, 13, 14, 15, 16, 17, 18, 19, 20, 21, 22, 23, 0], [4, 5, 6, 7, 8, 9, 10, 11, 12, 13, 14, 15, 16, 17, 18, 19, 20, 21, 22, 23, 0, 24], [4, 5, 6, 7, 8, 9, 10, 11, 12, 13, 14, 15, 16, 17, 18, 19, 20, 21, 22, 23, 0, 24, 25], [4, 5, 6, 7, 8, 9, 10, 11, 12, 13, 14, 15, 16, 17, 18, 19, 20, 21, 22, 23, 0, 24, 25, 26, 1], [4, 5, 6, 7, 8, 9, 10, 11, 12, 13, 14, 15, 16, 17, 18, 19, 20, 21, 22, 23, 0, 24, 25, 26, 1, 27], [4, 5, 6, 7, 8, 9, 10, 11, 12, 13, 14, 15, 16, 17, 18, 19, 20, 21, 22, 23, 0, 24, 25, 26, 1, 27, 28], [4, 5, 6, 7, 8, 9, 10, 11, 12, 13, 14, 15, 16, 17, 18, 19, 20, 21, 22, 23, 0, 24, 25, 26, 1, 27, 28, 29, 2], [4, 5, 6, 7, 8, 9, 10, 11, 12, 13, 14, 15, 16, 17, 18, 19, 20, 21, 22, 23, 0, 24, 25, 26, 1, 27, 28, 29, 2, 30], [4, 5, 6, 7, 8, 9, 10, 11, 12, 13, 14, 15, 16, 17, 18, 19, 20, 21, 22, 23, 0, 24, 25, 26, 1, 27, 28, 29, 2, 30, 31], [4, 5, 6, 7, 8, 9, 10, 11, 12, 13, 14, 15, 16, 17, 18, 19, 20, 21, 22, 23, 0, 24, 25, 26, 1, 27, 28, 29, 2, 30, 31, 32, 3], [4, 5, 6, 7, 8, 9, 10, 11, 12, 13, 14, 15, 16, 17, 18, 19, 20, 21, 22, 23, 0, 24, 25, 26, 1, 27, 28, 29, 2, 30, 31, 32, 3, 33], [4, 5, 6, 7, 8, 9, 10, 11, 12, 13, 14, 15, 16, 17, 18, 19, 20, 21, 22, 23, 0, 24, 25, 26, 1, 27, 28, 29, 2, 30, 31, 32, 3, 33, 34]]) [4, 5, 6, 7, 8, 9, 10, 11, 12, 13, 14, 15, 16, 17, 18, 19, 20, 21, 22, 23, 0, 24, 25, 26, 1, 27, 28] [(26, (i, (some bx1))), (23, (sx2.n, b))] ix1 [22, 18, 17, 13, 12, 8, 7]) && (wrsOK [4, 5, 6, 7, 8, 9, 10, 11, 12, 13, 14, 15, 16, 17, 18, 19, 20, 21, 22, 23, 0, 24, 25, 26, 1, 27, 28] ix1 [(26, (i, (some bx1))), (23, (sx2.n, b))])) (P.oV 37 (evNilCheck t8) fun t37 =>
  P.oV 38 (evOff 11 t37) fun t38 =>
  P.oT (readOK sx2.n [4, 5, 6, 7, 8, 9, 10, 11, 12, 13, 14, 15, 16, 17, 18, 19, 20, 21, 22, 23, 0, 24, 25, 26, 1, 27, 28, 29, 2, 30, 31] [(29, (ix1, (some bx2))), (26, (i, (some bx1))), (23, (sx2.n, b))] [(29, (ix1, (some bx2))), (26, (i, (some bx1))), (23, (sx2.n, b))]) (P.oD (storeA T0 (((sx2.h.put sx2.n b).put i (some bx1)).put ix1 (some bx2)) 26 t38 t27) fun ix2 bx3 =>
  P.oT ((rdsOK sx2.n (befG [[], [], [], [], [], [4], [4, 5], [4, 5, 6], [4, 5, 6, 7], [], [9], [9, 10], [9, 10, 11], [4, 5, 6, 7, 8, 9, 10, 11, 12], [], [14], [14, 15], [14, 15, 16], [4, 5, 6, 7, 8, 9, 10, 11, 12, 13, 14, 15, 16, 17], [], [19], [19, 20], [19, 20, 21], [4, 5, 6, 7, 8, 9, 10, 11, 12, 13, 14, 15, 16, 17, 18, 19, 20, 21, 22], [4, 5, 6, 7, 8, 9, 10, 11, 12, 13, 14, 15, 16, 17, 18, 19, 20, 21, 22, 23, 0], [4, 5, 6, 7, 8, 9, 10, 11, 12, 13, 14, 15, 16, 17, 18, 19, 20, 21, 22, 23, 0, 24], [4, 5, 6, 7, 8, 9, 10, 11, 12, 13, 14, 15, 16, 17, 18, 19, 20, 21, 22, 23, 0, 24, 25], [4, 5, 6, 7, 8, 9, 10, 11, 12, 13, 14, 15, 16, 17, 18, 19, 20, 21, 22, 23, 0, 24, 25, 26, 1], [4, 5, 6, 7, 8, 9, 10, 11, 12, 13, 14, 15, 16, 17, 18, 19, 20, 21, 22, 23, 0, 24, 25, 26, 1, 27], [4, 5, 6, 7, 8, 9, 10, 11, 12, 13, 14, 15, 16, 17, 18, 19, 20, 21, 22, 23, 0, 24, 25, 26, 1, 27, 28], [4, 5, 6, 7, 8, 9, 10, 11, 12, 13, 14, 15, 16, 17, 18, 19, 20, 21, 22, 23, 0, 24, 25, 26, 1, 27, 28, 29, 2], [4, 5, 6, 7, 8, 9, 10, 11, 12, 13, 14, 15, 16, 17, 18, 19, 20, 21, 22, 23, 0, 24, 25, 26, 1, 27, 28, 29, 2, 30], [4, 5, 6, 7, 8, 9, 10, 11, 12, 13, 14, 15, 16, 17, 18, 19, 20, 21, 22, 23, 0, 24, 25, 26, 1, 27, 28, 29, 2, 30, 31], [4, 5, 6, 7, 8, 9, 10, 11, 12, 13, 14, 15, 16, 17, 18, 19, 20, 21, 22, 23, 0, 24, 25, 26, 1, 27, 28, 29, 2, 30, 31, 32, 3], [4, 5, 6, 7, 8, 9, 10, 11, 12, 13, 14, 15, 16, 17, 18, 19, 20, 21, 22, 23, 0, 24, 25, 26, 1, 27, 28, 29, 2, 30, 31, 32, 3, 33], [4, 5, 6, 7, 8, 9, 10, 11, 12, 13, 14, 15, 16, 17, 18, 19, 20, 21, 22, 23, 0, 24, 25, 26, 1, 27, 28, 29, 2, 30, 31, 32, 3, 33, 34]]) [4, 5, 6, 7, 8, 9, 10, 11, 12, 13, 14, 15, 16, 17, 18, 19, 20, 21, 22, 23, 0, 24, 25, 26, 1, 27, 28, 29, 2, 30, 31] [(29, (ix1, (some bx2))), (26, (i, (some bx1))), (23, (sx2.n, b))] ix2 [22, 18, 17, 13, 12, 8, 7]) && (wrsOK [4, 5, 6, 7, 8, 9, 10, 11, 12, 13, 14, 15, 16, 17, 18, 19, 20, 21, 22, 23, 0, 24, 25, 26, 1, 27, 28, 29, 2, 30, 31] ix2 [(29, (ix1, (some bx2))), (26, (i, (some bx1))), (23, (sx2.n, b))])) (P.oV 39 (evNilCheck t8) fun t39 =>
  P.oV 40 (evOff 12 t39) fun t40 =>
  P.oT (readOK sx2.n [4, 5, 6, 7, 8, 9, 10, 11, 12, 13, 14, 15, 16, 17, 18, 19, 20, 21, 22, 23, 0, 24, 25, 26, 1, 27, 28, 29, 2, 30, 31, 32, 3, 33, 34] [(32, (ix2, (some bx3))), (29, (ix1, (some bx2))), (26, (i, (some bx1))), (23, (sx2.n, b))] [(32, (ix2, (some bx3))), (29, (ix1, (some bx2))), (26, (i, (some bx1))), (23, (sx2.n, b))]) (P.oD (storeA T0 ((((sx2.h.put sx2.n b).put i (some bx1)).put ix1 (some bx2)).put ix2 (some bx3)) 27 t40 t32) fun ix3 bx4 =>
  P.oT ((rdsOK sx2.n (befG [[], [], [], [], [], [4], [4, 5], [4, 5, 6], [4, 5, 6, 7], [], [9], [9, 10], [9, 10, 11], [4, 5, 6, 7, 8, 9, 10, 11, 12], [], [14], [14, 15], [14, 15, 16], [4, 5, 6, 7, 8, 9, 10, 11, 12, 13, 14, 15, 16, 17], [], [19], [19, 20], [19, 20, 21], [4, 5, 6, 7, 8, 9, 10, 11, 12, 13, 14, 15, 16, 17, 18, 19, 20, 21, 22], [4, 5, 6, 7, 8, 9, 10, 11, 12, 13, 14, 15, 16, 17, 18, 19, 20, 21, 22, 23, 0], [4, 5, 6, 7, 8, 9, 10, 11, 12, 13, 14, 15, 16, 17, 18, 19, 20, 21, 22, 23, 0, 24], [4, 5, 6, 7, 8, 9, 10, 11, 12, 13, 14, 15, 16, 17, 18, 19, 20, 21, 22, 23, 0, 24, 25], [4, 5, 6, 7, 8, 9, 10, 11, 12, 13, 14, 15, 16, 17, 18, 19, 20, 21, 22, 23, 0, 24, 25, 26, 1], [4, 5, 6, 7, 8, 9, 10, 11, 12, 13, 14, 15, 16, 17, 18, 19, 20, 21, 22, 23, 0, 24, 25, 26, 1, 27], [4, 5, 6, 7, 8, 9, 10, 11, 12, 13, 14, 15, 16, 17, 18, 19, 20, 21, 22, 23, 0, 24, 25, 26, 1, 27, 28], [4, 5, 6, 7, 8, 9, 10, 11, 12, 13, 14, 15, 16, 17, 18, 19, 20, 21, 22, 23, 0, 24, 25, 26, 1, 27, 28, 29, 2], [4, 5, 6, 7, 8, 9, 10, 11, 12, 13, 14, 15, 16, 17, 18, 19, 20, 21, 22, 23, 0, 24, 25, 26, 1, 27, 28, 29, 2, 30], [4, 5, 6, 7, 8, 9, 10, 11, 12, 13, 14, 15, 16, 17, 18, 19, 20, 21, 22, 23, 0, 24, 25, 26, 1, 27, 28, 29, 2, 30, 31], [4, 5, 6, 7, 8, 9, 10, 11, 12, 13, 14, 15, 16, 17, 18, 19, 20, 21, 22, 23, 0, 24, 25, 26, 1, 27, 28, 29, 2, 30, 31, 32, 3], [4, 5, 6, 7, 8, 9, 10, 11, 12, 13, 14, 15, 16, 17, 18, 19, 20, 21, 22, 23, 0, 24, 25, 26, 1, 27, 28, 29, 2, 30, 31, 32, 3, 33], [4, 5, 6, 7, 8, 9, 10, 11, 12, 13, 14, 15, 16, 17, 18, 19, 20, 21, 22, 23, 0, 24, 25, 26, 1, 27, 28, 29, 2, 30, 31, 32, 3, 33, 34]]) [4, 5, 6, 7, 8, 9, 10, 11, 12, 13, 14, 15, 16, 17, 18, 19, 20, 21, 22, 23, 0, 24, 25, 26, 1, 27, 28, 29, 2, 30, 31, 32, 3, 33, 34] [(32, (ix2, (some bx3))), (29, (ix1, (some bx2))), (26, (i, (some bx1))), (23, (sx2.n, b))] ix3 [22, 18, 17, 13, 12, 8, 7]) && (wrsOK [4, 5, 6, 7, 8, 9, 10, 11, 12, 13, 14, 15, 16, 17, 18, 19, 20, 21, 22, 23, 0, 24, 25, 26, 1, 27, 28, 29, 2, 30, 31, 32, 3, 33, 34] ix3 [(32, (ix2, (some bx3))), (29, (ix1, (some bx2))), (26, (i, (some bx1))), (23, (sx2.n, b))])) (P.oS ⟨(((((sx2.h.put sx2.n b).put i (some bx1)).put ix1 (some bx2)).put ix2 (some bx3)).put ix3 (some bx4)), (sx2.n + 1)⟩ fun sx6 =>
  P.oV 42 (evNilCheck t8) fun t42 =>
  P.oV 43 (evOff 12 t42) fun t43 =>
  P.oV 44 (evLoad T0 sx6.h 27 t43) fun t44 =>
  P.oV 45 (evBuiltin T0 sx6.h .len [27] [t44]) fun t45 =>
  P.oL [2, 1, 3, 44, 45, 46] (fun (next : C6) t2x1 t1x1 t3 t44x1 t45x1 t46 sx7 =>
  P.oV 47 (evBin T0 .lss 3 false t46 t45x1) fun t47 =>
  P.oI t47 (P.oV 49 (evIndexAddr T0 27 t44x1 t46) fun t49 =>
   P.oV 50 (evLoad T0 sx7.h 76 t49) fun t50 =>
   P.oN 5 (.cells [(.s []), (.nilz true)] 76 false) (fun id => (.ptr id 0)) sx7 fun t5 sx8 =>
   P.oH (evStore T0 sx8.h 76 t5 t50) sx8 fun sx9 =>
   P.oV 52 (evNilCheck t3) fun t52 =>
   P.oV 53 (evOff 12 t52) fun t53 =>
   P.oV 54 (evLoad T0 sx9.h 27 t53) fun t54 =>
   P.oV 56 (evOff 1 t5) fun t56 =>
   P.oV 57 (evLoad T0 sx9.h 26 t56) fun t57 =>
   P.oC 58 28 [t57] sx9 fun t58 sx10 =>
   P.oV 59 (evIndexAddr T0 27 t54 t46) fun t59 =>
   P.oV 60 (evOff 1 t59) fun t60 =>
   P.oD (storeA T0 sx9.h 26 t60 t58) fun ix4 bx5 =>
   P.oT ((rdsOK sx9.n (befG [[], [0], [0, 1], [0, 1, 2], [], [], [5], [5, 6], [5, 6, 7, 4, 0, 1, 2, 3], [5, 6, 7, 4, 0, 1, 2, 3, 8], [5, 6, 7, 4, 0, 1, 2, 3, 8, 9]]) [5, 6, 7, 4, 0, 1, 2, 3, 8, 9] [] ix4 [7, 6, 3]) && (wrsOK [5, 6, 7, 4, 0, 1, 2, 3, 8, 9] ix4 [])) (P.oS ⟨(sx9.h.put ix4 (some bx5)), sx9.n⟩ fun sx11 =>
   P.oV 61 (evBin T0 .add 3 true t46 (.i .i64 1)) fun t61 =>
   next t2x1 t1x1 t3 t44x1 t45x1 t61 sx11))
  (P.oV 62 (evOff 13 t1x1) fun t62 =>
   P.oV 63 (evLoad T0 sx7.h 30 t62) fun t63 =>
   P.oA 64 30 [t63] sx7.n fun t64 bx5 =>
   P.oV 65 (evOff 14 t1x1) fun t65 =>
   P.oT (readOK sx7.n [3] [(2, (sx7.n, bx5))] [(2, (sx7.n, bx5))]) (P.oV 66 (evLoad T0 sx7.h 31 t65) fun t66 =>
   P.oT (readOK sx7.n [0, 1, 2, 3, 4] [(2, (sx7.n, bx5))] [(2, (sx7.n, bx5))]) (P.oC 67 31 [t66] ⟨(sx7.h.put sx7.n bx5), (sx7.n + 1)⟩ fun t67 sx8 =>
   P.oV 68 (evOff 13 t1x1) fun t68 =>
   P.oT (readOK sx7.n [0, 1, 2, 3, 4, 5, 6] [(2, (sx7.n, bx5))] [(2, (sx7.n, bx5))]) (P.oD (storeA T0 (sx7.h.put sx7.n bx5) 30 t68 t64) fun ix4 bx6 =>
   P.oT ((rdsOK sx7.n (befG [[], [0], [0, 1], [], [3], [0, 1, 2, 3, 4], [0, 1, 2, 3, 4, 5], [0, 1, 2, 3, 4, 5, 6], [0, 1, 2, 3, 4, 5, 6, 7], [0, 1, 2, 3, 4, 5, 6, 7, 8]]) [0, 1, 2, 3, 4, 5, 6] [(2, (sx7.n, bx5))] ix4 [5, 4, 1]) && (wrsOK [0, 1, 2, 3, 4, 5, 6] ix4 [(2, (sx7.n, bx5))])) (P.oV 69 (evOff 14 t1x1) fun t69 =>
   P.oT (readOK sx7.n [0, 1, 2, 3, 4, 5, 6, 7, 8] [(7, (ix4, (some bx6))), (2, (sx7.n, bx5))] [(7, (ix4, (some bx6))), (2, (sx7.n, bx5))]) (P.oD (storeA T0 ((sx7.h.put sx7.n bx5).put ix4 (some bx6)) 31 t69 t67) fun ix5 bx7 =>
   P.oT ((rdsOK sx7.n (befG [[], [0], [0, 1], [], [3], [0, 1, 2, 3, 4], [0, 1, 2, 3, 4, 5], [0, 1, 2, 3, 4, 5, 6], [0, 1, 2, 3, 4, 5, 6, 7], [0, 1, 2, 3, 4, 5, 6, 7, 8]]) [0, 1, 2, 3, 4, 5, 6, 7, 8] [(7, (ix4, (some bx6))), (2, (sx7.n, bx5))] ix5 [5, 4, 1]) && (wrsOK [0, 1, 2, 3, 4, 5, 6, 7, 8] ix5 [(7, (ix4, (some bx6))), (2, (sx7.n, bx5))])) (P.oS ⟨(((sx7.h.put sx7.n bx5).put ix4 (some bx6)).put ix5 (some bx7)), (sx7.n + 1)⟩ fun sx9 =>
   P.oV 70 (evOff 13 t1x1) fun t70 =>
   P.oV 71 (evLoad T0 sx9.h 30 t70) fun t71 =>
   P.oV 72 (evBuiltin T0 sx9.h .len [30] [t71]) fun t72 =>
   P.oL [2, 1, 71, 72, 73] (fun (nextx1 : C5) t2x2 t1x2 t71x1 t72x1 t73 sx10 =>
   P.oV 74 (evBin T0 .lss 3 false t73 t72x1) fun t74 =>
   P.oI t74 (P.oV 76 (evIndexAddr T0 30 t71x1 t73) fun t76 =>
    P.oV 77 (evLoad T0 sx10.h 79 t76) fun t77 =>
    P.oN 7 (.cells [(.s []), (.i .i64 0), (.nilz true)] 79 false) (fun id => (.ptr id 0)) sx10 fun t7 sx11 =>
    P.oH (evStore T0 sx11.h 79 t7 t77) sx11 fun sx12 =>
    P.oV 78 (evOff 13 t1x2) fun t78 =>
    P.oV 79 (evLoad T0 sx12.h 30 t78) fun t79 =>
    P.oV 81 (evOff 2 t7) fun t81 =>
    P.oV 82 (evLoad T0 sx12.h 26 t81) fun t82 =>
    P.oC 83 28 [t82] sx12 fun t83 sx13 =>
    P.oV 84 (evIndexAddr T0 30 t79 t73) fun t84 =>
    P.oV 85 (evOff 2 t84) fun t85 =>
    P.oD (storeA T0 sx12.h 26 t85 t83) fun ix6 bx8 =>
    P.oT ((rdsOK sx12.n (befG [[], [0], [], [], [3], [3, 4], [3, 4, 5, 2, 0, 1], [3, 4, 5, 2, 0, 1, 6], [3, 4, 5, 2, 0, 1, 6, 7]]) [3, 4, 5, 2, 0, 1, 6, 7] [] ix6 [5, 4, 1]) && (wrsOK [3, 4, 5, 2, 0, 1, 6, 7] ix6 [])) (P.oS ⟨(sx12.h.put ix6 (some bx8)), sx12.n⟩ fun sx14 =>
    P.oV 86 (evBin T0 .add 3 true t73 (.i .i64 1)) fun t86 =>
    nextx1 t2x2 t1x2 t71x1 t72x1 t86 sx14))
   (P.oV 87 (evLoad T0 sx10.h 33 t1x2) fun t87 =>
    P.oH (evStore T0 sx10.h 33 t2x2 t87) sx10 fun sx11 =>
    P.oV 2 (evLoad T0 sx11.h 33 t2x2) fun t2x3 =>
    Q t2x3 sx11)) t2x1 t1x1 t71 t72 (.i .i64 0) sx9)))))))) t2 t1 t8 t44 t45 (.i .i64 0) sx6))))))))
theorem w19_eq (P : Prims) (a0 : AV) (Q : AV → AS → Prop) : w19 P a0 Q = vcBody P T0 Go.Proofs.Tryd.f19 (codeOf Go.Proofs.Tryd.f19) an19 [a0] ⟨.nil, 0⟩ Q := by kernel_rfl
theorem r19 (a0 : AV) {r : AV} (hi : AV.idfree.idfrees [a0] = true) (hn : AV.norm.norms [a0] = [a0]) (h : w19 (prims T0) a0 (fun r1 s1 => oZ T0 s1 r1 (fun r2 => r2 = r))) : R T0 19 [a0] r :=
  R.mk (by kernel_rfl) (by kernel_rfl) (show T0.fn 19 = some Go.Proofs.Tryd.f19 by kernel_rfl) (by kernel_rfl) (by kernel_rfl) hi hn (by rw [w19_eq] at h; exact h)
/- slices.IndexFunc[[]orchestrator/api.ServicePort,orchestrator/api.ServicePort] -/
def an20 : AN := (.seq none .leaf (.seq none (.seq none .leaf (.one (.loop [0, 1, 7, 8] (.seq none .leaf (.seq none (.two .leaf .leaf) (.seq none (.one (.seq none .leaf (.seq none .leaf (.two (.seq none .leaf .leaf) .leaf)))) .leaf)))))) (.seq none .leaf .leaf)))
def w20 (P : Prims) (a0 a1 : AV) (Q : AV → AS → Prop) : Prop :=
  P.oV 7 (evBuiltin T0 Tr.nil .len [31] [a0]) fun t7 =>
  P.oL [0, 1, 7, 8] (fun (next : C4) t0 t1 t7x1 t8 sx1 =>
  P.oV 9 (evBin T0 .lss 3 false t8 t7x1) fun t9 =>
  P.oI t9 (P.oV 14 (evIndexAddr T0 31 t0 t8) fun t14 =>
   P.oV 15 (evLoad T0 sx1.h 56 t14) fun t15 =>
   P.oF 16 t1 [t15] sx1 fun t16 sx2 =>
   P.oI t16 (Q t8 sx2)
   (P.oV 18 (evBin T0 .add 3 true t8 (.i .i64 1)) fun t18 =>
    next t0 t1 t7x1 t18 sx2))
  (Q (.i .i64 (-1)) sx1)) a0 a1 t7 (.i .i64 0) ⟨Tr.nil, 0⟩
theorem w20_eq (P : Prims) (a0 a1 : AV) (Q : AV → AS → Prop) : w20 P a0 a1 Q = vcBody P T0 Go.Proofs.Tryd.f20 (codeOf Go.Proofs.Tryd.f20) an20 [a0, a1] ⟨.nil, 0⟩ Q := by kernel_rfl
theorem r20 (a0 a1 : AV) {r : AV} (hi : AV.idfree.idfrees [a0, a1] = true) (hn : AV.norm.norms [a0, a1] = [a0, a1]) (h : w20 (prims T0) a0 a1 (fun r1 s1 => oZ T0 s1 r1 (fun r2 => r2 = r))) : R T0 20 [a0, a1] r :=
  R.mk (by kernel_rfl) (by kernel_rfl) (show T0.fn 20 = some Go.Proofs.Tryd.f20 by kernel_rfl) (by kernel_rfl) (by kernel_rfl) hi hn (by rw [w20_eq] at h; exact h)
/- orchestrator/service.Route$1 -/
def an21 : AN := (.seq none .leaf (.seq none .leaf .leaf))
def w21 (P : Prims) (a0 a1 : AV) (Q : AV → AS → Prop) : Prop :=
  P.oN 2 (.cells (AV.cells a0) 56 false) (fun id => (.ptr id 0)) ⟨Tr.nil, 0⟩ fun t2 sx1 =>
  P.oV 4 (evOff 1 t2) fun t4 =>
  P.oV 5 (evLoad T0 sx1.h 3 t4) fun t5 =>
  P.oV 6 (evLoad T0 sx1.h 3 a1) fun t6 =>
  P.oV 7 (evBin T0 .eql 3 false t5 t6) fun t7 =>
  Q t7 sx1
theorem w21_eq (P : Prims) (a0 a1 : AV) (Q : AV → AS → Prop) : w21 P a0 a1 Q = vcBody P T0 Go.Proofs.Tryd.f21 (codeOf Go.Proofs.Tryd.f21) an21 [a0, a1] ⟨.nil, 0⟩ Q := by kernel_rfl
theorem r21 (a0 a1 : AV) {r : AV} (hi : AV.idfree.idfrees [a0, a1] = true) (hn : AV.norm.norms [a0, a1] = [a0, a1]) (h : w21 (prims T0) a0 a1 (fun r1 s1 => oZ T0 s1 r1 (fun r2 => r2 = r))) : R T0 21 [a0, a1] r :=
  R.mk (by kernel_rfl) (by kernel_rfl) (show T0.fn 21 = some Go.Proofs.Tryd.f21 by kernel_rfl) (by kernel_rfl) (by kernel_rfl) hi hn (by rw [w21_eq] at h; exact h)
/- orchestrator/service.candidates -/
def an22 : AN := (.seq none .leaf (.seq none .leaf (.seq none (.seq none .leaf (.one (.loop [4, 3, 8, 9, 10] (.seq none .leaf (.seq none (.two .leaf .leaf) (.seq (some [4, 3, 8, 9, 10]) (.one (.seq none .leaf (.one (.seq none .leaf (.two .leaf (.seq none .leaf (.two .leaf .leaf))))))) .leaf)))))) (.seq none (.seq none .leaf (.two (.seq none .leaf .leaf) .leaf)) (.seq none .leaf .leaf)))))
def w22 (P : Prims) (a0 : AV) (Q : AV → AS → Prop) : Prop :=
  P.oN 1 (.cells (AV.cells a0) 36 false) (fun id => (.ptr id 0)) ⟨Tr.nil, 0⟩ fun t1 sx1 =>
  P.oV 7 (evOff 14 t1) fun t7 =>
  P.oV 8 (evLoad T0 sx1.h 34 t7) fun t8 =>
  P.oV 9 (evBuiltin T0 sx1.h .len [34] [t8]) fun t9 =>
  P.oL [4, 3, 8, 9, 10] (fun (next : C5) t4 t3 t8x1 t9x1 t10 sx2 =>
  P.oV 11 (evBin T0 .lss 3 false t10 t9x1) fun t11 =>
  P.oI t11 (P.oJ [4, 3, 8, 9, 10] (fun (k : C5) =>
    P.oV 12 (evIndexAddr T0 34 t8x1 t10) fun t12 =>
    P.oV 13 (evLoad T0 sx2.h 54 t12) fun t13 =>
    P.oN 6 (.cells [(.s []), (.s []), (.i .i64 0), (.b false), (.b false)] 54 false) (fun id => (.ptr id 0)) sx2 fun t6 sx3 =>
    P.oH (evStore T0 sx3.h 54 t6 t13) sx3 fun sx4 =>
    P.oV 15 (evOff 4 t6) fun t15 =>
    P.oV 16 (evLoad T0 sx4.h 4 t15) fun t16 =>
    P.oI t16 (P.oV 18 (evLoad T0 sx4.h 54 t6) fun t18 =>
     P.oE (evLit T0 34 1 [(0, t18)]) fun b f =>
     P.oN 19 b f sx4 fun t19 sx5 =>
     P.oM 20 (evAppend T0 sx5 34 34 t4 t19) fun t20 sx6 =>
     k t20 t3 t8x1 t9x1 t10 sx6)
    (P.oV 22 (evOff 3 t6) fun t22 =>
     P.oV 23 (evLoad T0 sx4.h 4 t22) fun t23 =>
     P.oI t23 (P.oV 25 (evLoad T0 sx4.h 54 t6) fun t25 =>
      P.oE (evLit T0 34 1 [(0, t25)]) fun b f =>
      P.oN 26 b f sx4 fun t26 sx5 =>
      P.oM 27 (evAppend T0 sx5 34 34 t3 t26) fun t27 sx6 =>
      k t4 t27 t8x1 t9x1 t10 sx6)
     (k t4 t3 t8x1 t9x1 t10 sx4)))
   (fun t4x1 t3x1 t8x2 t9x2 t10x1 sx3 =>
   P.oV 28 (evBin T0 .add 3 true t10x1 (.i .i64 1)) fun t28 =>
   next t4x1 t3x1 t8x2 t9x2 t28 sx3))
  (P.oV 30 (evBuiltin T0 sx2.h .len [34] [t3]) fun t30 =>
   P.oV 31 (evBin T0 .gtr 3 true t30 (.i .i64 0)) fun t31 =>
   P.oI t31 (Q t3 sx2)
   (Q t4 sx2))) (.nilz true) (.nilz true) t8 t9 (.i .i64 0) sx1
theorem w22_eq (P : Prims) (a0 : AV) (Q : AV → AS → Prop) : w22 P a0 Q = vcBody P T0 Go.Proofs.Tryd.f22 (codeOf Go.Proofs.Tryd.f22) an22 [a0] ⟨.nil, 0⟩ Q := by kernel_rfl
theorem r22 (a0 : AV) {r : AV} (hi : AV.idfree.idfrees [a0] = true) (hn : AV.norm.norms [a0] = [a0]) (h : w22 (prims T0) a0 (fun r1 s1 => oZ T0 s1 r1 (fun r2 => r2 = r))) : R T0 22 [a0] r :=
  R.mk (by kernel_rfl) (by kernel_rfl) (show T0.fn 22 = some Go.Proofs.Tryd.f22 by kernel_rfl) (by kernel_rfl) (by kernel_rfl) hi hn (by rw [w22_eq] at h; exact h)
/- orchestrator/service.weight -/
def an23 : AN := (.seq none .leaf (.seq none .leaf (.seq none .leaf (.seq none (.seq none .leaf (.one (.loop [6, 5, 14, 15] (.seq none .leaf (.seq none (.two .leaf .leaf) (.seq none (.one (.seq none .leaf (.seq none .leaf .leaf))) .leaf)))))) (.seq none .leaf .leaf)))))
def w23 (P : Prims) (a0 a1 : AV) (Q : AV → AS → Prop) : Prop :=
  P.oC 9 32 [a0] ⟨Tr.nil, 0⟩ fun t9 sx1 =>
  P.oV 10 (evBin T0 .add 9 true t9 (.s [47])) fun t10 =>
  P.oV 12 (evBin T0 .add 9 false t10 a1) fun t12 =>
  P.oV 14 (evBuiltin T0 sx1.h .len [9] [t12]) fun t14 =>
  P.oL [6, 5, 14, 15] (fun (next : C4) t6 t5 t14x1 t15 sx2 =>
  P.oV 16 (evBin T0 .lss 3 false t15 t14x1) fun t16 =>
  P.oI t16 (P.oV 21 (evIndex T0 9 t5 t15) fun t21 =>
   P.oV 22 (evConv T0 sx2.h 5 63 t21) fun t22 =>
   P.oV 23 (evBin T0 .xor 63 false t6 t22) fun t23 =>
   P.oV 25 (evBin T0 .mul 63 true t23 (.i .u64 1099511628211)) fun t25 =>
   P.oV 26 (evBin T0 .add 3 true t15 (.i .i64 1)) fun t26 =>
   next t25 t5 t14x1 t26 sx2)
  (Q t6 sx2)) (.i .u64 14695981039346656037) t12 t14 (.i .i64 0) sx1
theorem w23_eq (P : Prims) (a0 a1 : AV) (Q : AV → AS → Prop) : w23 P a0 a1 Q = vcBody P T0 Go.Proofs.Tryd.f23 (codeOf Go.Proofs.Tryd.f23) an23 [a0, a1] ⟨.nil, 0⟩ Q := by kernel_rfl
theorem r23 (a0 a1 : AV) {r : AV} (hi : AV.idfree.idfrees [a0, a1] = true) (hn : AV.norm.norms [a0, a1] = [a0, a1]) (h : w23 (prims T0) a0 a1 (fun r1 s1 => oZ T0 s1 r1 (fun r2 => r2 = r))) : R T0 23 [a0, a1] r :=
  R.mk (by kernel_rfl) (by kernel_rfl) (show T0.fn 23 = some Go.Proofs.Tryd.f23 by kernel_rfl) (by kernel_rfl) (by kernel_rfl) hi hn (by rw [w23_eq] at h; exact h)
/- orchestrator/orchestratorref56.Candidates -/
def an24 : AN := (.seq none .leaf (.seq none .leaf (.seq none (.seq none .leaf (.one (.loop [4, 3, 1, 5] (.seq none (.seq none .leaf (.two .leaf .leaf)) (.seq (some [4, 3, 1, 5]) (.one (.seq none .leaf (.two .leaf (.seq none .leaf (.two .leaf .leaf))))) .leaf))))) (.seq none (.seq none .leaf (.two (.seq none .leaf .leaf) .leaf)) (.seq none .leaf .leaf)))))
def w24 (P : Prims) (a0 : AV) (Q : AV → AS → Prop) : Prop :=
  P.oN 1 (.cells (AV.cells a0) 36 false) (fun id => (.ptr id 0)) ⟨Tr.nil, 0⟩ fun t1 sx1 =>
  P.oL [4, 3, 1, 5] (fun (next : C4) t4 t3 t1x1 t5 sx2 =>
  P.oV 7 (evOff 14 t1x1) fun t7 =>
  P.oV 8 (evLoad T0 sx2.h 34 t7) fun t8 =>
  P.oV 9 (evBuiltin T0 sx2.h .len [34] [t8]) fun t9 =>
  P.oV 10 (evBin T0 .lss 3 false t5 t9) fun t10 =>
  P.oI t10 (P.oJ [4, 3, 1, 5] (fun (k : C4) =>
    P.oV 13 (evOff 14 t1x1) fun t13 =>
    P.oV 14 (evLoad T0 sx2.h 34 t13) fun t14 =>
    P.oV 16 (evIndexAddr T0 34 t14 t5) fun t16 =>
    P.oV 17 (evOff 4 t16) fun t17 =>
    P.oV 18 (evLoad T0 sx2.h 4 t17) fun t18 =>
    P.oI t18 (P.oV 20 (evOff 14 t1x1) fun t20 =>
     P.oV 21 (evLoad T0 sx2.h 34 t20) fun t21 =>
     P.oV 23 (evIndexAddr T0 34 t21 t5) fun t23 =>
     P.oV 24 (evLoad T0 sx2.h 54 t23) fun t24 =>
     P.oE (evLit T0 34 1 [(0, t24)]) fun b f =>
     P.oN 25 b f sx2 fun t25 sx3 =>
     P.oM 26 (evAppend T0 sx3 34 34 t4 t25) fun t26 sx4 =>
     k t26 t3 t1x1 t5 sx4)
    (P.oV 27 (evOff 14 t1x1) fun t27 =>
     P.oV 28 (evLoad T0 sx2.h 34 t27) fun t28 =>
     P.oV 30 (evIndexAddr T0 34 t28 t5) fun t30 =>
     P.oV 31 (evOff 3 t30) fun t31 =>
     P.oV 32 (evLoad T0 sx2.h 4 t31) fun t32 =>
     P.oI t32 (P.oV 34 (evOff 14 t1x1) fun t34 =>
      P.oV 35 (evLoad T0 sx2.h 34 t34) fun t35 =>
      P.oV 37 (evIndexAddr T0 34 t35 t5) fun t37 =>
      P.oV 38 (evLoad T0 sx2.h 54 t37) fun t38 =>
      P.oE (evLit T0 34 1 [(0, t38)]) fun b f =>
      P.oN 39 b f sx2 fun t39 sx3 =>
      P.oM 40 (evAppend T0 sx3 34 34 t3 t39) fun t40 sx4 =>
      k t4 t40 t1x1 t5 sx4)
     (k t4 t3 t1x1 t5 sx2)))
   (fun t4x1 t3x1 t1x2 t5x1 sx3 =>
   P.oV 12 (evBin T0 .add 3 true t5x1 (.i .i64 1)) fun t12 =>
   next t4x1 t3x1 t1x2 t12 sx3))
  (P.oV 42 (evBuiltin T0 sx2.h .len [34] [t3]) fun t42 =>
   P.oV 43 (evBin T0 .gtr 3 true t42 (.i .i64 0)) fun t43 =>
   P.oI t43 (Q t3 sx2)
   (Q t4 sx2))) (.nilz true) (.nilz true) t1 (.i .i64 0) sx1
theorem w24_eq (P : Prims) (a0 : AV) (Q : AV → AS → Prop) : w24 P a0 Q = vcBody P T0 Go.Proofs.Tryd.f24 (codeOf Go.Proofs.Tryd.f24) an24 [a0] ⟨.nil, 0⟩ Q := by kernel_rfl
theorem r24 (a0 : AV) {r : AV} (hi : AV.idfree.idfrees [a0] = true) (hn : AV.norm.norms [a0] = [a0]) (h : w24 (prims T0) a0 (fun r1 s1 => oZ T0 s1 r1 (fun r2 => r2 = r))) : R T0 24 [a0] r :=
  R.mk (by kernel_rfl) (by kernel_rfl) (show T0.fn 24 = some Go.Proofs.Tryd.f24 by kernel_rfl) (by kernel_rfl) (by kernel_rfl) hi hn (by rw [w24_eq] at h; exact h)
/- orchestrator/orchestratorref56.chosen -/
def an25 : AN := (.seq none .leaf (.seq none .leaf (.seq none (.seq none .leaf (.one (.loop [5, 0, 1, 6] (.seq none (.seq none .leaf (.two .leaf .leaf)) (.seq (some [5, 0, 1, 6]) (.one (.seq none .leaf (.seq none .leaf (.two .leaf .leaf)))) .leaf))))) (.seq none .leaf .leaf))))
def w25 (P : Prims) (a0 a1 : AV) (Q : AV → AS → Prop) : Prop :=
  P.oL [5, 0, 1, 6] (fun (next : C4) t5 t0 t1 t6 sx1 =>
  P.oV 11 (evBuiltin T0 sx1.h .len [34] [t0]) fun t11 =>
  P.oV 12 (evBin T0 .lss 3 false t6 t11) fun t12 =>
  P.oI t12 (P.oJ [5, 0, 1, 6] (fun (k : C4) =>
    P.oV 18 (evIndexAddr T0 34 t0 t6) fun t18 =>
    P.oV 19 (evOff 0 t18) fun t19 =>
    P.oV 20 (evLoad T0 sx1.h 9 t19) fun t20 =>
    P.oC 21 33 [t1, t20] sx1 fun t21 sx2 =>
    P.oV 25 (evIndexAddr T0 34 t0 t5) fun t25 =>
    P.oV 26 (evOff 0 t25) fun t26 =>
    P.oV 27 (evLoad T0 sx1.h 9 t26) fun t27 =>
    P.oC 28 33 [t1, t27] sx1 fun t28 sx3 =>
    P.oV 31 (evBin T0 .gtr 63 false t21 t28) fun t31 =>
    P.oG [33, 34, 35, 36] t31 false (fun (kx1 : C4) => P.oV 35 (evBin T0 .eql 63 false t21 t28) fun t35 =>
     kx1 t21 t28 t35 t35 sx1) sx1 fun t33 t34 t35 t36 sx4 =>
    P.oG [37, 38, 39, 40, 41, 42, 43, 44, 45, 46, 47] t36 true (fun (kx1 : C11) => P.oV 39 (evIndexAddr T0 34 t0 t6) fun t39 =>
     P.oV 40 (evOff 0 t39) fun t40 =>
     P.oV 41 (evLoad T0 sx1.h 9 t40) fun t41 =>
     P.oV 44 (evIndexAddr T0 34 t0 t5) fun t44 =>
     P.oV 45 (evOff 0 t44) fun t45 =>
     P.oV 46 (evLoad T0 sx1.h 9 t45) fun t46 =>
     P.oV 47 (evBin T0 .lss 9 false t41 t46) fun t47 =>
     kx1 t0 t6 t39 t40 t41 t0 t5 t44 t45 t46 t47 sx1) sx1 fun t37 t38 t39 t40 t41 t42 t43 t44 t45 t46 t47 sx5 =>
    P.oG [48] t31 false (fun (kx1 : C1) => P.oV 48 (evPick t36 (some t47) (some (.b false))) fun t48 =>
     kx1 t48 sx1) sx1 fun t48 sx6 =>
    P.oV 49 (evPick t31 (some (.b true)) (some t48)) fun t49 =>
    P.oI t49 (k t6 t0 t1 t6 sx1)
    (k t5 t0 t1 t6 sx1))
   (fun t5x1 t0x1 t1x1 t6x1 sx2 =>
   P.oV 14 (evBin T0 .add 3 true t6x1 (.i .i64 1)) fun t14 =>
   next t5x1 t0x1 t1x1 t14 sx2))
  (Q t5 sx1)) (.i .i64 0) a0 a1 (.i .i64 1) ⟨Tr.nil, 0⟩
theorem w25_eq (P : Prims) (a0 a1 : AV) (Q : AV → AS → Prop) : w25 P a0 a1 Q = vcBody P T0 Go.Proofs.Tryd.f25 (codeOf Go.Proofs.Tryd.f25) an25 [a0, a1] ⟨.nil, 0⟩ Q := by kernel_rfl
theorem r25 (a0 a1 : AV) {r : AV} (hi : AV.idfree.idfrees [a0, a1] = true) (hn : AV.norm.norms [a0, a1] = [a0, a1]) (h : w25 (prims T0) a0 a1 (fun r1 s1 => oZ T0 s1 r1 (fun r2 => r2 = r))) : R T0 25 [a0, a1] r :=
  R.mk (by kernel_rfl) (by kernel_rfl) (show T0.fn 25 = some Go.Proofs.Tryd.f25 by kernel_rfl) (by kernel_rfl) (by kernel_rfl) hi hn (by rw [w25_eq] at h; exact h)
/- strconv.Itoa -/
def an32 : AN := (.seq none .leaf (.seq none .leaf .leaf))
def w32 (P : Prims) (a0 : AV) (Q : AV → AS → Prop) : Prop :=
  P.oC 4 34 [a0] ⟨Tr.nil, 0⟩ fun t4 sx1 =>
  Q t4 sx1
theorem w32_eq (P : Prims) (a0 : AV) (Q : AV → AS → Prop) : w32 P a0 Q = vcBody P T0 Go.Proofs.Tryd.f32 (codeOf Go.Proofs.Tryd.f32) an32 [a0] ⟨.nil, 0⟩ Q := by kernel_rfl
theorem r32 (a0 : AV) {r : AV} (hi : AV.idfree.idfrees [a0] = true) (hn : AV.norm.norms [a0] = [a0]) (h : w32 (prims T0) a0 (fun r1 s1 => oZ T0 s1 r1 (fun r2 => r2 = r))) : R T0 32 [a0] r :=
  R.mk (by kernel_rfl) (by kernel_rfl) (show T0.fn 32 = some Go.Proofs.Tryd.f32 by kernel_rfl) (by kernel_rfl) (by kernel_rfl) hi hn (by rw [w32_eq] at h; exact h)
/- orchestrator/orchestratorref56.Weight -/
def an33 : AN := (.seq none .leaf (.seq none .leaf (.seq none .leaf (.seq none (.seq none .leaf (.one (.loop [6, 5, 7] (.seq none (.seq none .leaf (.two .leaf .leaf)) (.seq none (.one .leaf) .leaf))))) (.seq none .leaf .leaf)))))
def w33 (P : Prims) (a0 a1 : AV) (Q : AV → AS → Prop) : Prop :=
  P.oC 9 35 [a0] ⟨Tr.nil, 0⟩ fun t9 sx1 =>
  P.oV 10 (evBin T0 .add 9 true t9 (.s [47])) fun t10 =>
  P.oV 12 (evBin T0 .add 9 false t10 a1) fun t12 =>
  P.oL [6, 5, 7] (fun (next : C3) t6 t5 t7 sx2 =>
  P.oV 15 (evBuiltin T0 sx2.h .len [9] [t5]) fun t15 =>
  P.oV 16 (evBin T0 .lss 3 false t7 t15) fun t16 =>
  P.oI t16 (P.oV 22 (evIndex T0 9 t5 t7) fun t22 =>
   P.oV 23 (evConv T0 sx2.h 5 63 t22) fun t23 =>
   P.oV 24 (evBin T0 .xor 63 false t6 t23) fun t24 =>
   P.oV 25 (evBin T0 .mul 63 true t24 (.i .u64 1099511628211)) fun t25 =>
   P.oV 18 (evBin T0 .add 3 true t7 (.i .i64 1)) fun t18 =>
   next t25 t5 t18 sx2)
  (Q t6 sx2)) (.i .u64 14695981039346656037) t12 (.i .i64 0) sx1
theorem w33_eq (P : Prims) (a0 a1 : AV) (Q : AV → AS → Prop) : w33 P a0 a1 Q = vcBody P T0 Go.Proofs.Tryd.f33 (codeOf Go.Proofs.Tryd.f33) an33 [a0, a1] ⟨.nil, 0⟩ Q := by kernel_rfl
theorem r33 (a0 a1 : AV) {r : AV} (hi : AV.idfree.idfrees [a0, a1] = true) (hn : AV.norm.norms [a0, a1] = [a0, a1]) (h : w33 (prims T0) a0 a1 (fun r1 s1 => oZ T0 s1 r1 (fun r2 => r2 = r))) : R T0 33 [a0, a1] r :=
  R.mk (by kernel_rfl) (by kernel_rfl) (show T0.fn 33 = some Go.Proofs.Tryd.f33 by kernel_rfl) (by kernel_rfl) (by kernel_rfl) hi hn (by rw [w33_eq] at h; exact h)
/- orchestrator/orchestratorref01.Decimal -/
def an35 : AN := (.seq none .leaf (.seq none (.seq none .leaf (.two (.seq none .leaf .leaf) .leaf)) (.seq none (.seq none .leaf (.two (.seq none .leaf .leaf) .leaf)) (.seq none .leaf .leaf))))
def w35 (P : Prims) (a0 : AV) (Q : AV → AS → Prop) : Prop :=
  P.oV 4 (evBin T0 .geq 3 true a0 (.i .i64 0)) fun t4 =>
  P.oI t4 (P.oC 6 37 [a0] ⟨Tr.nil, 0⟩ fun t6 sx1 =>
   Q t6 sx1)
  (P.oV 8 (evBin T0 .quo 3 true a0 (.i .i64 10)) fun t8 =>
   P.oV 9 (evBin T0 .eql 3 true t8 (.i .i64 0)) fun t9 =>
   P.oI t9 (P.oV 11 (evUn .neg a0) fun t11 =>
    P.oC 12 37 [t11] ⟨Tr.nil, 0⟩ fun t12 sx1 =>
    P.oV 13 (evBin T0 .add 9 true (.s [45]) t12) fun t13 =>
    Q t13 sx1)
   (P.oV 15 (evBin T0 .quo 3 true a0 (.i .i64 10)) fun t15 =>
    P.oV 16 (evUn .neg t15) fun t16 =>
    P.oC 17 37 [t16] ⟨Tr.nil, 0⟩ fun t17 sx1 =>
    P.oV 18 (evBin T0 .add 9 true (.s [45]) t17) fun t18 =>
    P.oV 20 (evBin T0 .rem 3 true a0 (.i .i64 10)) fun t20 =>
    P.oV 21 (evUn .neg t20) fun t21 =>
    P.oC 22 37 [t21] sx1 fun t22 sx2 =>
    P.oV 23 (evBin T0 .add 9 false t18 t22) fun t23 =>
    Q t23 sx2))
theorem w35_eq (P : Prims) (a0 : AV) (Q : AV → AS → Prop) : w35 P a0 Q = vcBody P T0 Go.Proofs.Tryd.f35 (codeOf Go.Proofs.Tryd.f35) an35 [a0] ⟨.nil, 0⟩ Q := by kernel_rfl
theorem r35 (a0 : AV) {r : AV} (hi : AV.idfree.idfrees [a0] = true) (hn : AV.norm.norms [a0] = [a0]) (h : w35 (prims T0) a0 (fun r1 s1 => oZ T0 s1 r1 (fun r2 => r2 = r))) : R T0 35 [a0] r :=
  R.mk (by kernel_rfl) (by kernel_rfl) (show T0.fn 35 = some Go.Proofs.Tryd.f35 by kernel_rfl) (by kernel_rfl) (by kernel_rfl) hi hn (by rw [w35_eq] at h; exact h)
/- internal/strconv.FormatInt -/
def an36 : AN := (.seq none .leaf (.seq none (.seq none .leaf (.two (.seq none (.seq none .leaf (.two (.seq none .leaf .leaf) .leaf)) (.seq none .leaf (.seq none .leaf (.seq (some [5, 0, 6]) (.seq none .leaf (.two .leaf .leaf)) (.seq none .leaf (.seq none .leaf (.seq none (.seq none .leaf (.two (.seq none .leaf (.seq none .leaf .leaf)) .leaf)) (.seq none .leaf .leaf)))))))) .leaf)) (.seq none .leaf (.seq none .leaf .leaf))))
def w36 (P : Prims) (a0 a1 : AV) (Q : AV → AS → Prop) : Prop :=
  P.oV 11 (evBin T0 .eql 3 true a1 (.i .i64 10)) fun t11 =>
  P.oI t11 (P.oV 13 (evBin T0 .leq 2 true (.i .i64 0) a0) fun t13 =>
   P.oG [15, 16] t13 true (fun (k : C2) => P.oV 16 (evBin T0 .lss 2 true a0 (.i .i64 100)) fun t16 =>
    k a0 t16 ⟨Tr.nil, 0⟩) ⟨Tr.nil, 0⟩ fun t15 t16 sx1 =>
   P.oV 17 (evPick t13 (some t16) (some (.b false))) fun t17 =>
   P.oI t17 (P.oC 19 38 [a0] sx1 fun t19 sx2 =>
    Q t19 sx2)
   (P.oN 5 (.cells [(.i .u8 0), (.i .u8 0), (.i .u8 0), (.i .u8 0), (.i .u8 0), (.i .u8 0), (.i .u8 0), (.i .u8 0), (.i .u8 0), (.i .u8 0), (.i .u8 0), (.i .u8 0), (.i .u8 0), (.i .u8 0), (.i .u8 0), (.i .u8 0), (.i .u8 0), (.i .u8 0), (.i .u8 0), (.i .u8 0), (.i .u8 0), (.i .u8 0), (.i .u8 0), (.i .u8 0)] 83 false) (fun id => (.ptr id 0)) sx1 fun t5 sx2 =>
    P.oV 21 (evConv T0 sx2.h 2 63 a0) fun t21 =>
    P.oJ [5, 0, 6] (fun (k : C3) =>
     P.oV 23 (evBin T0 .lss 2 true a0 (.i .i64 0)) fun t23 =>
     P.oI t23 (P.oV 25 (evUn .neg t21) fun t25 =>
      k t5 a0 t25 sx2)
     (k t5 a0 t21 sx2))
    (fun t5x1 t0 t6 sx3 =>
    P.oC 27 39 [t6] sx3 fun t27 sx4 =>
    P.oV 29 (evBin T0 .add 3 true (.i .i64 1) t27) fun t29 =>
    P.oV 30 (evSlice T0 83 t5x1 (some (.i .i64 1)) (some t29) none) fun t30 =>
    P.oC 32 40 [t30, t6] sx4 fun t32 sx5 =>
    P.oV 34 (evBin T0 .lss 2 true t0 (.i .i64 0)) fun t34 =>
    P.oI t34 (P.oV 35 (evIndexAddr T0 83 t5x1 (.i .i64 0)) fun t35 =>
     P.oH (evStore T0 sx5.h 5 t35 (.i .u8 45)) sx5 fun sx6 =>
     P.oV 37 (evBin T0 .add 3 true (.i .i64 1) t27) fun t37 =>
     P.oV 38 (evSlice T0 83 t5x1 none (some t37) none) fun t38 =>
     P.oV 39 (evConv T0 sx6.h 86 9 t38) fun t39 =>
     Q t39 sx6)
    (P.oV 41 (evBin T0 .add 3 true (.i .i64 1) t27) fun t41 =>
     P.oV 42 (evSlice T0 83 t5x1 (some (.i .i64 1)) (some t41) none) fun t42 =>
     P.oV 43 (evConv T0 sx5.h 86 9 t42) fun t43 =>
     Q t43 sx5))))
  (P.oV 46 (evConv T0 Tr.nil 2 63 a0) fun t46 =>
   P.oV 49 (evBin T0 .lss 2 true a0 (.i .i64 0)) fun t49 =>
   P.oC 50 41 [(.nilz true), t46, a1, t49, (.b false)] ⟨Tr.nil, 0⟩ fun t50 sx1 =>
   P.oV 51 (evExtract 0 t50) fun t51 =>
   P.oV 52 (evExtract 1 t50) fun t52 =>
   Q t52 sx1)
theorem w36_eq (P : Prims) (a0 a1 : AV) (Q : AV → AS → Prop) : w36 P a0 a1 Q = vcBody P T0 Go.Proofs.Tryd.f36 (codeOf Go.Proofs.Tryd.f36) an36 [a0, a1] ⟨.nil, 0⟩ Q := by kernel_rfl
theorem r36 (a0 a1 : AV) {r : AV} (hi : AV.idfree.idfrees [a0, a1] = true) (hn : AV.norm.norms [a0, a1] = [a0, a1]) (h : w36 (prims T0) a0 a1 (fun r1 s1 => oZ T0 s1 r1 (fun r2 => r2 = r))) : R T0 36 [a0, a1] r :=
  R.mk (by kernel_rfl) (by kernel_rfl) (show T0.fn 36 = some Go.Proofs.Tryd.f36 by kernel_rfl) (by kernel_rfl) (by kernel_rfl) hi hn (by rw [w36_eq] at h; exact h)
/- orchestrator/orchestratorref01.text -/
def an37 : AN := (.seq none .leaf (.seq none .leaf (.seq none (.one (.loop [3, 0] (.seq none (.seq none .leaf (.two .leaf .leaf)) (.one (.seq none .leaf .leaf))))) (.seq none .leaf .leaf))))
def w37 (P : Prims) (a0 : AV) (Q : AV → AS → Prop) : Prop :=
  P.oV 5 (evBin T0 .rem 3 true a0 (.i .i64 10)) fun t5 =>
  P.oV 6 (evBin T0 .add 3 true (.i .i64 48) t5) fun t6 =>
  P.oV 7 (evConv T0 Tr.nil 3 5 t6) fun t7 =>
  P.oE (evLit T0 86 1 [(0, t7)]) fun b f =>
  P.oN 8 b f ⟨Tr.nil, 0⟩ fun t8 sx1 =>
  P.oV 9 (evConv T0 sx1.h 86 9 t8) fun t9 =>
  P.oL [3, 0] (fun (next : C2) t3 t0 sx2 =>
  P.oV 11 (evBin T0 .geq 3 true t0 (.i .i64 10)) fun t11 =>
  P.oI t11 (P.oV 13 (evBin T0 .quo 3 true t0 (.i .i64 10)) fun t13 =>
   P.oV 15 (evBin T0 .rem 3 true t13 (.i .i64 10)) fun t15 =>
   P.oV 16 (evBin T0 .add 3 true (.i .i64 48) t15) fun t16 =>
   P.oV 17 (evConv T0 sx2.h 3 5 t16) fun t17 =>
   P.oE (evLit T0 86 1 [(0, t17)]) fun bx1 fx1 =>
   P.oN 18 bx1 fx1 sx2 fun t18 sx3 =>
   P.oV 19 (evConv T0 sx3.h 86 9 t18) fun t19 =>
   P.oV 21 (evBin T0 .add 9 false t19 t3) fun t21 =>
   next t21 t13 sx3)
  (Q t3 sx2)) t9 a0 sx1
theorem w37_eq (P : Prims) (a0 : AV) (Q : AV → AS → Prop) : w37 P a0 Q = vcBody P T0 Go.Proofs.Tryd.f37 (codeOf Go.Proofs.Tryd.f37) an37 [a0] ⟨.nil, 0⟩ Q := by kernel_rfl
theorem r37 (a0 : AV) {r : AV} (hi : AV.idfree.idfrees [a0] = true) (hn : AV.norm.norms [a0] = [a0]) (h : w37 (prims T0) a0 (fun r1 s1 => oZ T0 s1 r1 (fun r2 => r2 = r))) : R T0 37 [a0] r :=
  R.mk (by kernel_rfl) (by kernel_rfl) (show T0.fn 37 = some Go.Proofs.Tryd.f37 by kernel_rfl) (by kernel_rfl) (by kernel_rfl) hi hn (by rw [w37_eq] at h; exact h)
/- internal/strconv.small -/
def an38 : AN := (.seq none .leaf (.seq none (.seq none .leaf (.two (.seq none .leaf .leaf) .leaf)) (.seq none .leaf .leaf)))
def w38 (P : Prims) (a0 : AV) (Q : AV → AS → Prop) : Prop :=
  P.oV 4 (evBin T0 .lss 3 true a0 (.i .i64 10)) fun t4 =>
  P.oI t4 (P.oV 7 (evBin T0 .add 3 true a0 (.i .i64 1)) fun t7 =>
   P.oV 8 (evSlice T0 9 (.s [48, 49, 50, 51, 52, 53, 54, 55, 56, 57, 97, 98, 99, 100, 101, 102, 103, 104, 105, 106, 107, 108, 109, 110, 111, 112, 113, 114, 115, 116, 117, 118, 119, 120, 121, 122]) (some a0) (some t7) none) fun t8 =>
   Q t8 ⟨Tr.nil, 0⟩)
  (P.oV 10 (evBin T0 .mul 3 true a0 (.i .i64 2)) fun t10 =>
   P.oV 12 (evBin T0 .mul 3 true a0 (.i .i64 2)) fun t12 =>
   P.oV 13 (evBin T0 .add 3 true t12 (.i .i64 2)) fun t13 =>
   P.oV 14 (evSlice T0 9 (.s [48, 48, 48, 49, 48, 50, 48, 51, 48, 52, 48, 53, 48, 54, 48, 55, 48, 56, 48, 57, 49, 48, 49, 49, 49, 50, 49, 51, 49, 52, 49, 53, 49, 54, 49, 55, 49, 56, 49, 57, 50, 48, 50, 49, 50, 50, 50, 51, 50, 52, 50, 53, 50, 54, 50, 55, 50, 56, 50, 57, 51, 48, 51, 49, 51, 50, 51, 51, 51, 52, 51, 53, 51, 54, 51, 55, 51, 56, 51, 57, 52, 48, 52, 49, 52, 50, 52, 51, 52, 52, 52, 53, 52, 54, 52, 55, 52, 56, 52, 57, 53, 48, 53, 49, 53, 50, 53, 51, 53, 52, 53, 53, 53, 54, 53, 55, 53, 56, 53, 57, 54, 48, 54, 49, 54, 50, 54, 51, 54, 52, 54, 53, 54, 54, 54, 55, 54, 56, 54, 57, 55, 48, 55, 49, 55, 50, 55, 51, 55, 52, 55, 53, 55, 54, 55, 55, 55, 56, 55, 57, 56, 48, 56, 49, 56, 50, 56, 51, 56, 52, 56, 53, 56, 54, 56, 55, 56, 56, 56, 57, 57, 48, 57, 49, 57, 50, 57, 51, 57, 52, 57, 53, 57, 54, 57, 55, 57, 56, 57, 57]) (some t10) (some t13) none) fun t14 =>
   Q t14 ⟨Tr.nil, 0⟩)
theorem w38_eq (P : Prims) (a0 : AV) (Q : AV → AS → Prop) : w38 P a0 Q = vcBody P T0 Go.Proofs.Tryd.f38 (codeOf Go.Proofs.Tryd.f38) an38 [a0] ⟨.nil, 0⟩ Q := by kernel_rfl
theorem r38 (a0 : AV) {r : AV} (hi : AV.idfree.idfrees [a0] = true) (hn : AV.norm.norms [a0] = [a0]) (h : w38 (prims T0) a0 (fun r1 s1 => oZ T0 s1 r1 (fun r2 => r2 = r))) : R T0 38 [a0] r :=
  R.mk (by kernel_rfl) (by kernel_rfl) (show T0.fn 38 = some Go.Proofs.Tryd.f38 by kernel_rfl) (by kernel_rfl) (by kernel_rfl) hi hn (by rw [w38_eq] at h; exact h)
/- internal/strconv.numDigits -/
def an39 : AN := (.seq none .leaf (.seq none .leaf (.seq none .leaf .leaf)))
def w39 (P : Prims) (a0 : AV) (Q : AV → AS → Prop) : Prop :=
  P.oC 5 43 [a0] ⟨Tr.nil, 0⟩ fun t5 sx1 =>
  P.oC 6 42 [t5] sx1 fun t6 sx2 =>
  P.oV 10 (evIndexAddr T0 91 (.iptr [(.i .u64 1), (.i .u64 10), (.i .u64 100), (.i .u64 1000), (.i .u64 10000), (.i .u64 100000), (.i .u64 1000000), (.i .u64 10000000), (.i .u64 100000000), (.i .u64 1000000000), (.i .u64 10000000000), (.i .u64 100000000000), (.i .u64 1000000000000), (.i .u64 10000000000000), (.i .u64 100000000000000), (.i .u64 1000000000000000), (.i .u64 10000000000000000), (.i .u64 100000000000000000), (.i .u64 1000000000000000000), (.i .u64 10000000000000000000)]) t6) fun t10 =>
  P.oV 11 (evLoad T0 sx2.h 63 t10) fun t11 =>
  P.oV 12 (evBin T0 .geq 63 false a0 t11) fun t12 =>
  P.oC 13 44 [t12] sx2 fun t13 sx3 =>
  P.oV 14 (evBin T0 .add 3 false t6 t13) fun t14 =>
  Q t14 sx3
theorem w39_eq (P : Prims) (a0 : AV) (Q : AV → AS → Prop) : w39 P a0 Q = vcBody P T0 Go.Proofs.Tryd.f39 (codeOf Go.Proofs.Tryd.f39) an39 [a0] ⟨.nil, 0⟩ Q := by kernel_rfl
theorem r39 (a0 : AV) {r : AV} (hi : AV.idfree.idfrees [a0] = true) (hn : AV.norm.norms [a0] = [a0]) (h : w39 (prims T0) a0 (fun r1 s1 => oZ T0 s1 r1 (fun r2 => r2 = r))) : R T0 39 [a0] r :=
  R.mk (by kernel_rfl) (by kernel_rfl) (show T0.fn 39 = some Go.Proofs.Tryd.f39 by kernel_rfl) (by kernel_rfl) (by kernel_rfl) hi hn (by rw [w39_eq] at h; exact h)
/- internal/strconv.formatBase10 -/
def an40 : AN := (.seq none .leaf (.seq none (.one (.loop [0, 4, 1] (.seq none (.seq none .leaf (.two .leaf .leaf)) (.one (.seq none .leaf (.seq none .leaf (.seq none .leaf (.seq none .leaf (.seq none .leaf (.seq none .leaf (.seq none .leaf (.seq none .leaf (.seq none .leaf .leaf))))))))))))) (.seq none .leaf (.seq (some [12, 0, 4]) (.seq none .leaf (.two (.seq none .leaf (.seq none .leaf (.seq none .leaf (.seq none .leaf (.seq none .leaf .leaf))))) .leaf)) (.seq (some [12, 0, 4]) (.seq none .leaf (.two (.seq none .leaf (.seq none .leaf (.seq none .leaf .leaf))) .leaf)) (.seq none .leaf (.two .leaf .leaf)))))))
def w40 (P : Prims) (a0 a1 : AV) (Q : AV → AS → Prop) : Prop :=
  P.oV 18 (evBuiltin T0 Tr.nil .len [86] [a0]) fun t18 =>
  P.oL [0, 4, 1] (fun (next : C3) t0 t4 t1 sx1 =>
  P.oV 20 (evBin T0 .geq 3 true t4 (.i .i64 8)) fun t20 =>
  P.oI t20 (P.oV 22 (evBin T0 .rem 63 true t1 (.i .u64 100000000)) fun t22 =>
   P.oV 23 (evConv T0 sx1.h 63 92 t22) fun t23 =>
   P.oV 25 (evBin T0 .quo 63 true t1 (.i .u64 100000000)) fun t25 =>
   P.oV 27 (evBin T0 .quo 92 true t23 (.i .u32 10000)) fun t27 =>
   P.oV 29 (evBin T0 .rem 92 true t23 (.i .u32 10000)) fun t29 =>
   P.oV 31 (evBin T0 .quo 92 true t29 (.i .u32 100)) fun t31 =>
   P.oV 32 (evBin T0 .mul 92 true t31 (.i .u32 2)) fun t32 =>
   P.oV 34 (evBin T0 .rem 92 true t29 (.i .u32 100)) fun t34 =>
   P.oV 35 (evBin T0 .mul 92 true t34 (.i .u32 2)) fun t35 =>
   P.oV 37 (evBin T0 .quo 92 true t27 (.i .u32 100)) fun t37 =>
   P.oV 38 (evBin T0 .mul 92 true t37 (.i .u32 2)) fun t38 =>
   P.oV 40 (evBin T0 .rem 92 true t27 (.i .u32 100)) fun t40 =>
   P.oV 41 (evBin T0 .mul 92 true t40 (.i .u32 2)) fun t41 =>
   P.oV 44 (evBin T0 .sub 3 true t4 (.i .i64 1)) fun t44 =>
   P.oV 47 (evBin T0 .sub 3 true t4 (.i .i64 2)) fun t47 =>
   P.oV 49 (evBin T0 .add 92 true t35 (.i .u32 1)) fun t49 =>
   P.oV 50 (evIndex T0 9 (.s [48, 48, 48, 49, 48, 50, 48, 51, 48, 52, 48, 53, 48, 54, 48, 55, 48, 56, 48, 57, 49, 48, 49, 49, 49, 50, 49, 51, 49, 52, 49, 53, 49, 54, 49, 55, 49, 56, 49, 57, 50, 48, 50, 49, 50, 50, 50, 51, 50, 52, 50, 53, 50, 54, 50, 55, 50, 56, 50, 57, 51, 48, 51, 49, 51, 50, 51, 51, 51, 52, 51, 53, 51, 54, 51, 55, 51, 56, 51, 57, 52, 48, 52, 49, 52, 50, 52, 51, 52, 52, 52, 53, 52, 54, 52, 55, 52, 56, 52, 57, 53, 48, 53, 49, 53, 50, 53, 51, 53, 52, 53, 53, 53, 54, 53, 55, 53, 56, 53, 57, 54, 48, 54, 49, 54, 50, 54, 51, 54, 52, 54, 53, 54, 54, 54, 55, 54, 56, 54, 57, 55, 48, 55, 49, 55, 50, 55, 51, 55, 52, 55, 53, 55, 54, 55, 55, 55, 56, 55, 57, 56, 48, 56, 49, 56, 50, 56, 51, 56, 52, 56, 53, 56, 54, 56, 55, 56, 56, 56, 57, 57, 48, 57, 49, 57, 50, 57, 51, 57, 52, 57, 53, 57, 54, 57, 55, 57, 56, 57, 57]) t49) fun t50 =>
   P.oV 52 (evIndex T0 9 (.s [48, 48, 48, 49, 48, 50, 48, 51, 48, 52, 48, 53, 48, 54, 48, 55, 48, 56, 48, 57, 49, 48, 49, 49, 49, 50, 49, 51, 49, 52, 49, 53, 49, 54, 49, 55, 49, 56, 49, 57, 50, 48, 50, 49, 50, 50, 50, 51, 50, 52, 50, 53, 50, 54, 50, 55, 50, 56, 50, 57, 51, 48, 51, 49, 51, 50, 51, 51, 51, 52, 51, 53, 51, 54, 51, 55, 51, 56, 51, 57, 52, 48, 52, 49, 52, 50, 52, 51, 52, 52, 52, 53, 52, 54, 52, 55, 52, 56, 52, 57, 53, 48, 53, 49, 53, 50, 53, 51, 53, 52, 53, 53, 53, 54, 53, 55, 53, 56, 53, 57, 54, 48, 54, 49, 54, 50, 54, 51, 54, 52, 54, 53, 54, 54, 54, 55, 54, 56, 54, 57, 55, 48, 55, 49, 55, 50, 55, 51, 55, 52, 55, 53, 55, 54, 55, 55, 55, 56, 55, 57, 56, 48, 56, 49, 56, 50, 56, 51, 56, 52, 56, 53, 56, 54, 56, 55, 56, 56, 56, 57, 57, 48, 57, 49, 57, 50, 57, 51, 57, 52, 57, 53, 57, 54, 57, 55, 57, 56, 57, 57]) t35) fun t52 =>
   P.oV 53 (evIndexAddr T0 86 t0 t44) fun t53 =>
   P.oD (storeA T0 sx1.h 5 t53 t50) fun i b =>
   P.oT ((rdsOK sx1.n (befG [[], [], [1], [], [], [4], [], [6], [6, 7], [], [9], [6, 7, 8, 1, 2, 0], [6, 7, 8, 1, 2, 0, 11], [6, 7, 8, 1, 2, 0, 11, 12, 9, 10, 4, 5, 3], [6, 7, 8, 1, 2, 0, 11, 12, 9, 10, 4, 5, 3, 13]]) [6, 7, 8, 1, 2, 0, 11] [] i []) && (wrsOK [6, 7, 8, 1, 2, 0, 11] i [])) (P.oV 54 (evIndexAddr T0 86 t0 t47) fun t54 =>
   P.oT (readOK sx1.n [6, 7, 8, 1, 2, 0, 11, 12, 9, 10, 4, 5, 3, 13] [(12, (i, (some b)))] [(12, (i, (some b)))]) (P.oD (storeA T0 (sx1.h.put i (some b)) 5 t54 t52) fun ix1 bx1 =>
   P.oT ((rdsOK sx1.n (befG [[], [], [1], [], [], [4], [], [6], [6, 7], [], [9], [6, 7, 8, 1, 2, 0], [6, 7, 8, 1, 2, 0, 11], [6, 7, 8, 1, 2, 0, 11, 12, 9, 10, 4, 5, 3], [6, 7, 8, 1, 2, 0, 11, 12, 9, 10, 4, 5, 3, 13]]) [6, 7, 8, 1, 2, 0, 11, 12, 9, 10, 4, 5, 3, 13] [(12, (i, (some b)))] ix1 []) && (wrsOK [6, 7, 8, 1, 2, 0, 11, 12, 9, 10, 4, 5, 3, 13] ix1 [(12, (i, (some b)))])) (P.oS ⟨((sx1.h.put i (some b)).put ix1 (some bx1)), sx1.n⟩ fun sx2 =>
   P.oV 57 (evBin T0 .sub 3 true t4 (.i .i64 3)) fun t57 =>
   P.oV 60 (evBin T0 .sub 3 true t4 (.i .i64 4)) fun t60 =>
   P.oV 62 (evBin T0 .add 92 true t32 (.i .u32 1)) fun t62 =>
   P.oV 63 (evIndex T0 9 (.s [48, 48, 48, 49, 48, 50, 48, 51, 48, 52, 48, 53, 48, 54, 48, 55, 48, 56, 48, 57, 49, 48, 49, 49, 49, 50, 49, 51, 49, 52, 49, 53, 49, 54, 49, 55, 49, 56, 49, 57, 50, 48, 50, 49, 50, 50, 50, 51, 50, 52, 50, 53, 50, 54, 50, 55, 50, 56, 50, 57, 51, 48, 51, 49, 51, 50, 51, 51, 51, 52, 51, 53, 51, 54, 51, 55, 51, 56, 51, 57, 52, 48, 52, 49, 52, 50, 52, 51, 52, 52, 52, 53, 52, 54, 52, 55, 52, 56, 52, 57, 53, 48, 53, 49, 53, 50, 53, 51, 53, 52, 53, 53, 53, 54, 53, 55, 53, 56, 53, 57, 54, 48, 54, 49, 54, 50, 54, 51, 54, 52, 54, 53, 54, 54, 54, 55, 54, 56, 54, 57, 55, 48, 55, 49, 55, 50, 55, 51, 55, 52, 55, 53, 55, 54, 55, 55, 55, 56, 55, 57, 56, 48, 56, 49, 56, 50, 56, 51, 56, 52, 56, 53, 56, 54, 56, 55, 56, 56, 56, 57, 57, 48, 57, 49, 57, 50, 57, 51, 57, 52, 57, 53, 57, 54, 57, 55, 57, 56, 57, 57]) t62) fun t63 =>
   P.oV 65 (evIndex T0 9 (.s [48, 48, 48, 49, 48, 50, 48, 51, 48, 52, 48, 53, 48, 54, 48, 55, 48, 56, 48, 57, 49, 48, 49, 49, 49, 50, 49, 51, 49, 52, 49, 53, 49, 54, 49, 55, 49, 56, 49, 57, 50, 48, 50, 49, 50, 50, 50, 51, 50, 52, 50, 53, 50, 54, 50, 55, 50, 56, 50, 57, 51, 48, 51, 49, 51, 50, 51, 51, 51, 52, 51, 53, 51, 54, 51, 55, 51, 56, 51, 57, 52, 48, 52, 49, 52, 50, 52, 51, 52, 52, 52, 53, 52, 54, 52, 55, 52, 56, 52, 57, 53, 48, 53, 49, 53, 50, 53, 51, 53, 52, 53, 53, 53, 54, 53, 55, 53, 56, 53, 57, 54, 48, 54, 49, 54, 50, 54, 51, 54, 52, 54, 53, 54, 54, 54, 55, 54, 56, 54, 57, 55, 48, 55, 49, 55, 50, 55, 51, 55, 52, 55, 53, 55, 54, 55, 55, 55, 56, 55, 57, 56, 48, 56, 49, 56, 50, 56, 51, 56, 52, 56, 53, 56, 54, 56, 55, 56, 56, 56, 57, 57, 48, 57, 49, 57, 50, 57, 51, 57, 52, 57, 53, 57, 54, 57, 55, 57, 56, 57, 57]) t32) fun t65 =>
   P.oV 66 (evIndexAddr T0 86 t0 t57) fun t66 =>
   P.oD (storeA T0 sx2.h 5 t66 t63) fun ix2 bx2 =>
   P.oT ((rdsOK sx2.n (befG [[], [], [1], [], [], [4], [], [6], [6, 7], [], [9], [6, 7, 8, 1, 2, 0], [6, 7, 8, 1, 2, 0, 11], [6, 7, 8, 1, 2, 0, 11, 12, 9, 10, 4, 5, 3], [6, 7, 8, 1, 2, 0, 11, 12, 9, 10, 4, 5, 3, 13]]) [6, 7, 8, 1, 2, 0, 11] [] ix2 []) && (wrsOK [6, 7, 8, 1, 2, 0, 11] ix2 [])) (P.oV 67 (evIndexAddr T0 86 t0 t60) fun t67 =>
   P.oT (readOK sx2.n [6, 7, 8, 1, 2, 0, 11, 12, 9, 10, 4, 5, 3, 13] [(12, (ix2, (some bx2)))] [(12, (ix2, (some bx2)))]) (P.oD (storeA T0 (sx2.h.put ix2 (some bx2)) 5 t67 t65) fun ix3 bx3 =>
   P.oT ((rdsOK sx2.n (befG [[], [], [1], [], [], [4], [], [6], [6, 7], [], [9], [6, 7, 8, 1, 2, 0], [6, 7, 8, 1, 2, 0, 11], [6, 7, 8, 1, 2, 0, 11, 12, 9, 10, 4, 5, 3], [6, 7, 8, 1, 2, 0, 11, 12, 9, 10, 4, 5, 3, 13]]) [6, 7, 8, 1, 2, 0, 11, 12, 9, 10, 4, 5, 3, 13] [(12, (ix2, (some bx2)))] ix3 []) && (wrsOK [6, 7, 8, 1, 2, 0, 11, 12, 9, 10, 4, 5, 3, 13] ix3 [(12, (ix2, (some bx2)))])) (P.oS ⟨((sx2.h.put ix2 (some bx2)).put ix3 (some bx3)), sx2.n⟩ fun sx3 =>
   P.oV 70 (evBin T0 .sub 3 true t4 (.i .i64 5)) fun t70 =>
   P.oV 73 (evBin T0 .sub 3 true t4 (.i .i64 6)) fun t73 =>
   P.oV 75 (evBin T0 .add 92 true t41 (.i .u32 1)) fun t75 =>
   P.oV 76 (evIndex T0 9 (.s [48, 48, 48, 49, 48, 50, 48, 51, 48, 52, 48, 53, 48, 54, 48, 55, 48, 56, 48, 57, 49, 48, 49, 49, 49, 50, 49, 51, 49, 52, 49, 53, 49, 54, 49, 55, 49, 56, 49, 57, 50, 48, 50, 49, 50, 50, 50, 51, 50, 52, 50, 53, 50, 54, 50, 55, 50, 56, 50, 57, 51, 48, 51, 49, 51, 50, 51, 51, 51, 52, 51, 53, 51, 54, 51, 55, 51, 56, 51, 57, 52, 48, 52, 49, 52, 50, 52, 51, 52, 52, 52, 53, 52, 54, 52, 55, 52, 56, 52, 57, 53, 48, 53, 49, 53, 50, 53, 51, 53, 52, 53, 53, 53, 54, 53, 55, 53, 56, 53, 57, 54, 48, 54, 49, 54, 50, 54, 51, 54, 52, 54, 53, 54, 54, 54, 55, 54, 56, 54, 57, 55, 48, 55, 49, 55, 50, 55, 51, 55, 52, 55, 53, 55, 54, 55, 55, 55, 56, 55, 57, 56, 48, 56, 49, 56, 50, 56, 51, 56, 52, 56, 53, 56, 54, 56, 55, 56, 56, 56, 57, 57, 48, 57, 49, 57, 50, 57, 51, 57, 52, 57, 53, 57, 54, 57, 55, 57, 56, 57, 57]) t75) fun t76 =>
   P.oV 78 (evIndex T0 9 (.s [48, 48, 48, 49, 48, 50, 48, 51, 48, 52, 48, 53, 48, 54, 48, 55, 48, 56, 48, 57, 49, 48, 49, 49, 49, 50, 49, 51, 49, 52, 49, 53, 49, 54, 49, 55, 49, 56, 49, 57, 50, 48, 50, 49, 50, 50, 50, 51, 50, 52, 50, 53, 50, 54, 50, 55, 50, 56, 50, 57, 51, 48, 51, 49, 51, 50, 51, 51, 51, 52, 51, 53, 51, 54, 51, 55, 51, 56, 51, 57, 52, 48, 52, 49, 52, 50, 52, 51, 52, 52, 52, 53, 52, 54, 52, 55, 52, 56, 52, 57, 53, 48, 53, 49, 53, 50, 53, 51, 53, 52, 53, 53, 53, 54, 53, 55, 53, 56, 53, 57, 54, 48, 54, 49, 54, 50, 54, 51, 54, 52, 54, 53, 54, 54, 54, 55, 54, 56, 54, 57, 55, 48, 55, 49, 55, 50, 55, 51, 55, 52, 55, 53, 55, 54, 55, 55, 55, 56, 55, 57, 56, 48, 56, 49, 56, 50, 56, 51, 56, 52, 56, 53, 56, 54, 56, 55, 56, 56, 56, 57, 57, 48, 57, 49, 57, 50, 57, 51, 57, 52, 57, 53, 57, 54, 57, 55, 57, 56, 57, 57]) t41) fun t78 =>
   P.oV 79 (evIndexAddr T0 86 t0 t70) fun t79 =>
   P.oD (storeA T0 sx3.h 5 t79 t76) fun ix4 bx4 =>
   P.oT ((rdsOK sx3.n (befG [[], [], [1], [], [], [4], [], [6], [6, 7], [], [9], [6, 7, 8, 1, 2, 0], [6, 7, 8, 1, 2, 0, 11], [6, 7, 8, 1, 2, 0, 11, 12, 9, 10, 4, 5, 3], [6, 7, 8, 1, 2, 0, 11, 12, 9, 10, 4, 5, 3, 13]]) [6, 7, 8, 1, 2, 0, 11] [] ix4 []) && (wrsOK [6, 7, 8, 1, 2, 0, 11] ix4 [])) (P.oV 80 (evIndexAddr T0 86 t0 t73) fun t80 =>
   P.oT (readOK sx3.n [6, 7, 8, 1, 2, 0, 11, 12, 9, 10, 4, 5, 3, 13] [(12, (ix4, (some bx4)))] [(12, (ix4, (some bx4)))]) (P.oD (storeA T0 (sx3.h.put ix4 (some bx4)) 5 t80 t78) fun ix5 bx5 =>
   P.oT ((rdsOK sx3.n (befG [[], [], [1], [], [], [4], [], [6], [6, 7], [], [9], [6, 7, 8, 1, 2, 0], [6, 7, 8, 1, 2, 0, 11], [6, 7, 8, 1, 2, 0, 11, 12, 9, 10, 4, 5, 3], [6, 7, 8, 1, 2, 0, 11, 12, 9, 10, 4, 5, 3, 13]]) [6, 7, 8, 1, 2, 0, 11, 12, 9, 10, 4, 5, 3, 13] [(12, (ix4, (some bx4)))] ix5 []) && (wrsOK [6, 7, 8, 1, 2, 0, 11, 12, 9, 10, 4, 5, 3, 13] ix5 [(12, (ix4, (some bx4)))])) (P.oS ⟨((sx3.h.put ix4 (some bx4)).put ix5 (some bx5)), sx3.n⟩ fun sx4 =>
   P.oV 83 (evBin T0 .sub 3 true t4 (.i .i64 7)) fun t83 =>
   P.oV 86 (evBin T0 .sub 3 true t4 (.i .i64 8)) fun t86 =>
   P.oV 88 (evBin T0 .add 92 true t38 (.i .u32 1)) fun t88 =>
   P.oV 89 (evIndex T0 9 (.s [48, 48, 48, 49, 48, 50, 48, 51, 48, 52, 48, 53, 48, 54, 48, 55, 48, 56, 48, 57, 49, 48, 49, 49, 49, 50, 49, 51, 49, 52, 49, 53, 49, 54, 49, 55, 49, 56, 49, 57, 50, 48, 50, 49, 50, 50, 50, 51, 50, 52, 50, 53, 50, 54, 50, 55, 50, 56, 50, 57, 51, 48, 51, 49, 51, 50, 51, 51, 51, 52, 51, 53, 51, 54, 51, 55, 51, 56, 51, 57, 52, 48, 52, 49, 52, 50, 52, 51, 52, 52, 52, 53, 52, 54, 52, 55, 52, 56, 52, 57, 53, 48, 53, 49, 53, 50, 53, 51, 53, 52, 53, 53, 53, 54, 53, 55, 53, 56, 53, 57, 54, 48, 54, 49, 54, 50, 54, 51, 54, 52, 54, 53, 54, 54, 54, 55, 54, 56, 54, 57, 55, 48, 55, 49, 55, 50, 55, 51, 55, 52, 55, 53, 55, 54, 55, 55, 55, 56, 55, 57, 56, 48, 56, 49, 56, 50, 56, 51, 56, 52, 56, 53, 56, 54, 56, 55, 56, 56, 56, 57, 57, 48, 57, 49, 57, 50, 57, 51, 57, 52, 57, 53, 57, 54, 57, 55, 57, 56, 57, 57]) t88) fun t89 =>
   P.oV 91 (evIndex T0 9 (.s [48, 48, 48, 49, 48, 50, 48, 51, 48, 52, 48, 53, 48, 54, 48, 55, 48, 56, 48, 57, 49, 48, 49, 49, 49, 50, 49, 51, 49, 52, 49, 53, 49, 54, 49, 55, 49, 56, 49, 57, 50, 48, 50, 49, 50, 50, 50, 51, 50, 52, 50, 53, 50, 54, 50, 55, 50, 56, 50, 57, 51, 48, 51, 49, 51, 50, 51, 51, 51, 52, 51, 53, 51, 54, 51, 55, 51, 56, 51, 57, 52, 48, 52, 49, 52, 50, 52, 51, 52, 52, 52, 53, 52, 54, 52, 55, 52, 56, 52, 57, 53, 48, 53, 49, 53, 50, 53, 51, 53, 52, 53, 53, 53, 54, 53, 55, 53, 56, 53, 57, 54, 48, 54, 49, 54, 50, 54, 51, 54, 52, 54, 53, 54, 54, 54, 55, 54, 56, 54, 57, 55, 48, 55, 49, 55, 50, 55, 51, 55, 52, 55, 53, 55, 54, 55, 55, 55, 56, 55, 57, 56, 48, 56, 49, 56, 50, 56, 51, 56, 52, 56, 53, 56, 54, 56, 55, 56, 56, 56, 57, 57, 48, 57, 49, 57, 50, 57, 51, 57, 52, 57, 53, 57, 54, 57, 55, 57, 56, 57, 57]) t38) fun t91 =>
   P.oV 92 (evIndexAddr T0 86 t0 t83) fun t92 =>
   P.oD (storeA T0 sx4.h 5 t92 t89) fun ix6 bx6 =>
   P.oT ((rdsOK sx4.n (befG [[], [], [1], [], [], [4], [], [6], [6, 7], [], [9], [6, 7, 8, 1, 2, 0], [6, 7, 8, 1, 2, 0, 11], [6, 7, 8, 1, 2, 0, 11, 12, 9, 10, 4, 5, 3], [6, 7, 8, 1, 2, 0, 11, 12, 9, 10, 4, 5, 3, 13]]) [6, 7, 8, 1, 2, 0, 11] [] ix6 []) && (wrsOK [6, 7, 8, 1, 2, 0, 11] ix6 [])) (P.oV 93 (evIndexAddr T0 86 t0 t86) fun t93 =>
   P.oT (readOK sx4.n [6, 7, 8, 1, 2, 0, 11, 12, 9, 10, 4, 5, 3, 13] [(12, (ix6, (some bx6)))] [(12, (ix6, (some bx6)))]) (P.oD (storeA T0 (sx4.h.put ix6 (some bx6)) 5 t93 t91) fun ix7 bx7 =>
   P.oT ((rdsOK sx4.n (befG [[], [], [1], [], [], [4], [], [6], [6, 7], [], [9], [6, 7, 8, 1, 2, 0], [6, 7, 8, 1, 2, 0, 11], [6, 7, 8, 1, 2, 0, 11, 12, 9, 10, 4, 5, 3], [6, 7, 8, 1, 2, 0, 11, 12, 9, 10, 4, 5, 3, 13]]) [6, 7, 8, 1, 2, 0, 11, 12, 9, 10, 4, 5, 3, 13] [(12, (ix6, (some bx6)))] ix7 []) && (wrsOK [6, 7, 8, 1, 2, 0, 11, 12, 9, 10, 4, 5, 3, 13] ix7 [(12, (ix6, (some bx6)))])) (P.oS ⟨((sx4.h.put ix6 (some bx6)).put ix7 (some bx7)), sx4.n⟩ fun sx5 =>
   P.oV 95 (evBin T0 .sub 3 true t4 (.i .i64 8)) fun t95 =>
   next t0 t95 t25 sx5)))))))))))))
  (P.oV 97 (evConv T0 sx1.h 63 92 t1) fun t97 =>
   P.oJ [12, 0, 4] (fun (k : C3) =>
    P.oV 99 (evBin T0 .geq 3 true t4 (.i .i64 4)) fun t99 =>
    P.oI t99 (P.oV 101 (evBin T0 .rem 92 true t97 (.i .u32 10000)) fun t101 =>
     P.oV 103 (evBin T0 .quo 92 true t97 (.i .u32 10000)) fun t103 =>
     P.oV 105 (evBin T0 .quo 92 true t101 (.i .u32 100)) fun t105 =>
     P.oV 106 (evBin T0 .mul 92 true t105 (.i .u32 2)) fun t106 =>
     P.oV 108 (evBin T0 .rem 92 true t101 (.i .u32 100)) fun t108 =>
     P.oV 109 (evBin T0 .mul 92 true t108 (.i .u32 2)) fun t109 =>
     P.oV 112 (evBin T0 .sub 3 true t4 (.i .i64 1)) fun t112 =>
     P.oV 115 (evBin T0 .sub 3 true t4 (.i .i64 2)) fun t115 =>
     P.oV 117 (evBin T0 .add 92 true t109 (.i .u32 1)) fun t117 =>
     P.oV 118 (evIndex T0 9 (.s [48, 48, 48, 49, 48, 50, 48, 51, 48, 52, 48, 53, 48, 54, 48, 55, 48, 56, 48, 57, 49, 48, 49, 49, 49, 50, 49, 51, 49, 52, 49, 53, 49, 54, 49, 55, 49, 56, 49, 57, 50, 48, 50, 49, 50, 50, 50, 51, 50, 52, 50, 53, 50, 54, 50, 55, 50, 56, 50, 57, 51, 48, 51, 49, 51, 50, 51, 51, 51, 52, 51, 53, 51, 54, 51, 55, 51, 56, 51, 57, 52, 48, 52, 49, 52, 50, 52, 51, 52, 52, 52, 53, 52, 54, 52, 55, 52, 56, 52, 57, 53, 48, 53, 49, 53, 50, 53, 51, 53, 52, 53, 53, 53, 54, 53, 55, 53, 56, 53, 57, 54, 48, 54, 49, 54, 50, 54, 51, 54, 52, 54, 53, 54, 54, 54, 55, 54, 56, 54, 57, 55, 48, 55, 49, 55, 50, 55, 51, 55, 52, 55, 53, 55, 54, 55, 55, 55, 56, 55, 57, 56, 48, 56, 49, 56, 50, 56, 51, 56, 52, 56, 53, 56, 54, 56, 55, 56, 56, 56, 57, 57, 48, 57, 49, 57, 50, 57, 51, 57, 52, 57, 53, 57, 54, 57, 55, 57, 56, 57, 57]) t117) fun t118 =>
     P.oV 120 (evIndex T0 9 (.s [48, 48, 48, 49, 48, 50, 48, 51, 48, 52, 48, 53, 48, 54, 48, 55, 48, 56, 48, 57, 49, 48, 49, 49, 49, 50, 49, 51, 49, 52, 49, 53, 49, 54, 49, 55, 49, 56, 49, 57, 50, 48, 50, 49, 50, 50, 50, 51, 50, 52, 50, 53, 50, 54, 50, 55, 50, 56, 50, 57, 51, 48, 51, 49, 51, 50, 51, 51, 51, 52, 51, 53, 51, 54, 51, 55, 51, 56, 51, 57, 52, 48, 52, 49, 52, 50, 52, 51, 52, 52, 52, 53, 52, 54, 52, 55, 52, 56, 52, 57, 53, 48, 53, 49, 53, 50, 53, 51, 53, 52, 53, 53, 53, 54, 53, 55, 53, 56, 53, 57, 54, 48, 54, 49, 54, 50, 54, 51, 54, 52, 54, 53, 54, 54, 54, 55, 54, 56, 54, 57, 55, 48, 55, 49, 55, 50, 55, 51, 55, 52, 55, 53, 55, 54, 55, 55, 55, 56, 55, 57, 56, 48, 56, 49, 56, 50, 56, 51, 56, 52, 56, 53, 56, 54, 56, 55, 56, 56, 56, 57, 57, 48, 57, 49, 57, 50, 57, 51, 57, 52, 57, 53, 57, 54, 57, 55, 57, 56, 57, 57]) t109) fun t120 =>
     P.oV 121 (evIndexAddr T0 86 t0 t112) fun t121 =>
     P.oD (storeA T0 sx1.h 5 t121 t118) fun i b =>
     P.oT ((rdsOK sx1.n (befG [[], [], [1], [], [], [4], [], [6], [6, 7], [], [9], [6, 7, 8, 1, 2, 0], [6, 7, 8, 1, 2, 0, 11], [6, 7, 8, 1, 2, 0, 11, 12, 9, 10, 4, 5, 3], [6, 7, 8, 1, 2, 0, 11, 12, 9, 10, 4, 5, 3, 13]]) [6, 7, 8, 1, 2, 0, 11] [] i []) && (wrsOK [6, 7, 8, 1, 2, 0, 11] i [])) (P.oV 122 (evIndexAddr T0 86 t0 t115) fun t122 =>
     P.oT (readOK sx1.n [6, 7, 8, 1, 2, 0, 11, 12, 9, 10, 4, 5, 3, 13] [(12, (i, (some b)))] [(12, (i, (some b)))]) (P.oD (storeA T0 (sx1.h.put i (some b)) 5 t122 t120) fun ix1 bx1 =>
     P.oT ((rdsOK sx1.n (befG [[], [], [1], [], [], [4], [], [6], [6, 7], [], [9], [6, 7, 8, 1, 2, 0], [6, 7, 8, 1, 2, 0, 11], [6, 7, 8, 1, 2, 0, 11, 12, 9, 10, 4, 5, 3], [6, 7, 8, 1, 2, 0, 11, 12, 9, 10, 4, 5, 3, 13]]) [6, 7, 8, 1, 2, 0, 11, 12, 9, 10, 4, 5, 3, 13] [(12, (i, (some b)))] ix1 []) && (wrsOK [6, 7, 8, 1, 2, 0, 11, 12, 9, 10, 4, 5, 3, 13] ix1 [(12, (i, (some b)))])) (P.oS ⟨((sx1.h.put i (some b)).put ix1 (some bx1)), sx1.n⟩ fun sx2 =>
     P.oV 125 (evBin T0 .sub 3 true t4 (.i .i64 3)) fun t125 =>
     P.oV 128 (evBin T0 .sub 3 true t4 (.i .i64 4)) fun t128 =>
     P.oV 130 (evBin T0 .add 92 true t106 (.i .u32 1)) fun t130 =>
     P.oV 131 (evIndex T0 9 (.s [48, 48, 48, 49, 48, 50, 48, 51, 48, 52, 48, 53, 48, 54, 48, 55, 48, 56, 48, 57, 49, 48, 49, 49, 49, 50, 49, 51, 49, 52, 49, 53, 49, 54, 49, 55, 49, 56, 49, 57, 50, 48, 50, 49, 50, 50, 50, 51, 50, 52, 50, 53, 50, 54, 50, 55, 50, 56, 50, 57, 51, 48, 51, 49, 51, 50, 51, 51, 51, 52, 51, 53, 51, 54, 51, 55, 51, 56, 51, 57, 52, 48, 52, 49, 52, 50, 52, 51, 52, 52, 52, 53, 52, 54, 52, 55, 52, 56, 52, 57, 53, 48, 53, 49, 53, 50, 53, 51, 53, 52, 53, 53, 53, 54, 53, 55, 53, 56, 53, 57, 54, 48, 54, 49, 54, 50, 54, 51, 54, 52, 54, 53, 54, 54, 54, 55, 54, 56, 54, 57, 55, 48, 55, 49, 55, 50, 55, 51, 55, 52, 55, 53, 55, 54, 55, 55, 55, 56, 55, 57, 56, 48, 56, 49, 56, 50, 56, 51, 56, 52, 56, 53, 56, 54, 56, 55, 56, 56, 56, 57, 57, 48, 57, 49, 57, 50, 57, 51, 57, 52, 57, 53, 57, 54, 57, 55, 57, 56, 57, 57]) t130) fun t131 =>
     P.oV 133 (evIndex T0 9 (.s [48, 48, 48, 49, 48, 50, 48, 51, 48, 52, 48, 53, 48, 54, 48, 55, 48, 56, 48, 57, 49, 48, 49, 49, 49, 50, 49, 51, 49, 52, 49, 53, 49, 54, 49, 55, 49, 56, 49, 57, 50, 48, 50, 49, 50, 50, 50, 51, 50, 52, 50, 53, 50, 54, 50, 55, 50, 56, 50, 57, 51, 48, 51, 49, 51, 50, 51, 51, 51, 52, 51, 53, 51, 54, 51, 55, 51, 56, 51, 57, 52, 48, 52, 49, 52, 50, 52, 51, 52, 52, 52, 53, 52, 54, 52, 55, 52, 56, 52, 57, 53, 48, 53, 49, 53, 50, 53, 51, 53, 52, 53, 53, 53, 54, 53, 55, 53, 56, 53, 57, 54, 48, 54, 49, 54, 50, 54, 51, 54, 52, 54, 53, 54, 54, 54, 55, 54, 56, 54, 57, 55, 48, 55, 49, 55, 50, 55, 51, 55, 52, 55, 53, 55, 54, 55, 55, 55, 56, 55, 57, 56, 48, 56, 49, 56, 50, 56, 51, 56, 52, 56, 53, 56, 54, 56, 55, 56, 56, 56, 57, 57, 48, 57, 49, 57, 50, 57, 51, 57, 52, 57, 53, 57, 54, 57, 55, 57, 56, 57, 57]) t106) fun t133 =>
     P.oV 134 (evIndexAddr T0 86 t0 t125) fun t134 =>
     P.oD (storeA T0 sx2.h 5 t134 t131) fun ix2 bx2 =>
     P.oT ((rdsOK sx2.n (befG [[], [], [1], [], [], [4], [], [6], [6, 7], [], [9], [6, 7, 8, 1, 2, 0], [6, 7, 8, 1, 2, 0, 11], [6, 7, 8, 1, 2, 0, 11, 12, 9, 10, 4, 5, 3], [6, 7, 8, 1, 2, 0, 11, 12, 9, 10, 4, 5, 3, 13]]) [6, 7, 8, 1, 2, 0, 11] [] ix2 []) && (wrsOK [6, 7, 8, 1, 2, 0, 11] ix2 [])) (P.oV 135 (evIndexAddr T0 86 t0 t128) fun t135 =>
     P.oT (readOK sx2.n [6, 7, 8, 1, 2, 0, 11, 12, 9, 10, 4, 5, 3, 13] [(12, (ix2, (some bx2)))] [(12, (ix2, (some bx2)))]) (P.oD (storeA T0 (sx2.h.put ix2 (some bx2)) 5 t135 t133) fun ix3 bx3 =>
     P.oT ((rdsOK sx2.n (befG [[], [], [1], [], [], [4], [], [6], [6, 7], [], [9], [6, 7, 8, 1, 2, 0], [6, 7, 8, 1, 2, 0, 11], [6, 7, 8, 1, 2, 0, 11, 12, 9, 10, 4, 5, 3], [6, 7, 8, 1, 2, 0, 11, 12, 9, 10, 4, 5, 3, 13]]) [6, 7, 8, 1, 2, 0, 11, 12, 9, 10, 4, 5, 3, 13] [(12, (ix2, (some bx2)))] ix3 []) && (wrsOK [6, 7, 8, 1, 2, 0, 11, 12, 9, 10, 4, 5, 3, 13] ix3 [(12, (ix2, (some bx2)))])) (P.oS ⟨((sx2.h.put ix2 (some bx2)).put ix3 (some bx3)), sx2.n⟩ fun sx3 =>
     P.oV 137 (evBin T0 .sub 3 true t4 (.i .i64 4)) fun t137 =>
     k t103 t0 t137 sx3)))))))
    (k t97 t0 t4 sx1))
   (fun t12 t0x1 t4x1 sx2 =>
   P.oJ [12, 0, 4] (fun (k : C3) =>
    P.oV 139 (evBin T0 .geq 3 true t4x1 (.i .i64 2)) fun t139 =>
    P.oI t139 (P.oV 141 (evBin T0 .rem 92 true t12 (.i .u32 100)) fun t141 =>
     P.oV 142 (evBin T0 .mul 92 true t141 (.i .u32 2)) fun t142 =>
     P.oV 144 (evBin T0 .quo 92 true t12 (.i .u32 100)) fun t144 =>
     P.oV 147 (evBin T0 .sub 3 true t4x1 (.i .i64 1)) fun t147 =>
     P.oV 150 (evBin T0 .sub 3 true t4x1 (.i .i64 2)) fun t150 =>
     P.oV 152 (evBin T0 .add 92 true t142 (.i .u32 1)) fun t152 =>
     P.oV 153 (evIndex T0 9 (.s [48, 48, 48, 49, 48, 50, 48, 51, 48, 52, 48, 53, 48, 54, 48, 55, 48, 56, 48, 57, 49, 48, 49, 49, 49, 50, 49, 51, 49, 52, 49, 53, 49, 54, 49, 55, 49, 56, 49, 57, 50, 48, 50, 49, 50, 50, 50, 51, 50, 52, 50, 53, 50, 54, 50, 55, 50, 56, 50, 57, 51, 48, 51, 49, 51, 50, 51, 51, 51, 52, 51, 53, 51, 54, 51, 55, 51, 56, 51, 57, 52, 48, 52, 49, 52, 50, 52, 51, 52, 52, 52, 53, 52, 54, 52, 55, 52, 56, 52, 57, 53, 48, 53, 49, 53, 50, 53, 51, 53, 52, 53, 53, 53, 54, 53, 55, 53, 56, 53, 57, 54, 48, 54, 49, 54, 50, 54, 51, 54, 52, 54, 53, 54, 54, 54, 55, 54, 56, 54, 57, 55, 48, 55, 49, 55, 50, 55, 51, 55, 52, 55, 53, 55, 54, 55, 55, 55, 56, 55, 57, 56, 48, 56, 49, 56, 50, 56, 51, 56, 52, 56, 53, 56, 54, 56, 55, 56, 56, 56, 57, 57, 48, 57, 49, 57, 50, 57, 51, 57, 52, 57, 53, 57, 54, 57, 55, 57, 56, 57, 57]) t152) fun t153 =>
     P.oV 155 (evIndex T0 9 (.s [48, 48, 48, 49, 48, 50, 48, 51, 48, 52, 48, 53, 48, 54, 48, 55, 48, 56, 48, 57, 49, 48, 49, 49, 49, 50, 49, 51, 49, 52, 49, 53, 49, 54, 49, 55, 49, 56, 49, 57, 50, 48, 50, 49, 50, 50, 50, 51, 50, 52, 50, 53, 50, 54, 50, 55, 50, 56, 50, 57, 51, 48, 51, 49, 51, 50, 51, 51, 51, 52, 51, 53, 51, 54, 51, 55, 51, 56, 51, 57, 52, 48, 52, 49, 52, 50, 52, 51, 52, 52, 52, 53, 52, 54, 52, 55, 52, 56, 52, 57, 53, 48, 53, 49, 53, 50, 53, 51, 53, 52, 53, 53, 53, 54, 53, 55, 53, 56, 53, 57, 54, 48, 54, 49, 54, 50, 54, 51, 54, 52, 54, 53, 54, 54, 54, 55, 54, 56, 54, 57, 55, 48, 55, 49, 55, 50, 55, 51, 55, 52, 55, 53, 55, 54, 55, 55, 55, 56, 55, 57, 56, 48, 56, 49, 56, 50, 56, 51, 56, 52, 56, 53, 56, 54, 56, 55, 56, 56, 56, 57, 57, 48, 57, 49, 57, 50, 57, 51, 57, 52, 57, 53, 57, 54, 57, 55, 57, 56, 57, 57]) t142) fun t155 =>
     P.oV 156 (evIndexAddr T0 86 t0x1 t147) fun t156 =>
     P.oD (storeA T0 sx2.h 5 t156 t153) fun i b =>
     P.oT ((rdsOK sx2.n (befG [[], [], [1], [], [], [4], [], [6], [6, 7], [], [9], [6, 7, 8, 1, 2, 0], [6, 7, 8, 1, 2, 0, 11], [6, 7, 8, 1, 2, 0, 11, 12, 9, 10, 4, 5, 3], [6, 7, 8, 1, 2, 0, 11, 12, 9, 10, 4, 5, 3, 13]]) [6, 7, 8, 1, 2, 0, 11] [] i []) && (wrsOK [6, 7, 8, 1, 2, 0, 11] i [])) (P.oV 157 (evIndexAddr T0 86 t0x1 t150) fun t157 =>
     P.oT (readOK sx2.n [6, 7, 8, 1, 2, 0, 11, 12, 9, 10, 4, 5, 3, 13] [(12, (i, (some b)))] [(12, (i, (some b)))]) (P.oD (storeA T0 (sx2.h.put i (some b)) 5 t157 t155) fun ix1 bx1 =>
     P.oT ((rdsOK sx2.n (befG [[], [], [1], [], [], [4], [], [6], [6, 7], [], [9], [6, 7, 8, 1, 2, 0], [6, 7, 8, 1, 2, 0, 11], [6, 7, 8, 1, 2, 0, 11, 12, 9, 10, 4, 5, 3], [6, 7, 8, 1, 2, 0, 11, 12, 9, 10, 4, 5, 3, 13]]) [6, 7, 8, 1, 2, 0, 11, 12, 9, 10, 4, 5, 3, 13] [(12, (i, (some b)))] ix1 []) && (wrsOK [6, 7, 8, 1, 2, 0, 11, 12, 9, 10, 4, 5, 3, 13] ix1 [(12, (i, (some b)))])) (P.oS ⟨((sx2.h.put i (some b)).put ix1 (some bx1)), sx2.n⟩ fun sx3 =>
     P.oV 159 (evBin T0 .sub 3 true t4x1 (.i .i64 2)) fun t159 =>
     k t144 t0x1 t159 sx3))))
    (k t12 t0x1 t4x1 sx2))
   (fun t12x1 t0x2 t4x2 sx3 =>
   P.oV 161 (evBin T0 .gtr 3 true t4x2 (.i .i64 0)) fun t161 =>
   P.oI t161 (P.oV 164 (evBin T0 .add 92 true (.i .u32 48) t12x1) fun t164 =>
    P.oV 165 (evConv T0 sx3.h 92 5 t164) fun t165 =>
    P.oV 166 (evIndexAddr T0 86 t0x2 (.i .i64 0)) fun t166 =>
    P.oH (evStore T0 sx3.h 5 t166 t165) sx3 fun sx4 =>
    Q (.tup []) sx4)
   (Q (.tup []) sx3))))) a0 t18 a1 ⟨Tr.nil, 0⟩
theorem w40_eq (P : Prims) (a0 a1 : AV) (Q : AV → AS → Prop) : w40 P a0 a1 Q = vcBody P T0 Go.Proofs.Tryd.f40 (codeOf Go.Proofs.Tryd.f40) an40 [a0, a1] ⟨.nil, 0⟩ Q := by kernel_rfl
theorem r40 (a0 a1 : AV) {r : AV} (hi : AV.idfree.idfrees [a0, a1] = true) (hn : AV.norm.norms [a0, a1] = [a0, a1]) (h : w40 (prims T0) a0 a1 (fun r1 s1 => oZ T0 s1 r1 (fun r2 => r2 = r))) : R T0 40 [a0, a1] r :=
  R.mk (by kernel_rfl) (by kernel_rfl) (show T0.fn 40 = some Go.Proofs.Tryd.f40 by kernel_rfl) (by kernel_rfl) (by kernel_rfl) hi hn (by rw [w40_eq] at h; exact h)
/- internal/strconv.formatBits -/
def an41 : AN := (.seq none .leaf (.seq (some [10, 11, 0, 4, 3, 1, 2]) (.seq none .leaf (.two .leaf .leaf)) (.seq none .leaf (.seq none .leaf (.seq (some [10, 12, 11, 0, 4, 3, 1, 13, 2]) (.seq none .leaf (.two .leaf .leaf)) (.seq (some [10, 12, 13, 11, 0, 4, 3]) (.seq none .leaf (.two (.seq none .leaf (.seq none .leaf (.seq none .leaf (.seq none (.one (.loop [10, 12, 11, 0, 4, 3, 1, 13, 14, 16, 15] (.seq none (.seq none .leaf (.two .leaf .leaf)) (.one (.seq none .leaf (.seq none .leaf .leaf)))))) (.seq none .leaf .leaf))))) (.seq none .leaf (.seq none (.one (.loop [10, 12, 11, 0, 4, 3, 1, 13, 17] (.seq none (.seq none .leaf (.two .leaf .leaf)) (.one (.seq none .leaf (.seq none .leaf (.seq none .leaf .leaf))))))) (.seq none .leaf .leaf))))) (.seq (some [10, 12, 13, 11, 0, 4]) (.seq none .leaf (.two (.seq none .leaf .leaf) .leaf)) (.seq none (.seq none .leaf (.two (.seq none .leaf .leaf) .leaf)) (.seq none .leaf .leaf)))))))))
def w41 (P : Prims) (a0 a1 a2 a3 a4 : AV) (Q : AV → AS → Prop) : Prop :=
  P.oJ [10, 11, 0, 4, 3, 1, 2] (fun (k : C7) =>
   P.oV 20 (evBin T0 .lss 3 true a2 (.i .i64 2)) fun t20 =>
   P.oG [22, 23] t20 false (fun (kx1 : C2) => P.oV 23 (evBin T0 .eql 3 true a2 (.i .i64 10)) fun t23 =>
    kx1 a2 t23 ⟨Tr.nil, 0⟩) ⟨Tr.nil, 0⟩ fun t22 t23 sx1 =>
   P.oV 24 (evPick t20 (some (.b true)) (some t23)) fun t24 =>
   P.oG [26, 27] t24 false (fun (kx1 : C2) => P.oV 27 (evBin T0 .gtr 3 true a2 (.i .i64 36)) fun t27 =>
    kx1 a2 t27 sx1) sx1 fun t26 t27 sx2 =>
   P.oV 28 (evPick t24 (some (.b true)) (some t27)) fun t28 =>
   P.oI t28 (False)
   (k (.nilz true) (.s []) a0 a4 a3 a1 a2 sx2))
  (fun t10 t11 t0 t4 t3 t1 t2 sx1 =>
  P.oN 12 (.cells [(.i .u8 0), (.i .u8 0), (.i .u8 0), (.i .u8 0), (.i .u8 0), (.i .u8 0), (.i .u8 0), (.i .u8 0), (.i .u8 0), (.i .u8 0), (.i .u8 0), (.i .u8 0), (.i .u8 0), (.i .u8 0), (.i .u8 0), (.i .u8 0), (.i .u8 0), (.i .u8 0), (.i .u8 0), (.i .u8 0), (.i .u8 0), (.i .u8 0), (.i .u8 0), (.i .u8 0), (.i .u8 0), (.i .u8 0), (.i .u8 0), (.i .u8 0), (.i .u8 0), (.i .u8 0), (.i .u8 0), (.i .u8 0), (.i .u8 0), (.i .u8 0), (.i .u8 0), (.i .u8 0), (.i .u8 0), (.i .u8 0), (.i .u8 0), (.i .u8 0), (.i .u8 0), (.i .u8 0), (.i .u8 0), (.i .u8 0), (.i .u8 0), (.i .u8 0), (.i .u8 0), (.i .u8 0), (.i .u8 0), (.i .u8 0), (.i .u8 0), (.i .u8 0), (.i .u8 0), (.i .u8 0), (.i .u8 0), (.i .u8 0), (.i .u8 0), (.i .u8 0), (.i .u8 0), (.i .u8 0), (.i .u8 0), (.i .u8 0), (.i .u8 0), (.i .u8 0), (.i .u8 0)] 93 false) (fun id => (.ptr id 0)) sx1 fun t12 sx2 =>
  P.oJ [10, 12, 11, 0, 4, 3, 1, 13, 2] (fun (k : C9) =>
   P.oI t3 (P.oV 32 (evUn .neg t1) fun t32 =>
    k t10 t12 t11 t0 t4 t3 t32 (.i .i64 65) t2 sx2)
   (k t10 t12 t11 t0 t4 t3 t1 (.i .i64 65) t2 sx2))
  (fun t10x1 t12x1 t11x1 t0x1 t4x1 t3x1 t1x1 t13 t2x1 sx3 =>
  P.oJ [10, 12, 13, 11, 0, 4, 3] (fun (k : C7) =>
   P.oC 34 45 [t2x1] sx3 fun t34 sx4 =>
   P.oI t34 (P.oV 36 (evConv T0 sx4.h 3 95 t2x1) fun t36 =>
    P.oC 37 46 [t36] sx4 fun t37 sx5 =>
    P.oV 38 (evConv T0 sx5.h 3 95 t37) fun t38 =>
    P.oV 40 (evConv T0 sx5.h 3 63 t2x1) fun t40 =>
    P.oV 42 (evConv T0 sx5.h 3 95 t2x1) fun t42 =>
    P.oV 43 (evBin T0 .sub 95 true t42 (.i .u64 1)) fun t43 =>
    P.oL [10, 12, 11, 0, 4, 3, 1, 13, 14, 16, 15] (fun (next : C11) t10x2 t12x2 t11x2 t0x2 t4x2 t3x2 t1x2 t13x1 t14 t16 t15 sx6 =>
    P.oV 46 (evBin T0 .geq 63 false t1x2 t15) fun t46 =>
    P.oI t46 (P.oV 48 (evBin T0 .sub 3 true t13x1 (.i .i64 1)) fun t48 =>
     P.oV 52 (evBin T0 .and 95 false t1x2 t16) fun t52 =>
     P.oV 53 (evIndex T0 9 (.s [48, 49, 50, 51, 52, 53, 54, 55, 56, 57, 97, 98, 99, 100, 101, 102, 103, 104, 105, 106, 107, 108, 109, 110, 111, 112, 113, 114, 115, 116, 117, 118, 119, 120, 121, 122]) t52) fun t53 =>
     P.oV 54 (evIndexAddr T0 93 t12x2 t48) fun t54 =>
     P.oH (evStore T0 sx6.h 5 t54 t53) sx6 fun sx7 =>
     P.oV 57 (evBin T0 .shr 63 false t1x2 t14) fun t57 =>
     next t10x2 t12x2 t11x2 t0x2 t4x2 t3x2 t57 t48 t14 t16 t15 sx7)
    (P.oV 59 (evBin T0 .sub 3 true t13x1 (.i .i64 1)) fun t59 =>
     P.oV 62 (evIndex T0 9 (.s [48, 49, 50, 51, 52, 53, 54, 55, 56, 57, 97, 98, 99, 100, 101, 102, 103, 104, 105, 106, 107, 108, 109, 110, 111, 112, 113, 114, 115, 116, 117, 118, 119, 120, 121, 122]) t1x2) fun t62 =>
     P.oV 63 (evIndexAddr T0 93 t12x2 t59) fun t63 =>
     P.oH (evStore T0 sx6.h 5 t63 t62) sx6 fun sx7 =>
     k t10x2 t12x2 t59 t11x2 t0x2 t4x2 t3x2 sx7)) t10x1 t12x1 t11x1 t0x1 t4x1 t3x1 t1x1 t13 t38 t43 t40 sx5)
   (P.oV 65 (evConv T0 sx4.h 3 63 t2x1) fun t65 =>
    P.oL [10, 12, 11, 0, 4, 3, 1, 13, 17] (fun (next : C9) t10x2 t12x2 t11x2 t0x2 t4x2 t3x2 t1x2 t13x1 t17 sx5 =>
    P.oV 68 (evBin T0 .geq 63 false t1x2 t17) fun t68 =>
    P.oI t68 (P.oV 70 (evBin T0 .sub 3 true t13x1 (.i .i64 1)) fun t70 =>
     P.oV 73 (evBin T0 .quo 63 false t1x2 t17) fun t73 =>
     P.oV 78 (evBin T0 .mul 63 false t73 t17) fun t78 =>
     P.oV 79 (evBin T0 .sub 63 false t1x2 t78) fun t79 =>
     P.oV 80 (evIndex T0 9 (.s [48, 49, 50, 51, 52, 53, 54, 55, 56, 57, 97, 98, 99, 100, 101, 102, 103, 104, 105, 106, 107, 108, 109, 110, 111, 112, 113, 114, 115, 116, 117, 118, 119, 120, 121, 122]) t79) fun t80 =>
     P.oV 81 (evIndexAddr T0 93 t12x2 t70) fun t81 =>
     P.oH (evStore T0 sx5.h 5 t81 t80) sx5 fun sx6 =>
     next t10x2 t12x2 t11x2 t0x2 t4x2 t3x2 t73 t70 t17 sx6)
    (P.oV 84 (evBin T0 .sub 3 true t13x1 (.i .i64 1)) fun t84 =>
     P.oV 87 (evIndex T0 9 (.s [48, 49, 50, 51, 52, 53, 54, 55, 56, 57, 97, 98, 99, 100, 101, 102, 103, 104, 105, 106, 107, 108, 109, 110, 111, 112, 113, 114, 115, 116, 117, 118, 119, 120, 121, 122]) t1x2) fun t87 =>
     P.oV 88 (evIndexAddr T0 93 t12x2 t84) fun t88 =>
     P.oH (evStore T0 sx5.h 5 t88 t87) sx5 fun sx6 =>
     k t10x2 t12x2 t84 t11x2 t0x2 t4x2 t3x2 sx6)) t10x1 t12x1 t11x1 t0x1 t4x1 t3x1 t1x1 t13 t65 sx4))
  (fun t10x2 t12x2 t13x1 t11x2 t0x2 t4x2 t3x2 sx4 =>
  P.oJ [10, 12, 13, 11, 0, 4] (fun (k : C6) =>
   P.oI t3x2 (P.oV 91 (evBin T0 .sub 3 true t13x1 (.i .i64 1)) fun t91 =>
    P.oV 93 (evIndexAddr T0 93 t12x2 t91) fun t93 =>
    P.oH (evStore T0 sx4.h 5 t93 (.i .u8 45)) sx4 fun sx5 =>
    k t10x2 t12x2 t91 t11x2 t0x2 t4x2 sx5)
   (k t10x2 t12x2 t13x1 t11x2 t0x2 t4x2 sx4))
  (fun t10x3 t12x3 t13x2 t11x3 t0x3 t4x3 sx5 =>
  P.oI t4x3 (P.oV 97 (evSlice T0 93 t12x3 (some t13x2) none none) fun t97 =>
   P.oM 98 (evAppend T0 sx5 86 86 t0x3 t97) fun t98 sx6 =>
   Q (.tup [t98, t11x3]) sx6)
  (P.oV 100 (evSlice T0 93 t12x3 (some t13x2) none none) fun t100 =>
   P.oV 101 (evConv T0 sx5.h 86 9 t100) fun t101 =>
   Q (.tup [t10x3, t101]) sx5)))))
theorem w41_eq (P : Prims) (a0 a1 a2 a3 a4 : AV) (Q : AV → AS → Prop) : w41 P a0 a1 a2 a3 a4 Q = vcBody P T0 Go.Proofs.Tryd.f41 (codeOf Go.Proofs.Tryd.f41) an41 [a0, a1, a2, a3, a4] ⟨.nil, 0⟩ Q := by kernel_rfl
theorem r41 (a0 a1 a2 a3 a4 : AV) {r : AV} (hi : AV.idfree.idfrees [a0, a1, a2, a3, a4] = true) (hn : AV.norm.norms [a0, a1, a2, a3, a4] = [a0, a1, a2, a3, a4]) (h : w41 (prims T0) a0 a1 a2 a3 a4 (fun r1 s1 => oZ T0 s1 r1 (fun r2 => r2 = r))) : R T0 41 [a0, a1, a2, a3, a4] r :=
  R.mk (by kernel_rfl) (by kernel_rfl) (show T0.fn 41 = some Go.Proofs.Tryd.f41 by kernel_rfl) (by kernel_rfl) (by kernel_rfl) hi hn (by rw [w41_eq] at h; exact h)
/- internal/strconv.log10Pow2 -/
def an42 : AN := (.seq none .leaf (.seq none .leaf .leaf))
def w42 (P : Prims) (a0 : AV) (Q : AV → AS → Prop) : Prop :=
  P.oV 4 (evBin T0 .mul 3 true a0 (.i .i64 78913)) fun t4 =>
  P.oV 5 (evBin T0 .shr 3 true t4 (.i .u64 18)) fun t5 =>
  Q t5 ⟨Tr.nil, 0⟩
theorem w42_eq (P : Prims) (a0 : AV) (Q : AV → AS → Prop) : w42 P a0 Q = vcBody P T0 Go.Proofs.Tryd.f42 (codeOf Go.Proofs.Tryd.f42) an42 [a0] ⟨.nil, 0⟩ Q := by kernel_rfl
theorem r42 (a0 : AV) {r : AV} (hi : AV.idfree.idfrees [a0] = true) (hn : AV.norm.norms [a0] = [a0]) (h : w42 (prims T0) a0 (fun r1 s1 => oZ T0 s1 r1 (fun r2 => r2 = r))) : R T0 42 [a0] r :=
  R.mk (by kernel_rfl) (by kernel_rfl) (show T0.fn 42 = some Go.Proofs.Tryd.f42 by kernel_rfl) (by kernel_rfl) (by kernel_rfl) hi hn (by rw [w42_eq] at h; exact h)
/- math/bits.Len64 -/
def an43 : AN := (.seq none .leaf (.seq (some [0, 2]) (.seq none .leaf (.two (.seq none .leaf .leaf) .leaf)) (.seq (some [0, 2]) (.seq none .leaf (.two (.seq none .leaf .leaf) .leaf)) (.seq (some [0, 2]) (.seq none .leaf (.two (.seq none .leaf .leaf) .leaf)) (.seq none .leaf .leaf)))))
def w43 (P : Prims) (a0 : AV) (Q : AV → AS → Prop) : Prop :=
  P.oJ [0, 2] (fun (k : C2) =>
   P.oV 4 (evBin T0 .geq 63 true a0 (.i .u64 4294967296)) fun t4 =>
   P.oI t4 (P.oV 6 (evBin T0 .shr 63 true a0 (.i .u64 32)) fun t6 =>
    k t6 (.i .i64 32) ⟨Tr.nil, 0⟩)
   (k a0 (.i .i64 0) ⟨Tr.nil, 0⟩))
  (fun t0 t2 sx1 =>
  P.oJ [0, 2] (fun (k : C2) =>
   P.oV 8 (evBin T0 .geq 63 true t0 (.i .u64 65536)) fun t8 =>
   P.oI t8 (P.oV 10 (evBin T0 .shr 63 true t0 (.i .u64 16)) fun t10 =>
    P.oV 12 (evBin T0 .add 3 true t2 (.i .i64 16)) fun t12 =>
    k t10 t12 sx1)
   (k t0 t2 sx1))
  (fun t0x1 t2x1 sx2 =>
  P.oJ [0, 2] (fun (k : C2) =>
   P.oV 14 (evBin T0 .geq 63 true t0x1 (.i .u64 256)) fun t14 =>
   P.oI t14 (P.oV 16 (evBin T0 .shr 63 true t0x1 (.i .u64 8)) fun t16 =>
    P.oV 18 (evBin T0 .add 3 true t2x1 (.i .i64 8)) fun t18 =>
    k t16 t18 sx2)
   (k t0x1 t2x1 sx2))
  (fun t0x2 t2x2 sx3 =>
  P.oV 21 (evConv T0 sx3.h 63 5 t0x2) fun t21 =>
  P.oV 22 (evIndex T0 9 (.s [0, 1, 2, 2, 3, 3, 3, 3, 4, 4, 4, 4, 4, 4, 4, 4, 5, 5, 5, 5, 5, 5, 5, 5, 5, 5, 5, 5, 5, 5, 5, 5, 6, 6, 6, 6, 6, 6, 6, 6, 6, 6, 6, 6, 6, 6, 6, 6, 6, 6, 6, 6, 6, 6, 6, 6, 6, 6, 6, 6, 6, 6, 6, 6, 7, 7, 7, 7, 7, 7, 7, 7, 7, 7, 7, 7, 7, 7, 7, 7, 7, 7, 7, 7, 7, 7, 7, 7, 7, 7, 7, 7, 7, 7, 7, 7, 7, 7, 7, 7, 7, 7, 7, 7, 7, 7, 7, 7, 7, 7, 7, 7, 7, 7, 7, 7, 7, 7, 7, 7, 7, 7, 7, 7, 7, 7, 7, 7, 8, 8, 8, 8, 8, 8, 8, 8, 8, 8, 8, 8, 8, 8, 8, 8, 8, 8, 8, 8, 8, 8, 8, 8, 8, 8, 8, 8, 8, 8, 8, 8, 8, 8, 8, 8, 8, 8, 8, 8, 8, 8, 8, 8, 8, 8, 8, 8, 8, 8, 8, 8, 8, 8, 8, 8, 8, 8, 8, 8, 8, 8, 8, 8, 8, 8, 8, 8, 8, 8, 8, 8, 8, 8, 8, 8, 8, 8, 8, 8, 8, 8, 8, 8, 8, 8, 8, 8, 8, 8, 8, 8, 8, 8, 8, 8, 8, 8, 8, 8, 8, 8, 8, 8, 8, 8, 8, 8, 8, 8, 8, 8, 8, 8, 8, 8, 8, 8, 8, 8, 8, 8, 8, 8, 8, 8, 8, 8]) t21) fun t22 =>
  P.oV 23 (evConv T0 sx3.h 5 3 t22) fun t23 =>
  P.oV 24 (evBin T0 .add 3 false t2x2 t23) fun t24 =>
  Q t24 sx3)))
theorem w43_eq (P : Prims) (a0 : AV) (Q : AV → AS → Prop) : w43 P a0 Q = vcBody P T0 Go.Proofs.Tryd.f43 (codeOf Go.Proofs.Tryd.f43) an43 [a0] ⟨.nil, 0⟩ Q := by kernel_rfl
theorem r43 (a0 : AV) {r : AV} (hi : AV.idfree.idfrees [a0] = true) (hn : AV.norm.norms [a0] = [a0]) (h : w43 (prims T0) a0 (fun r1 s1 => oZ T0 s1 r1 (fun r2 => r2 = r))) : R T0 43 [a0] r :=
  R.mk (by kernel_rfl) (by kernel_rfl) (show T0.fn 43 = some Go.Proofs.Tryd.f43 by kernel_rfl) (by kernel_rfl) (by kernel_rfl) hi hn (by rw [w43_eq] at h; exact h)
/- internal/strconv.bool2[int] -/
def an44 : AN := (.seq none .leaf (.seq none (.seq none .leaf (.two (.seq none .leaf .leaf) .leaf)) (.seq none .leaf .leaf)))
def w44 (P : Prims) (a0 : AV) (Q : AV → AS → Prop) : Prop :=
  P.oI a0 (Q (.i .i64 1) ⟨Tr.nil, 0⟩)
  (Q (.i .i64 0) ⟨Tr.nil, 0⟩)
theorem w44_eq (P : Prims) (a0 : AV) (Q : AV → AS → Prop) : w44 P a0 Q = vcBody P T0 Go.Proofs.Tryd.f44 (codeOf Go.Proofs.Tryd.f44) an44 [a0] ⟨.nil, 0⟩ Q := by kernel_rfl
theorem r44 (a0 : AV) {r : AV} (hi : AV.idfree.idfrees [a0] = true) (hn : AV.norm.norms [a0] = [a0]) (h : w44 (prims T0) a0 (fun r1 s1 => oZ T0 s1 r1 (fun r2 => r2 = r))) : R T0 44 [a0] r :=
  R.mk (by kernel_rfl) (by kernel_rfl) (show T0.fn 44 = some Go.Proofs.Tryd.f44 by kernel_rfl) (by kernel_rfl) (by kernel_rfl) hi hn (by rw [w44_eq] at h; exact h)
/- internal/strconv.isPowerOfTwo -/
def an45 : AN := (.seq none .leaf (.seq none .leaf .leaf))
def w45 (P : Prims) (a0 : AV) (Q : AV → AS → Prop) : Prop :=
  P.oV 5 (evBin T0 .sub 3 true a0 (.i .i64 1)) fun t5 =>
  P.oV 6 (evBin T0 .and 3 false a0 t5) fun t6 =>
  P.oV 7 (evBin T0 .eql 3 true t6 (.i .i64 0)) fun t7 =>
  Q t7 ⟨Tr.nil, 0⟩
theorem w45_eq (P : Prims) (a0 : AV) (Q : AV → AS → Prop) : w45 P a0 Q = vcBody P T0 Go.Proofs.Tryd.f45 (codeOf Go.Proofs.Tryd.f45) an45 [a0] ⟨.nil, 0⟩ Q := by kernel_rfl
theorem r45 (a0 : AV) {r : AV} (hi : AV.idfree.idfrees [a0] = true) (hn : AV.norm.norms [a0] = [a0]) (h : w45 (prims T0) a0 (fun r1 s1 => oZ T0 s1 r1 (fun r2 => r2 = r))) : R T0 45 [a0] r :=
  R.mk (by kernel_rfl) (by kernel_rfl) (show T0.fn 45 = some Go.Proofs.Tryd.f45 by kernel_rfl) (by kernel_rfl) (by kernel_rfl) hi hn (by rw [w45_eq] at h; exact h)
/- math/bits.TrailingZeros -/
def an46 : AN := (.seq none .leaf (.seq none (.two (.seq none .leaf .leaf) .leaf) (.seq none .leaf .leaf)))
def w46 (P : Prims) (a0 : AV) (Q : AV → AS → Prop) : Prop :=
  P.oI (.b false) (P.oV 4 (evConv T0 Tr.nil 95 92 a0) fun t4 =>
   P.oC 5 47 [t4] ⟨Tr.nil, 0⟩ fun t5 sx1 =>
   Q t5 sx1)
  (P.oC 7 48 [a0] ⟨Tr.nil, 0⟩ fun t7 sx1 =>
   Q t7 sx1)
theorem w46_eq (P : Prims) (a0 : AV) (Q : AV → AS → Prop) : w46 P a0 Q = vcBody P T0 Go.Proofs.Tryd.f46 (codeOf Go.Proofs.Tryd.f46) an46 [a0] ⟨.nil, 0⟩ Q := by kernel_rfl
theorem r46 (a0 : AV) {r : AV} (hi : AV.idfree.idfrees [a0] = true) (hn : AV.norm.norms [a0] = [a0]) (h : w46 (prims T0) a0 (fun r1 s1 => oZ T0 s1 r1 (fun r2 => r2 = r))) : R T0 46 [a0] r :=
  R.mk (by kernel_rfl) (by kernel_rfl) (show T0.fn 46 = some Go.Proofs.Tryd.f46 by kernel_rfl) (by kernel_rfl) (by kernel_rfl) hi hn (by rw [w46_eq] at h; exact h)
/- math/bits.TrailingZeros32 -/
def an47 : AN := (.seq none .leaf (.seq none (.seq none .leaf (.two (.seq none .leaf .leaf) .leaf)) (.seq none .leaf .leaf)))
def w47 (P : Prims) (a0 : AV) (Q : AV → AS → Prop) : Prop :=
  P.oV 4 (evBin T0 .eql 92 true a0 (.i .u32 0)) fun t4 =>
  P.oI t4 (Q (.i .i64 32) ⟨Tr.nil, 0⟩)
  (P.oV 7 (evUn .neg a0) fun t7 =>
   P.oV 8 (evBin T0 .and 92 false a0 t7) fun t8 =>
   P.oV 9 (evBin T0 .mul 92 true t8 (.i .u32 125613361)) fun t9 =>
   P.oV 10 (evBin T0 .shr 92 true t9 (.i .u64 27)) fun t10 =>
   P.oV 11 (evIndexAddr T0 98 (.iptr [(.i .u8 0), (.i .u8 1), (.i .u8 28), (.i .u8 2), (.i .u8 29), (.i .u8 14), (.i .u8 24), (.i .u8 3), (.i .u8 30), (.i .u8 22), (.i .u8 20), (.i .u8 15), (.i .u8 25), (.i .u8 17), (.i .u8 4), (.i .u8 8), (.i .u8 31), (.i .u8 27), (.i .u8 13), (.i .u8 23), (.i .u8 21), (.i .u8 19), (.i .u8 16), (.i .u8 7), (.i .u8 26), (.i .u8 12), (.i .u8 18), (.i .u8 6), (.i .u8 11), (.i .u8 5), (.i .u8 10), (.i .u8 9)]) t10) fun t11 =>
   P.oV 12 (evLoad T0 Tr.nil 5 t11) fun t12 =>
   P.oV 13 (evConv T0 Tr.nil 5 3 t12) fun t13 =>
   Q t13 ⟨Tr.nil, 0⟩)
theorem w47_eq (P : Prims) (a0 : AV) (Q : AV → AS → Prop) : w47 P a0 Q = vcBody P T0 Go.Proofs.Tryd.f47 (codeOf Go.Proofs.Tryd.f47) an47 [a0] ⟨.nil, 0⟩ Q := by kernel_rfl
theorem r47 (a0 : AV) {r : AV} (hi : AV.idfree.idfrees [a0] = true) (hn : AV.norm.norms [a0] = [a0]) (h : w47 (prims T0) a0 (fun r1 s1 => oZ T0 s1 r1 (fun r2 => r2 = r))) : R T0 47 [a0] r :=
  R.mk (by kernel_rfl) (by kernel_rfl) (show T0.fn 47 = some Go.Proofs.Tryd.f47 by kernel_rfl) (by kernel_rfl) (by kernel_rfl) hi hn (by rw [w47_eq] at h; exact h)
/- math/bits.TrailingZeros64 -/
def an48 : AN := (.seq none .leaf (.seq none (.seq none .leaf (.two (.seq none .leaf .leaf) .leaf)) (.seq none .leaf .leaf)))
def w48 (P : Prims) (a0 : AV) (Q : AV → AS → Prop) : Prop :=
  P.oV 4 (evBin T0 .eql 63 true a0 (.i .u64 0)) fun t4 =>
  P.oI t4 (Q (.i .i64 64) ⟨Tr.nil, 0⟩)
  (P.oV 7 (evUn .neg a0) fun t7 =>
   P.oV 8 (evBin T0 .and 63 false a0 t7) fun t8 =>
   P.oV 9 (evBin T0 .mul 63 true t8 (.i .u64 285870213051353865)) fun t9 =>
   P.oV 10 (evBin T0 .shr 63 true t9 (.i .u64 58)) fun t10 =>
   P.oV 11 (evIndexAddr T0 99 (.iptr [(.i .u8 0), (.i .u8 1), (.i .u8 56), (.i .u8 2), (.i .u8 57), (.i .u8 49), (.i .u8 28), (.i .u8 3), (.i .u8 61), (.i .u8 58), (.i .u8 42), (.i .u8 50), (.i .u8 38), (.i .u8 29), (.i .u8 17), (.i .u8 4), (.i .u8 62), (.i .u8 47), (.i .u8 59), (.i .u8 36), (.i .u8 45), (.i .u8 43), (.i .u8 51), (.i .u8 22), (.i .u8 53), (.i .u8 39), (.i .u8 33), (.i .u8 30), (.i .u8 24), (.i .u8 18), (.i .u8 12), (.i .u8 5), (.i .u8 63), (.i .u8 55), (.i .u8 48), (.i .u8 27), (.i .u8 60), (.i .u8 41), (.i .u8 37), (.i .u8 16), (.i .u8 46), (.i .u8 35), (.i .u8 44), (.i .u8 21), (.i .u8 52), (.i .u8 32), (.i .u8 23), (.i .u8 11), (.i .u8 54), (.i .u8 26), (.i .u8 40), (.i .u8 15), (.i .u8 34), (.i .u8 20), (.i .u8 31), (.i .u8 10), (.i .u8 25), (.i .u8 14), (.i .u8 19), (.i .u8 9), (.i .u8 13), (.i .u8 8), (.i .u8 7), (.i .u8 6)]) t10) fun t11 =>
   P.oV 12 (evLoad T0 Tr.nil 5 t11) fun t12 =>
   P.oV 13 (evConv T0 Tr.nil 5 3 t12) fun t13 =>
   Q t13 ⟨Tr.nil, 0⟩)
theorem w48_eq (P : Prims) (a0 : AV) (Q : AV → AS → Prop) : w48 P a0 Q = vcBody P T0 Go.Proofs.Tryd.f48 (codeOf Go.Proofs.Tryd.f48) an48 [a0] ⟨.nil, 0⟩ Q := by kernel_rfl
theorem r48 (a0 : AV) {r : AV} (hi : AV.idfree.idfrees [a0] = true) (hn : AV.norm.norms [a0] = [a0]) (h : w48 (prims T0) a0 (fun r1 s1 => oZ T0 s1 r1 (fun r2 => r2 = r))) : R T0 48 [a0] r :=
  R.mk (by kernel_rfl) (by kernel_rfl) (show T0.fn 48 = some Go.Proofs.Tryd.f48 by kernel_rfl) (by kernel_rfl) (by kernel_rfl) hi hn (by rw [w48_eq] at h; exact h)
/- gosem.cut.vars -/
def an70 : AN := (.seq none .leaf (.seq none .leaf .leaf))
def w70 (P : Prims) (Q : AV → AS → Prop) : Prop :=
  P.oV 0 (evBuild T0 98 [(0, (.i .u8 0)), (1, (.i .u8 1)), (2, (.i .u8 28)), (3, (.i .u8 2)), (4, (.i .u8 29)), (5, (.i .u8 14)), (6, (.i .u8 24)), (7, (.i .u8 3)), (8, (.i .u8 30)), (9, (.i .u8 22)), (10, (.i .u8 20)), (11, (.i .u8 15)), (12, (.i .u8 25)), (13, (.i .u8 17)), (14, (.i .u8 4)), (15, (.i .u8 8)), (16, (.i .u8 31)), (17, (.i .u8 27)), (18, (.i .u8 13)), (19, (.i .u8 23)), (20, (.i .u8 21)), (21, (.i .u8 19)), (22, (.i .u8 16)), (23, (.i .u8 7)), (24, (.i .u8 26)), (25, (.i .u8 12)), (26, (.i .u8 18)), (27, (.i .u8 6)), (28, (.i .u8 11)), (29, (.i .u8 5)), (30, (.i .u8 10)), (31, (.i .u8 9))]) fun t0 =>
  P.oH (evStore T0 Tr.nil 98 (.iptr [(.i .u8 0), (.i .u8 1), (.i .u8 28), (.i .u8 2), (.i .u8 29), (.i .u8 14), (.i .u8 24), (.i .u8 3), (.i .u8 30), (.i .u8 22), (.i .u8 20), (.i .u8 15), (.i .u8 25), (.i .u8 17), (.i .u8 4), (.i .u8 8), (.i .u8 31), (.i .u8 27), (.i .u8 13), (.i .u8 23), (.i .u8 21), (.i .u8 19), (.i .u8 16), (.i .u8 7), (.i .u8 26), (.i .u8 12), (.i .u8 18), (.i .u8 6), (.i .u8 11), (.i .u8 5), (.i .u8 10), (.i .u8 9)]) t0) ⟨Tr.nil, 0⟩ fun sx1 =>
  P.oV 1 (evBuild T0 99 [(0, (.i .u8 0)), (1, (.i .u8 1)), (2, (.i .u8 56)), (3, (.i .u8 2)), (4, (.i .u8 57)), (5, (.i .u8 49)), (6, (.i .u8 28)), (7, (.i .u8 3)), (8, (.i .u8 61)), (9, (.i .u8 58)), (10, (.i .u8 42)), (11, (.i .u8 50)), (12, (.i .u8 38)), (13, (.i .u8 29)), (14, (.i .u8 17)), (15, (.i .u8 4)), (16, (.i .u8 62)), (17, (.i .u8 47)), (18, (.i .u8 59)), (19, (.i .u8 36)), (20, (.i .u8 45)), (21, (.i .u8 43)), (22, (.i .u8 51)), (23, (.i .u8 22)), (24, (.i .u8 53)), (25, (.i .u8 39)), (26, (.i .u8 33)), (27, (.i .u8 30)), (28, (.i .u8 24)), (29, (.i .u8 18)), (30, (.i .u8 12)), (31, (.i .u8 5)), (32, (.i .u8 63)), (33, (.i .u8 55)), (34, (.i .u8 48)), (35, (.i .u8 27)), (36, (.i .u8 60)), (37, (.i .u8 41)), (38, (.i .u8 37)), (39, (.i .u8 16)), (40, (.i .u8 46)), (41, (.i .u8 35)), (42, (.i .u8 44)), (43, (.i .u8 21)), (44, (.i .u8 52)), (45, (.i .u8 32)), (46, (.i .u8 23)), (47, (.i .u8 11)), (48, (.i .u8 54)), (49, (.i .u8 26)), (50, (.i .u8 40)), (51, (.i .u8 15)), (52, (.i .u8 34)), (53, (.i .u8 20)), (54, (.i .u8 31)), (55, (.i .u8 10)), (56, (.i .u8 25)), (57, (.i .u8 14)), (58, (.i .u8 19)), (59, (.i .u8 9)), (60, (.i .u8 13)), (61, (.i .u8 8)), (62, (.i .u8 7)), (63, (.i .u8 6))]) fun t1 =>
  P.oH (evStore T0 sx1.h 99 (.iptr [(.i .u8 0), (.i .u8 1), (.i .u8 56), (.i .u8 2), (.i .u8 57), (.i .u8 49), (.i .u8 28), (.i .u8 3), (.i .u8 61), (.i .u8 58), (.i .u8 42), (.i .u8 50), (.i .u8 38), (.i .u8 29), (.i .u8 17), (.i .u8 4), (.i .u8 62), (.i .u8 47), (.i .u8 59), (.i .u8 36), (.i .u8 45), (.i .u8 43), (.i .u8 51), (.i .u8 22), (.i .u8 53), (.i .u8 39), (.i .u8 33), (.i .u8 30), (.i .u8 24), (.i .u8 18), (.i .u8 12), (.i .u8 5), (.i .u8 63), (.i .u8 55), (.i .u8 48), (.i .u8 27), (.i .u8 60), (.i .u8 41), (.i .u8 37), (.i .u8 16), (.i .u8 46), (.i .u8 35), (.i .u8 44), (.i .u8 21), (.i .u8 52), (.i .u8 32), (.i .u8 23), (.i .u8 11), (.i .u8 54), (.i .u8 26), (.i .u8 40), (.i .u8 15), (.i .u8 34), (.i .u8 20), (.i .u8 31), (.i .u8 10), (.i .u8 25), (.i .u8 14), (.i .u8 19), (.i .u8 9), (.i .u8 13), (.i .u8 8), (.i .u8 7), (.i .u8 6)]) t1) sx1 fun sx2 =>
  P.oV 2 (evBuild T0 91 [(0, (.i .u64 1)), (1, (.i .u64 10)), (2, (.i .u64 100)), (3, (.i .u64 1000)), (4, (.i .u64 10000)), (5, (.i .u64 100000)), (6, (.i .u64 1000000)), (7, (.i .u64 10000000)), (8, (.i .u64 100000000)), (9, (.i .u64 1000000000)), (10, (.i .u64 10000000000)), (11, (.i .u64 100000000000)), (12, (.i .u64 1000000000000)), (13, (.i .u64 10000000000000)), (14, (.i .u64 100000000000000)), (15, (.i .u64 1000000000000000)), (16, (.i .u64 10000000000000000)), (17, (.i .u64 100000000000000000)), (18, (.i .u64 1000000000000000000)), (19, (.i .u64 10000000000000000000))]) fun t2 =>
  P.oH (evStore T0 sx2.h 91 (.iptr [(.i .u64 1), (.i .u64 10), (.i .u64 100), (.i .u64 1000), (.i .u64 10000), (.i .u64 100000), (.i .u64 1000000), (.i .u64 10000000), (.i .u64 100000000), (.i .u64 1000000000), (.i .u64 10000000000), (.i .u64 100000000000), (.i .u64 1000000000000), (.i .u64 10000000000000), (.i .u64 100000000000000), (.i .u64 1000000000000000), (.i .u64 10000000000000000), (.i .u64 100000000000000000), (.i .u64 1000000000000000000), (.i .u64 10000000000000000000)]) t2) sx2 fun sx3 =>
  Q (.tup []) sx3
theorem w70_eq (P : Prims) (Q : AV → AS → Prop) : w70 P  Q = vcBody P T0 Go.Proofs.Tryd.f70 (codeOf Go.Proofs.Tryd.f70) an70 [] ⟨.nil, 0⟩ Q := by kernel_rfl
theorem r70 {r : AV} (hi : AV.idfree.idfrees [] = true) (hn : AV.norm.norms [] = []) (h : w70 (prims T0)  (fun r1 s1 => oZ T0 s1 r1 (fun r2 => r2 = r))) : R T0 70 [] r :=
  R.mk (by kernel_rfl) (by kernel_rfl) (show T0.fn 70 = some Go.Proofs.Tryd.f70 by kernel_rfl) (by kernel_rfl) (by kernel_rfl) hi hn (by rw [w70_eq] at h; exact h)

end Go.Proofs.YtbcikhbepldjhaaDoor.Ev
