/- The functions' code, laid out. Printed by WP.lean.txt, a program of this session's. -/
import Derived.Test.YtmfhmlhaofpeiaaGreatDoorEvTy
namespace Go.Proofs.YtmfhmlhaofpeiaaGreatDoor.Ev
open Go Go.RowKit
set_option linter.unusedVariables false
set_option maxRecDepth 100000
/- orchestrator/orchestratorlaw06.PathParses -/
def an4 : AN := (.seq none .leaf (.seq none (.seq none .leaf (.two (.seq none .leaf .leaf) .leaf)) (.seq none .leaf (.seq none .leaf (.seq none .leaf .leaf)))))
def w4 (P : Prims) (a0 : AV) (Q : AV → AS → Prop) : Prop :=
  P.oV 8 (evBuiltin T0 Tr.nil .len [9] [a0]) fun t8 =>
  P.oV 9 (evBin T0 .gtr 3 true t8 (.i .i64 3000)) fun t9 =>
  P.oG [11, 12, 13] t9 true (fun (k : C3) => P.oV 12 (evBuiltin T0 Tr.nil .len [9] [a0]) fun t12 =>
   P.oV 13 (evBin T0 .leq 3 true t12 (.i .i64 20000)) fun t13 =>
   k a0 t12 t13 ⟨Tr.nil, 0⟩) ⟨Tr.nil, 0⟩ fun t11 t12 t13 sx1 =>
  P.oV 14 (evPick t9 (some t13) (some (.b false))) fun t14 =>
  P.oG [16, 17, 18] t14 false (fun (k : C3) => P.oV 17 (evBuiltin T0 sx1.h .len [9] [a0]) fun t17 =>
   P.oV 18 (evBin T0 .gtr 3 true t17 (.i .i64 20100)) fun t18 =>
   k a0 t17 t18 sx1) sx1 fun t16 t17 t18 sx2 =>
  P.oV 19 (evPick t14 (some (.b true)) (some t18)) fun t19 =>
  P.oI t19 (P.oC 20 12 [] sx2 fun t20 sx3 =>
   Q t20 sx3)
  (P.oC 23 17 [a0] sx2 fun t23 sx3 =>
   P.oV 24 (evExtract 0 t23) fun t24 =>
   P.oV 25 (evExtract 1 t23) fun t25 =>
   P.oC 28 18 [a0] sx3 fun t28 sx4 =>
   P.oV 29 (evExtract 0 t28) fun t29 =>
   P.oV 30 (evExtract 1 t28) fun t30 =>
   P.oV 33 (evBin T0 .eql 26 false t25 t30) fun t33 =>
   P.oG [35, 36, 37] t33 true (fun (k : C3) => P.oC 37 19 [t24, t29] sx4 fun t37 sx5 =>
    k t24 t29 t37 sx5) sx4 fun t35 t36 t37 sx5 =>
   P.oV 38 (evPick t33 (some t37) (some (.b false))) fun t38 =>
   P.oG [40] t38 true (fun (k : C1) => P.oC 40 12 [] sx5 fun t40 sx6 =>
    k t40 sx6) sx5 fun t40 sx6 =>
   P.oV 41 (evPick t38 (some t40) (some (.b false))) fun t41 =>
   Q t41 sx6)
theorem w4_eq (P : Prims) (a0 : AV) (Q : AV → AS → Prop) : w4 P a0 Q = vcBody P T0 Go.Proofs.Tryz.f4 (codeOf Go.Proofs.Tryz.f4) an4 [a0] ⟨.nil, 0⟩ Q := by kernel_rfl
theorem r4 (a0 : AV) {r : AV} (hi : AV.idfree.idfrees [a0] = true) (hn : AV.norm.norms [a0] = [a0]) (h : w4 (prims T0) a0 (fun r1 s1 => oZ T0 s1 r1 (fun r2 => r2 = r))) : R T0 4 [a0] r :=
  R.mk (by kernel_rfl) (by kernel_rfl) (show T0.fn 4 = some Go.Proofs.Tryz.f4 by kernel_rfl) (by kernel_rfl) (by kernel_rfl) hi hn (by rw [w4_eq] at h; exact h)
/- orchestrator/orchestratorlaw06.PathPrints -/
/- orchestrator/orchestratorlaw06.PathRoundTrip -/
/- orchestrator/path.Parse -/
/- orchestrator/orchestratorref06.Parse -/
/- orchestrator/orchestratorref06.Same -/
/- orchestrator/path.Print -/
/- orchestrator/orchestratorref06.Print -/
def an21 : AN := (.seq none .leaf (.seq none (.seq none .leaf (.two (.seq none .leaf .leaf) .leaf)) (.seq none .leaf (.seq none (.seq none .leaf (.one (.loop [4, 0, 5] (.seq none (.seq none .leaf (.two .leaf .leaf)) (.seq (some [4, 0, 5]) (.one (.seq none .leaf (.two .leaf (.seq none .leaf (.two .leaf (.seq none .leaf (.two .leaf .leaf))))))) .leaf))))) (.seq none .leaf .leaf)))))
def w21 (P : Prims) (a0 : AV) (Q : AV → AS → Prop) : Prop :=
  P.oC 7 14 [a0] ⟨Tr.nil, 0⟩ fun t7 sx1 =>
  P.oV 8 (evUn .not t7) fun t8 =>
  P.oI t8 (Q (.tup [(.s []), (.i .i64 1)]) sx1)
  (P.oL [4, 0, 5] (fun (next : C3) t4 t0 t5 sx2 =>
   P.oV 11 (evBuiltin T0 sx2.h .len [22] [t0]) fun t11 =>
   P.oV 12 (evBin T0 .lss 3 false t5 t11) fun t12 =>
   P.oI t12 (P.oJ [4, 0, 5] (fun (k : C3) =>
     P.oV 17 (evIndexAddr T0 22 t0 t5) fun t17 =>
     P.oV 18 (evOff 0 t17) fun t18 =>
     P.oV 19 (evLoad T0 sx2.h 3 t18) fun t19 =>
     P.oV 20 (evBin T0 .eql 3 true t19 (.i .i64 2)) fun t20 =>
     P.oI t20 (P.oV 22 (evBin T0 .add 9 true t4 (.s [91])) fun t22 =>
      P.oV 25 (evIndexAddr T0 22 t0 t5) fun t25 =>
      P.oV 26 (evOff 2 t25) fun t26 =>
      P.oV 27 (evLoad T0 sx2.h 3 t26) fun t27 =>
      P.oC 28 46 [t27] sx2 fun t28 sx3 =>
      P.oV 29 (evBin T0 .add 9 false t22 t28) fun t29 =>
      P.oV 30 (evBin T0 .add 9 true t29 (.s [93])) fun t30 =>
      k t30 t0 t5 sx3)
     (P.oV 33 (evIndexAddr T0 22 t0 t5) fun t33 =>
      P.oV 34 (evOff 0 t33) fun t34 =>
      P.oV 35 (evLoad T0 sx2.h 3 t34) fun t35 =>
      P.oV 36 (evBin T0 .eql 3 true t35 (.i .i64 3)) fun t36 =>
      P.oI t36 (P.oV 38 (evBin T0 .add 9 true t4 (.s [91])) fun t38 =>
       P.oV 41 (evIndexAddr T0 22 t0 t5) fun t41 =>
       P.oV 42 (evOff 1 t41) fun t42 =>
       P.oV 43 (evLoad T0 sx2.h 9 t42) fun t43 =>
       P.oV 44 (evBin T0 .add 9 false t38 t43) fun t44 =>
       P.oV 45 (evBin T0 .add 9 true t44 (.s [61])) fun t45 =>
       P.oV 48 (evIndexAddr T0 22 t0 t5) fun t48 =>
       P.oV 49 (evOff 3 t48) fun t49 =>
       P.oV 50 (evLoad T0 sx2.h 9 t49) fun t50 =>
       P.oC 51 47 [t50] sx2 fun t51 sx3 =>
       P.oV 52 (evBin T0 .add 9 false t45 t51) fun t52 =>
       P.oV 53 (evBin T0 .add 9 true t52 (.s [93])) fun t53 =>
       k t53 t0 t5 sx2)
      (P.oV 55 (evBin T0 .gtr 3 true t5 (.i .i64 0)) fun t55 =>
       P.oI t55 (P.oV 57 (evBin T0 .add 9 true t4 (.s [46])) fun t57 =>
        P.oV 60 (evIndexAddr T0 22 t0 t5) fun t60 =>
        P.oV 61 (evOff 1 t60) fun t61 =>
        P.oV 62 (evLoad T0 sx2.h 9 t61) fun t62 =>
        P.oV 63 (evBin T0 .add 9 false t57 t62) fun t63 =>
        k t63 t0 t5 sx2)
       (P.oV 66 (evIndexAddr T0 22 t0 t5) fun t66 =>
        P.oV 67 (evOff 1 t66) fun t67 =>
        P.oV 68 (evLoad T0 sx2.h 9 t67) fun t68 =>
        k t68 t0 t5 sx2))))
    (fun t4x1 t0x1 t5x1 sx3 =>
    P.oV 14 (evBin T0 .add 3 true t5x1 (.i .i64 1)) fun t14 =>
    next t4x1 t0x1 t14 sx3))
   (Q (.tup [t4, (.i .i64 0)]) sx2)) (.s []) a0 (.i .i64 0) sx1)
theorem w21_eq (P : Prims) (a0 : AV) (Q : AV → AS → Prop) : w21 P a0 Q = vcBody P T0 Go.Proofs.Tryz.f21 (codeOf Go.Proofs.Tryz.f21) an21 [a0] ⟨.nil, 0⟩ Q := by kernel_rfl
theorem r21 (a0 : AV) {r : AV} (hi : AV.idfree.idfrees [a0] = true) (hn : AV.norm.norms [a0] = [a0]) (h : w21 (prims T0) a0 (fun r1 s1 => oZ T0 s1 r1 (fun r2 => r2 = r))) : R T0 21 [a0] r :=
  R.mk (by kernel_rfl) (by kernel_rfl) (show T0.fn 21 = some Go.Proofs.Tryz.f21 by kernel_rfl) (by kernel_rfl) (by kernel_rfl) hi hn (by rw [w21_eq] at h; exact h)
/- orchestrator/path.bracket -/
/- orchestrator/path.nameLength -/
/- orchestrator/orchestratorref06.step -/
/- (*strings.Builder).WriteByte -/
def an41 : AN := (.seq none .leaf (.seq none .leaf (.seq none .leaf (.seq none .leaf .leaf))))
def w41 (P : Prims) (a0 a1 : AV) (s : AS) (Q : AV → AS → Prop) : Prop :=
  P.oC 6 69 [a0] s fun t6 sx1 =>
  P.oV 9 (evNilCheck a0) fun t9 =>
  P.oV 10 (evOff 1 t9) fun t10 =>
  P.oV 11 (evLoad T0 sx1.h 63 t10) fun t11 =>
  P.oV 13 (evIce T0 63 1 [(0, a1)]) fun t13 =>
  P.oM 14 (evAppend T0 sx1 63 63 t11 t13) fun t14 sx2 =>
  P.oV 15 (evNilCheck a0) fun t15 =>
  P.oV 16 (evOff 1 t15) fun t16 =>
  P.oH (evStore T0 sx2.h 63 t16 t14) sx2 fun sx3 =>
  Q .nili sx3
theorem w41_eq (P : Prims) (a0 a1 : AV) (s : AS) (Q : AV → AS → Prop) : w41 P a0 a1 s Q = vcBody P T0 Go.Proofs.Tryz.f41 (codeOf Go.Proofs.Tryz.f41) an41 [a0, a1] s Q := by kernel_rfl
theorem r41 (a0 a1 : AV) {s s' : AS} {r : AV} (h : w41 (prims T0) a0 a1 s (fun r1 s1 => r1 = r ∧ s1 = s')) : Runs T0 41 [a0, a1] s r s' :=
  Runs.mk (by kernel_rfl) (by kernel_rfl) (show T0.fn 41 = some Go.Proofs.Tryz.f41 by kernel_rfl) (by kernel_rfl) (by kernel_rfl) (by kernel_rfl) (by rw [w41_eq] at h; exact h)
/- (*strings.Builder).WriteString -/
def an42 : AN := (.seq none .leaf (.seq none .leaf (.seq none .leaf (.seq none .leaf .leaf))))
def w42 (P : Prims) (a0 a1 : AV) (s : AS) (Q : AV → AS → Prop) : Prop :=
  P.oC 7 69 [a0] s fun t7 sx1 =>
  P.oV 10 (evNilCheck a0) fun t10 =>
  P.oV 11 (evOff 1 t10) fun t11 =>
  P.oV 12 (evLoad T0 sx1.h 63 t11) fun t12 =>
  P.oM 14 (evAppend T0 sx1 63 9 t12 a1) fun t14 sx2 =>
  P.oV 15 (evNilCheck a0) fun t15 =>
  P.oV 16 (evOff 1 t15) fun t16 =>
  P.oH (evStore T0 sx2.h 63 t16 t14) sx2 fun sx3 =>
  P.oV 18 (evBuiltin T0 sx3.h .len [9] [a1]) fun t18 =>
  Q (.tup [t18, .nili]) sx3
theorem w42_eq (P : Prims) (a0 a1 : AV) (s : AS) (Q : AV → AS → Prop) : w42 P a0 a1 s Q = vcBody P T0 Go.Proofs.Tryz.f42 (codeOf Go.Proofs.Tryz.f42) an42 [a0, a1] s Q := by kernel_rfl
theorem r42 (a0 a1 : AV) {s s' : AS} {r : AV} (h : w42 (prims T0) a0 a1 s (fun r1 s1 => r1 = r ∧ s1 = s')) : Runs T0 42 [a0, a1] s r s' :=
  Runs.mk (by kernel_rfl) (by kernel_rfl) (show T0.fn 42 = some Go.Proofs.Tryz.f42 by kernel_rfl) (by kernel_rfl) (by kernel_rfl) (by kernel_rfl) (by rw [w42_eq] at h; exact h)
/- strconv.Itoa -/
/- orchestrator/path.quote -/
/- (*strings.Builder).String -/
def an45 : AN := (.seq none .leaf (.seq none .leaf .leaf))
def w45 (P : Prims) (a0 : AV) (s : AS) (Q : AV → AS → Prop) : Prop :=
  P.oV 4 (evNilCheck a0) fun t4 =>
  P.oV 5 (evOff 1 t4) fun t5 =>
  P.oV 6 (evLoad T0 s.h 63 t5) fun t6 =>
  P.oV 7 (evBuiltin T0 s.h .unsafeSliceData [63] [t6]) fun t7 =>
  P.oV 9 (evNilCheck a0) fun t9 =>
  P.oV 10 (evOff 1 t9) fun t10 =>
  P.oV 11 (evLoad T0 s.h 63 t10) fun t11 =>
  P.oV 12 (evBuiltin T0 s.h .len [63] [t11]) fun t12 =>
  P.oM 13 (evUStr T0 s 87 t7 t12) fun t13 sx1 =>
  Q t13 sx1
theorem w45_eq (P : Prims) (a0 : AV) (s : AS) (Q : AV → AS → Prop) : w45 P a0 s Q = vcBody P T0 Go.Proofs.Tryz.f45 (codeOf Go.Proofs.Tryz.f45) an45 [a0] s Q := by kernel_rfl
theorem r45 (a0 : AV) {s s' : AS} {r : AV} (h : w45 (prims T0) a0 s (fun r1 s1 => r1 = r ∧ s1 = s')) : Runs T0 45 [a0] s r s' :=
  Runs.mk (by kernel_rfl) (by kernel_rfl) (show T0.fn 45 = some Go.Proofs.Tryz.f45 by kernel_rfl) (by kernel_rfl) (by kernel_rfl) (by kernel_rfl) (by rw [w45_eq] at h; exact h)
/- orchestrator/orchestratorref06.decimal -/
def an46 : AN := (.seq none .leaf (.seq none .leaf (.seq none (.seq none .leaf (.two (.seq none .leaf .leaf) .leaf)) (.seq none .leaf .leaf))))
def w46 (P : Prims) (a0 : AV) (Q : AV → AS → Prop) : Prop :=
  P.oV 5 (evBin T0 .lss 3 true a0 (.i .i64 10)) fun t5 =>
  P.oI t5 (P.oV 9 (evBin T0 .add 3 true a0 (.i .i64 1)) fun t9 =>
   P.oV 10 (evSliceH T0 Tr.nil 9 (.s [48, 49, 50, 51, 52, 53, 54, 55, 56, 57]) (some a0) (some t9) none) fun t10 =>
   Q t10 ⟨Tr.nil, 0⟩)
  (P.oV 13 (evBin T0 .quo 3 true a0 (.i .i64 10)) fun t13 =>
   P.oV 15 (evBin T0 .quo 3 true a0 (.i .i64 10)) fun t15 =>
   P.oV 16 (evBin T0 .add 3 true t15 (.i .i64 1)) fun t16 =>
   P.oV 17 (evSliceH T0 Tr.nil 9 (.s [48, 49, 50, 51, 52, 53, 54, 55, 56, 57]) (some t13) (some t16) none) fun t17 =>
   P.oV 20 (evBin T0 .rem 3 true a0 (.i .i64 10)) fun t20 =>
   P.oV 22 (evBin T0 .rem 3 true a0 (.i .i64 10)) fun t22 =>
   P.oV 23 (evBin T0 .add 3 true t22 (.i .i64 1)) fun t23 =>
   P.oV 24 (evSliceH T0 Tr.nil 9 (.s [48, 49, 50, 51, 52, 53, 54, 55, 56, 57]) (some t20) (some t23) none) fun t24 =>
   P.oV 25 (evBin T0 .add 9 false t17 t24) fun t25 =>
   Q t25 ⟨Tr.nil, 0⟩)
theorem w46_eq (P : Prims) (a0 : AV) (Q : AV → AS → Prop) : w46 P a0 Q = vcBody P T0 Go.Proofs.Tryz.f46 (codeOf Go.Proofs.Tryz.f46) an46 [a0] ⟨.nil, 0⟩ Q := by kernel_rfl
theorem r46 (a0 : AV) {r : AV} (hi : AV.idfree.idfrees [a0] = true) (hn : AV.norm.norms [a0] = [a0]) (h : w46 (prims T0) a0 (fun r1 s1 => oZ T0 s1 r1 (fun r2 => r2 = r))) : R T0 46 [a0] r :=
  R.mk (by kernel_rfl) (by kernel_rfl) (show T0.fn 46 = some Go.Proofs.Tryz.f46 by kernel_rfl) (by kernel_rfl) (by kernel_rfl) hi hn (by rw [w46_eq] at h; exact h)
/- orchestrator/orchestratorref06.quote -/
def an47 : AN := (.seq none .leaf (.seq none .leaf (.seq none (.seq none .leaf (.one (.loop [3, 0, 4] (.seq none (.seq none .leaf (.two .leaf .leaf)) (.seq (some [3, 0, 4]) (.one (.seq none .leaf (.two .leaf (.seq none .leaf (.two .leaf .leaf))))) .leaf))))) (.seq none .leaf .leaf))))
def w47 (P : Prims) (a0 : AV) (Q : AV → AS → Prop) : Prop :=
  P.oL [3, 0, 4] (fun (next : C3) t3 t0 t4 sx1 =>
  P.oV 7 (evBuiltin T0 sx1.h .len [9] [t0]) fun t7 =>
  P.oV 8 (evBin T0 .lss 3 false t4 t7) fun t8 =>
  P.oI t8 (P.oJ [3, 0, 4] (fun (k : C3) =>
    P.oV 13 (evIndex T0 9 t0 t4) fun t13 =>
    P.oV 14 (evBin T0 .eql 5 true t13 (.i .u8 10)) fun t14 =>
    P.oI t14 (P.oV 16 (evBin T0 .add 9 true t3 (.s [92, 110])) fun t16 =>
     k t16 t0 t4 sx1)
    (P.oV 19 (evIndex T0 9 t0 t4) fun t19 =>
     P.oV 20 (evBin T0 .eql 5 true t19 (.i .u8 34)) fun t20 =>
     P.oG [22, 23, 24, 25] t20 false (fun (kx1 : C4) => P.oV 24 (evIndex T0 9 t0 t4) fun t24 =>
      P.oV 25 (evBin T0 .eql 5 true t24 (.i .u8 92)) fun t25 =>
      kx1 t0 t4 t24 t25 sx1) sx1 fun t22 t23 t24 t25 sx2 =>
     P.oV 26 (evPick t20 (some (.b true)) (some t25)) fun t26 =>
     P.oI t26 (P.oV 28 (evBin T0 .add 9 true t3 (.s [92])) fun t28 =>
      P.oV 32 (evBin T0 .add 3 true t4 (.i .i64 1)) fun t32 =>
      P.oV 33 (evSliceH T0 sx2.h 9 t0 (some t4) (some t32) none) fun t33 =>
      P.oV 34 (evBin T0 .add 9 false t28 t33) fun t34 =>
      k t34 t0 t4 sx2)
     (P.oV 39 (evBin T0 .add 3 true t4 (.i .i64 1)) fun t39 =>
      P.oV 40 (evSliceH T0 sx2.h 9 t0 (some t4) (some t39) none) fun t40 =>
      P.oV 41 (evBin T0 .add 9 false t3 t40) fun t41 =>
      k t41 t0 t4 sx2)))
   (fun t3x1 t0x1 t4x1 sx2 =>
   P.oV 10 (evBin T0 .add 3 true t4x1 (.i .i64 1)) fun t10 =>
   next t3x1 t0x1 t10 sx2))
  (P.oV 43 (evBin T0 .add 9 true t3 (.s [34])) fun t43 =>
   Q t43 sx1)) (.s [34]) a0 (.i .i64 0) ⟨Tr.nil, 0⟩
theorem w47_eq (P : Prims) (a0 : AV) (Q : AV → AS → Prop) : w47 P a0 Q = vcBody P T0 Go.Proofs.Tryz.f47 (codeOf Go.Proofs.Tryz.f47) an47 [a0] ⟨.nil, 0⟩ Q := by kernel_rfl
theorem r47 (a0 : AV) {r : AV} (hi : AV.idfree.idfrees [a0] = true) (hn : AV.norm.norms [a0] = [a0]) (h : w47 (prims T0) a0 (fun r1 s1 => oZ T0 s1 r1 (fun r2 => r2 = r))) : R T0 47 [a0] r :=
  R.mk (by kernel_rfl) (by kernel_rfl) (show T0.fn 47 = some Go.Proofs.Tryz.f47 by kernel_rfl) (by kernel_rfl) (by kernel_rfl) hi hn (by rw [w47_eq] at h; exact h)
/- orchestrator/path.index -/
/- orchestrator/path.unquote -/
/- orchestrator/orchestratorref06.bracket -/
/- orchestrator/orchestratorref06.name -/
/- (*strings.Builder).copyCheck -/
def an69 : AN := (.seq none .leaf (.two .leaf (.seq none .leaf (.two .leaf .leaf))))
def w69 (P : Prims) (a0 : AV) (s : AS) (Q : AV → AS → Prop) : Prop :=
  P.oV 3 (evNilCheck a0) fun t3 =>
  P.oV 4 (evOff 0 t3) fun t4 =>
  P.oV 5 (evLoad T0 s.h 62 t4) fun t5 =>
  P.oV 6 (evBin T0 .eql 62 true t5 .nilp) fun t6 =>
  P.oI t6 (P.oV 9 (evConv T0 s.h 62 106 a0) fun t9 =>
   P.oC 10 98 [t9] s fun t10 sx1 =>
   P.oV 11 (evConv T0 sx1.h 106 62 t10) fun t11 =>
   P.oV 12 (evNilCheck a0) fun t12 =>
   P.oV 13 (evOff 0 t12) fun t13 =>
   P.oH (evStore T0 sx1.h 62 t13 t11) sx1 fun sx2 =>
   Q (.tup []) sx2)
  (P.oV 15 (evNilCheck a0) fun t15 =>
   P.oV 16 (evOff 0 t15) fun t16 =>
   P.oV 17 (evLoad T0 s.h 62 t16) fun t17 =>
   P.oV 19 (evBin T0 .neq 62 false t17 a0) fun t19 =>
   P.oI t19 (False)
   (Q (.tup []) s))
theorem w69_eq (P : Prims) (a0 : AV) (s : AS) (Q : AV → AS → Prop) : w69 P a0 s Q = vcBody P T0 Go.Proofs.Tryz.f69 (codeOf Go.Proofs.Tryz.f69) an69 [a0] s Q := by kernel_rfl
theorem r69 (a0 : AV) {s s' : AS} {r : AV} (h : w69 (prims T0) a0 s (fun r1 s1 => r1 = r ∧ s1 = s')) : Runs T0 69 [a0] s r s' :=
  Runs.mk (by kernel_rfl) (by kernel_rfl) (show T0.fn 69 = some Go.Proofs.Tryz.f69 by kernel_rfl) (by kernel_rfl) (by kernel_rfl) (by kernel_rfl) (by rw [w69_eq] at h; exact h)
/- (*strings.Builder).WriteRune -/
/- strconv.Atoi -/
def an94 : AN := (.seq none .leaf (.seq none .leaf (.seq none (.seq none .leaf (.two (.seq none .leaf .leaf) .leaf)) (.seq none .leaf .leaf))))
def w94 (P : Prims) (a0 : AV) (Q : AV → AS → Prop) : Prop :=
  P.oC 8 112 [a0] ⟨Tr.nil, 0⟩ fun t8 sx1 =>
  P.oV 9 (evExtract 0 t8) fun t9 =>
  P.oV 10 (evExtract 1 t8) fun t10 =>
  P.oV 12 (evBin T0 .neq 67 true t10 .nili) fun t12 =>
  P.oI t12 (P.oC 16 113 [(.s [65, 116, 111, 105]), a0, (.i .i64 0), (.i .i64 0), t10] sx1 fun t16 sx2 =>
   Q (.tup [t9, t16]) sx2)
  (Q (.tup [t9, .nili]) sx1)
theorem w94_eq (P : Prims) (a0 : AV) (Q : AV → AS → Prop) : w94 P a0 Q = vcBody P T0 Go.Proofs.Tryz.f94 (codeOf Go.Proofs.Tryz.f94) an94 [a0] ⟨.nil, 0⟩ Q := by kernel_rfl
theorem r94 (a0 : AV) {r : AV} (hi : AV.idfree.idfrees [a0] = true) (hn : AV.norm.norms [a0] = [a0]) (h : w94 (prims T0) a0 (fun r1 s1 => oZ T0 s1 r1 (fun r2 => r2 = r))) : R T0 94 [a0] r :=
  R.mk (by kernel_rfl) (by kernel_rfl) (show T0.fn 94 = some Go.Proofs.Tryz.f94 by kernel_rfl) (by kernel_rfl) (by kernel_rfl) hi hn (by rw [w94_eq] at h; exact h)
/- orchestrator/orchestratorref06.number -/
/- orchestrator/orchestratorref06.digits -/
/- orchestrator/orchestratorref06.quoted -/
/- unicode/utf8.AppendRune -/
end Go.Proofs.YtmfhmlhaofpeiaaGreatDoor.Ev
