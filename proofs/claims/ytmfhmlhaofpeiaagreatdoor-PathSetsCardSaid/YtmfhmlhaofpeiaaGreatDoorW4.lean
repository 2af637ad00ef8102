/- Texts of this session's, one behind the other. -/
import Derived.Test.YtmfhmlhaofpeiaaGreatDoorEv1
import Derived.Test.YtmfhmlhaofpeiaaGreatDoorEv2
import Derived.Test.YtmfhmlhaofpeiaaGreatDoorEv3
import Derived.Test.YtmfhmlhaofpeiaaGreatDoorEv4
import Derived.Test.YtmfhmlhaofpeiaaGreatDoorSh
import Derived.Test.YtmfhmlhaofpeiaaGreatDoorEvX
import Derived.Test.YtmfhmlhaofpeiaaGreatDoorEvT
import Derived.Test.YtmfhmlhaofpeiaaGreatDoorEvTy
import Derived.Test.YtmfhmlhaofpeiaaGreatDoorEvF
import Derived.Test.YtmfhmlhaofpeiaaGreatDoorV0
import Derived.Test.YtmfhmlhaofpeiaaGreatDoorOp
import Derived.Test.YtmfhmlhaofpeiaaGreatDoorV6
import Derived.Test.YtmfhmlhaofpeiaaGreatDoorEvG
import Derived.Test.YtmfhmlhaofpeiaaGreatDoorEvLg
import Derived.Test.YtmfhmlhaofpeiaaGreatDoorEvLh
import Derived.Test.YtmfhmlhaofpeiaaGreatDoorEvLi
import Derived.Test.YtmfhmlhaofpeiaaGreatDoorEvFe
import Derived.Test.YtmfhmlhaofpeiaaGreatDoorEvFf
import Derived.Test.YtmfhmlhaofpeiaaGreatDoorEvFd
import Derived.Test.YtmfhmlhaofpeiaaGreatDoorEvFb
import Derived.Test.YtmfhmlhaofpeiaaGreatDoorEvFc
import Derived.Test.YtmfhmlhaofpeiaaGreatDoorW3
namespace Go.Proofs.YtmfhmlhaofpeiaaGreatDoor.Ev
open Go Go.RowKit
set_option linter.unusedSimpArgs false
set_option linter.unusedVariables false
set_option maxRecDepth 100000
theorem law_PathSets (v : Val) (p : List XStep) (x : Val) (ov : okV v) (op : p.length * 48 <= 140737488351232 /\ ∀ x ∈ p, bL x) (oxv : okV x) : R T0 7 [aj v, .lst (p.map aq), aj x] (.b true) := by
 have hp : p.length <= 140737488351232 := by have := op.1; omega
 refine r7 _ _ _ (by rw [aw, aw]; rfl) (by rw [aw, aw]; rfl) ?_
 unfold w7
 dsimp only [av]
 rw [aS, aS]
 simp only [Nat.zero_add, Nat.reduceAdd]
 have g0 : ((Tr.nil.put 0 (some (.cells (aj v).cells 35 false))).put 1 (some (.cells (aj x).cells 35 false)) : Tr AB).get 0 = some (.cells (aj v).cells 35 false) := by rw [ae _ _ (by decide), af]
 have g1 : ((Tr.nil.put 0 (some (.cells (aj v).cells 35 false))).put 1 (some (.cells (aj x).cells 35 false)) : Tr AB).get 1 = some (.cells (aj x).cells 35 false) := af _ _ _
 generalize ((Tr.nil.put 0 (some (.cells (aj v).cells 35 false))).put 1 (some (.cells (aj x).cells 35 false)) : Tr AB) = h at g0 g1 |-
 have fin : ∀ σ : AS, oC T0 24 12 [] σ fun t24 sx6 => oZ T0 sx6 t24 (fun r2 => r2 = .b true) := fun σ => by rw [e12, ri]
 rw [bY g0, aa, e22 ov, cJ, aa]
 cases h1 : fewV v with
 | false => rw [Bool.not_false, kM, bw, aa, kM, bw, aa, aG]; exact fin _
 | true =>
  rw [Bool.not_true, od, bY g1, aa, e22 oxv, cJ, aa]
  dsimp only
  rw [bK, aa]
  cases h2 : fewV x with
  | false => rw [Bool.not_false, kM, bw, aa, aG]; exact fin _
  | true =>
   rw [Bool.not_true, od, e11 hp op.2, cJ, aa]
   dsimp only
   rw [bK, aa]
   cases h3 : wA p with
   | false => rw [Bool.not_false, aG]; exact fin _
   | true =>
    have sm := yE ov h1
    have sx := yE oxv h2
    obtain ⟨w, e, hw, sw⟩ := prA_form (lx v p x) (fun w hw => smSet sm sx hw)
    rw [Bool.not_true, aA, bY g0, aa, bY g1, aa, e28 sm sx hp op.2, hw, ex0, aa, ex1, aa, aS]
    dsimp only
    rw [dx rfl (af _ _ _), aF]
    have b0 := ((ae (h.put 2 (some (.cells [.i .i64 0, .i .i64 0, .s [], .nilz true, .nilz true] 35 false))) (some (.cells (aj w).cells 35 false)) (show 0 ≠ 2 by omega)).trans (ae h _ (show 0 ≠ 2 by omega))).trans g0
    have b1 := ((ae (h.put 2 (some (.cells [.i .i64 0, .i .i64 0, .s [], .nilz true, .nilz true] 35 false))) (some (.cells (aj w).cells 35 false)) (show 1 ≠ 2 by omega)).trans (ae h _ (show 1 ≠ 2 by omega))).trans g1
    have b2 := af (h.put 2 (some (.cells [.i .i64 0, .i .i64 0, .s [], .nilz true, .nilz true] 35 false))) 2 (some (.cells (aj w).cells 35 false))
    generalize (h.put 2 (some (.cells [.i .i64 0, .i .i64 0, .s [], .nilz true, .nilz true] 35 false))).put 2 (some (.cells (aj w).cells 35 false)) = H at b0 b1 b2 |-
    dsimp only
    rw [bY b0, aa, bY b1, aa, e29 sm sx hp op.2, hw, ex0, aa, ex1, aa, aS]
    dsimp only
    simp only [Nat.reduceAdd]
    rw [dx rfl (af _ _ _), aF]
    have c2 := ((ae (H.put 3 (some (.cells [.i .i64 0, .i .i64 0, .s [], .nilz true, .nilz true] 35 false))) (some (.cells (aj w).cells 35 false)) (show 2 ≠ 3 by omega)).trans (ae H _ (show 2 ≠ 3 by omega))).trans b2
    have c3 := af (H.put 3 (some (.cells [.i .i64 0, .i .i64 0, .s [], .nilz true, .nilz true] 35 false))) 3 (some (.cells (aj w).cells 35 false))
    generalize (H.put 3 (some (.cells [.i .i64 0, .i .i64 0, .s [], .nilz true, .nilz true] 35 false))).put 3 (some (.cells (aj w).cells 35 false)) = G at c2 c3 |-
    rw [bG, aa, decide_eq_true rfl, gg, bY c2, aa, bY c3, aa, e27 sw.ok]
    dsimp only
    rw [bw, aa, md, e12]
    dsimp only
    rw [bw, aa, ri]
end Go.Proofs.YtmfhmlhaofpeiaaGreatDoor.Ev
