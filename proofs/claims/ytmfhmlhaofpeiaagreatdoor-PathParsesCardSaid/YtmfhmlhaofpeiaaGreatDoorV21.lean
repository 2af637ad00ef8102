/- strconv's rangeError. -/
import Derived.Test.YtmfhmlhaofpeiaaGreatDoorV20
namespace Go.Proofs.YtmfhmlhaofpeiaaGreatDoor.Ev
open Go Go.RowKit
set_option linter.unusedSimpArgs false
set_option linter.unusedVariables false
set_option maxRecDepth 100000

def rgE (a s : List UInt8) : AV := .iptr [.s a, .s s, (.ifc 148 (.iptr [(.s [118, 97, 108, 117, 101, 32, 111, 117, 116, 32, 111, 102, 32, 114, 97, 110, 103, 101])]))]
theorem c128 (a s : List UInt8) (hl : s.length ≤ 1048576) : R T0 128 [.s a, .s s] (rgE a s) := by
  have ld : ∃ e : AV, evLoad T0 Tr.nil 67 (.iptr [(.ifc 148 (.iptr [(.s [118, 97, 108, 117, 101, 32, 111, 117, 116, 32, 111, 102, 32, 114, 97, 110, 103, 101])]))]) = some e ∧ e = (.ifc 148 (.iptr [(.s [118, 97, 108, 117, 101, 32, 111, 117, 116, 32, 111, 102, 32, 114, 97, 110, 103, 101])])) := ⟨_, by kernel_rfl, rfl⟩
  obtain ⟨e, ld, he⟩ := ld
  have bd : evBuild T0 144 [(0, .s a), (1, .s s), (2, (.ifc 148 (.iptr [(.s [118, 97, 108, 117, 101, 32, 111, 117, 116, 32, 111, 102, 32, 114, 97, 110, 103, 101])])))] = some (.agg [.s a, .s s, .ifc 148 (.iptr [(.s [118, 97, 108, 117, 101, 32, 111, 117, 116, 32, 111, 102, 32, 114, 97, 110, 103, 101])])]) := by kernel_rfl
  refine r128 _ _ rfl rfl ?_
  unfold w128
  dsimp only [prims]
  rw [e140 hl, ld, oV_some', he, bd, oV_some', oS_eq]
  refine ⟨9, rgE a s, ?_, rfl⟩
  kernel_rfl
theorem e128 {a s : List UInt8} (hl : s.length ≤ 1048576) {d : Nat} {σ : AS} {K : AV → AS → Prop} : oC T0 d 128 [.s a, .s s] σ K = K (rgE a s) σ := (c128 a s hl).eq d σ K
theorem c113 (a s : List UInt8) (hl : s.length ≤ 1048576) : R T0 113 [.s a, .s s, .i .i64 0, .i .i64 0, .ifc 126 (.i .i64 1)] (.ifc 129 (rgE a s)) := by
  have q1 : evBin T0 .eql 67 false (.ifc 126 (.i .i64 1)) (.ifc 126 (.i .i64 2)) = some (.b false) := by kernel_rfl
  have q2 : evBin T0 .eql 67 false (.ifc 126 (.i .i64 1)) (.ifc 126 (.i .i64 1)) = some (.b true) := by kernel_rfl
  refine r113 _ _ _ _ _ rfl rfl ?_
  unfold w113
  dsimp only [prims]
  rw [q1, oV_some', oI_false, q2, oV_some', oI_true, e128 hl]
  rw [oZ_free rfl]; rfl
theorem c112 (s : List UInt8) (hl : s.length ≤ 1048576) : R T0 112 [.s s] (atoiV s) := by
  have h : extR T0 112 [.s s] = extAtoi [.s s] := by kernel_rfl
  refine R.ext (by kernel_rfl) ?_
  rw [h]
  have hb : Nat.ble s.length 9223372036854775806 = true := Nat.ble_eq_true_of_le (by omega)
  unfold extAtoi
  simp only [hb]
/-- Atoi of the program at digits. -/
theorem c94 (s : List UInt8) (hl : s.length ≤ 1048576) (hne : s ≠ []) (hd : s.all digC = true) : (R T0 94 [.s s] (.tup [.i .i64 (valD 0 s : Nat), .nili]) ∧ valD 0 s < 9223372036854775808) ∨ ∃ x : Int, R T0 94 [.s s] (.tup [.i .i64 x, .ifc 129 (rgE [65, 116, 111, 105] s)]) ∧ 65 ≤ valD 0 s := by
  rcases atoi_dig hne hd with ⟨e, hv⟩ | ⟨e, hv⟩
  · have ea : atoiV s = .tup [.i .i64 (valD 0 s : Nat), .nili] := by unfold atoiV; rw [e]
    have q : evBin T0 .neq 67 true .nili .nili = some (.b false) := by kernel_rfl
    refine .inl ⟨r94 _ rfl rfl ?_, hv⟩
    unfold w94
    dsimp only [prims]
    rw [(c112 s hl).eq, ea]
    simp only [ext_t, List.getElem?_cons_zero, List.getElem?_cons_succ, oV_some', q, oI_false]
    rw [oZ_free rfl]; rfl
  · have ea : atoiV s = .tup [.i .i64 (Lib.atoiSat s), .ifc 126 (.i .i64 1)] := by unfold atoiV; rw [e]
    have q : evBin T0 .neq 67 true (.ifc 126 (.i .i64 1)) .nili = some (.b true) := by kernel_rfl
    refine .inr ⟨_, r94 _ rfl rfl (r := .tup [.i .i64 (Lib.atoiSat s), .ifc 129 (rgE [65, 116, 111, 105] s)]) ?_, by omega⟩
    unfold w94
    dsimp only [prims]
    rw [(c112 s hl).eq, ea]
    simp only [ext_t, List.getElem?_cons_zero, List.getElem?_cons_succ, oV_some', q, oI_true]
    rw [(c113 _ s hl).eq, oZ_free rfl]; rfl
end Go.Proofs.YtmfhmlhaofpeiaaGreatDoor.Ev
