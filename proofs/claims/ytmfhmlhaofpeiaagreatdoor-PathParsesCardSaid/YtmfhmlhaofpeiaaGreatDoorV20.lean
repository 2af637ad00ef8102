/- stringslite.Clone. -/
import Derived.Test.YtmfhmlhaofpeiaaGreatDoorV19
import Derived.Test.YtmfhmlhaofpeiaaGreatDoorEvFc
namespace Go.Proofs.YtmfhmlhaofpeiaaGreatDoor.Ev
open Go Go.RowKit
set_option linter.unusedSimpArgs false
set_option linter.unusedVariables false
set_option maxRecDepth 100000

theorem setN_all {α : Type} : ∀ (a b : List α), a.length = b.length → setN a 0 b = some b
  | [], [], _ => rfl
  | _ :: a, d :: b, h => by
    have := setN_all a b (by simpa using h)
    simp only [setN, this]; rfl
  | [], _ :: _, h => by simp at h
  | _ :: _, [], h => by simp at h
theorem repN_len (a : AV) : ∀ n, (repN [a] n).length = n
  | 0 => rfl
  | n + 1 => by
    have := repN_len a n
    simp only [repN, List.length_append, List.length_cons, List.length_nil, this]; omega
theorem c140 (s : List UInt8) (hl : s.length ≤ 1048576) : R T0 140 [.s s] (.s s) := by
  have ty87 : T0.ty 87 = some (.pointer 5) := by kernel_rfl
  have hz : T0.sz 5 = some 1 := by kernel_rfl
  have hzr : T0.zr 5 = some (.i .u8 0) := by kernel_rfl
  have hby : T0.by_ 5 = some 1 := by kernel_rfl
  refine r140 _ rfl rfl ?_
  unfold w140
  dsimp only [prims]
  by_cases h0 : s = []
  · subst h0
    simp (disch := first | omega | assumption | exact scell | exact clen_XStep | (simp only [clen_XStep]; omega)) only [Nat.zero_add, oV_some', oN_eq, oM_some, oH_some, oD_some, oE_some, oS_eq, oT_true, oI_true, oI_false, pick_t, pick_f, un_not, oI_not, decide_not, toNat_sub1, toNat_add1, decide_true, decide_false, not_true, not_false_eq_true, Bool.not_true, Bool.not_false, Bool.not_not, oZ_b, oZ_i, oZ_s, oZ_l, slen_map, wr64, Int.toNat_natCast, Int.toNat_zero, ne_eq, bin_eq, b_snil, beq_4, len_9, len_63, ia_63, List.length_nil, Int.natCast_zero, decide_true]
    first | done | rfl
  · have hpos : 0 < s.length := List.length_pos_iff.mpr h0
    have d0 : decide (((s.length : Nat) : Int) = 0) = false := decide_eq_false (by omega)
    have mk : evMake T0 63 (.i .i64 (s.length : Nat)) (.i .i64 (s.length : Nat)) = some (.cells (repN [.i .u8 0] s.length) 5 false, fun id => .sl id 0 s.length (some s.length)) := by
      unfold evMake
      simp only [ty63, hz, hzr, hby]
      rw [if_pos ⟨by omega, by omega, by omega, by omega⟩]; rfl
    have nw : ∀ h : Tr AB, newCells h 1 (Nat.min s.length s.length) (.s s) = some (s.map bA) := fun h => by
      rw [show Nat.min s.length s.length = s.length from Nat.min_self _]
      show some ((s.take s.length).map _) = _
      rw [List.take_length]; rfl
    have cp : evCopy T0 ⟨Tr.nil.put 0 (some (.cells (repN [.i .u8 0] s.length) 5 false)), 1⟩ 63 (.sl 0 0 s.length (some s.length)) (.s s) = some (.i .i64 (Nat.min s.length s.length : Nat), ⟨(Tr.nil.put 0 (some (.cells (repN [.i .u8 0] s.length) 5 false))).put 0 (some (.cells (s.map bA) 5 false)), 1⟩) := by
      have hset : setN (repN [.i .u8 0] s.length) 0 (s.map bA) = some (s.map bA) := setN_all _ _ (by rw [repN_len, List.length_map])
      unfold evCopy
      simp only [ty63, hz, lenA, nw, get_put_same, leafs_b, hset]
    have ia : evIndexAddr T0 63 (.sl 0 0 s.length (some s.length)) (.i .i64 0) = some (.ptr 0 0) := by
      unfold evIndexAddr
      simp only [ty63, hz]
      rw [if_pos ⟨by omega, by omega⟩]; rfl
    have ln : ∀ h : Tr AB, evBuiltin T0 h .len [63] [.sl 0 0 s.length (some s.length)] = some (.i .i64 (s.length : Nat)) := fun h => by simp [evBuiltin, ty63]
    have tk : takeN s.length (s.map bA) = some (s.map bA) := by
      have := takeN_all (s.map bA)
      rwa [List.length_map] at this
    have us : ∀ h : Tr AB, h.get 0 = some (.cells (s.map bA) 5 false) → evUStr T0 ⟨h, 1⟩ 87 (.ptr 0 0) (.i .i64 (s.length : Nat)) = some (.s s, ⟨h.put 0 none, 1⟩) := fun h hg => by
      unfold evUStr
      simp only [ty87, hg, hz, Int.toNat_natCast, tk, bytes_b, u8s_b, Nat.beq_refl]
      rw [if_pos ⟨by omega, by omega⟩]
    rw [len_9, oV_some', bin_eq, oV_some', d0, oI_false, oV_some', mk, oE_some, oN_eq]
    rw [cp, oM_some, ia, oV_some', ln, oV_some', us _ (get_put_same _ _ _), oM_some, oZ_s]
theorem e140 {s : List UInt8} (hl : s.length ≤ 1048576) {d : Nat} {σ : AS} {K : AV → AS → Prop} : oC T0 d 140 [.s s] σ K = K (.s s) σ := (c140 s hl).eq d σ K
end Go.Proofs.YtmfhmlhaofpeiaaGreatDoor.Ev
