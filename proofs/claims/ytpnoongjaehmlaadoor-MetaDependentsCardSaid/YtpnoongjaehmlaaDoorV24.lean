/- Child: the program's and the reference's; the law MetaChild. -/
import Derived.Test.YtpnoongjaehmlaaDoorV5
import Derived.Lib.ItoaLen
namespace Go.Proofs.YtpnoongjaehmlaaDoor.Ev
open Go Go.RowKit
set_option linter.unusedSimpArgs false
set_option linter.unusedVariables false
set_option maxRecDepth 100000

theorem c62 (n : Int) (h0 : 0 ≤ n) (h1 : n ≤ 9223372036854775807) : R T0 62 [.i .i64 n] (.s (Lib.decDigits n.toNat)) := by
  refine ⟨1, fun σ => ?_⟩
  have p1 : T0.prim 62 = none := by kernel_rfl
  have p2 : T0.ext 62 = some extItoa := by kernel_rfl
  have p3 : extItoa [.i .i64 n] = some (.s (Lib.decDigits n.toNat)) := by
    unfold extItoa
    simp only [show -9223372036854775808 ≤ n ∧ n ≤ 9223372036854775807 from ⟨by omega, h1⟩, and_self, if_true]
    rw [itoaK_eq (by omega) h1]
    unfold Lib.itoa
    rw [if_neg (by omega)]
  unfold evCall
  simp only [p1, p2, p3]
theorem c48 (n : Int) (h0 : 0 ≤ n) (h1 : n ≤ 9223372036854775807) : R T0 48 [.i .i64 n] (.s (Lib.decDigits n.toNat)) := by
  refine r48 _ rfl rfl ?_
  unfold w48
  dsimp only [prims]
  rw [(c62 n h0 h1).eq, oZ_s]
theorem dlen {u : Nat} (h : u ≤ 9223372036854775807) : (Lib.decDigits u).length ≤ 20 ∧ 1 ≤ (Lib.decDigits u).length := by
  rw [Lib.decDigits_length]
  exact ⟨Lib.nDigits_le20 u (by omega), Lib.nDigits_pos u⟩
theorem dstep {u : Nat} (h : ¬ u < 10) : Lib.decDigits u = Lib.decDigits (u / 10) ++ [UInt8.ofNat (48 + u % 10)] := by rw [Lib.decDigits, dif_neg h]
theorem lit_78 (a : Int) : evLit T0 78 1 [(0, .i .u8 a)] = some (.cells [.i .u8 a] 5 false, fun id => .sl id 0 1 (some 1)) := by kernel_rfl
theorem conv_78 {h : Tr AB} {id : Nat} {u : Nat} (hu : u < 10) (hg : h.get id = some (.cells [.i .u8 (48 + u)] 5 false)) : evConv T0 h 78 9 (.sl id 0 1 (some 1)) = some (.s [UInt8.ofNat (48 + u)]) := by
  have e1 : T0.ty 78 = some (.slice 5) := by kernel_rfl
  have e2 : T0.ty 9 = some .string := by kernel_rfl
  have e3 : T0.ty 5 = some (.int .u8) := by kernel_rfl
  have e4 : ((48 + (u : Int)).toNat) = 48 + u := by omega
  simp [evConv, e1, e2, e3, sliceCells, hg, takeN, bytesOf, e4]
theorem conv_u8 {h : Tr AB} {u : Nat} (hu : u < 10) : evConv T0 h 3 5 (.i .i64 (48 + u)) = some (.i .u8 (48 + u)) := by
  have e1 : T0.ty 3 = some (.int .i64) := by kernel_rfl
  have e2 : T0.ty 5 = some (.int .u8) := by kernel_rfl
  have e3 : IntKind.wrap .u8 (48 + (u : Int)) = 48 + u := by
    have := (Go.IntWalk.u8_in (48 + (u : Int)) ⟨by omega, by omega⟩)
    exact this
  simp [evConv, e1, e2, e3]
theorem rem_10 (u : Nat) (c : Bool) : evBin T0 .rem 3 c (.i .i64 (u : Int)) (.i .i64 10) = some (.i .i64 ((u % 10 : Nat) : Int)) := by
  rw [bin_rem (by decide)]
  congr 2
theorem quo_10 (u : Nat) (hu : u ≤ 9223372036854775807) (c : Bool) : evBin T0 .quo 3 c (.i .i64 (u : Int)) (.i .i64 10) = some (.i .i64 ((u / 10 : Nat) : Int)) := by
  rw [bin_quo (by decide)]
  have e : Int.tdiv (u : Int) 10 = ((u / 10 : Nat) : Int) := rfl
  rw [e, wr64 (by omega) (by omega)]
theorem c49 (n : Nat) (hn : n ≤ 9223372036854775807) : R T0 49 [.i .i64 (n : Int)] (.s (Lib.decDigits n)) := by
  refine r49 _ rfl rfl ?_
  unfold w49
  dsimp only [prims]
  have hl := dlen hn
  simp (disch := omega) only [oV_some', rem_10, bin_add, wr64, conv_u8, lit_78, oE_some, oN_eq]
  rw [conv_78 (u := n % 10) (by omega) (get_put_same _ _ _)]
  rw [oV_some']
  refine loop2 (X := Nat × List UInt8) (fun x => .s ([UInt8.ofNat (48 + x.1 % 10)] ++ x.2)) (fun x => .i .i64 (x.1 : Int)) (fun x _ => x.1 ≤ 9223372036854775807 ∧ Lib.decDigits x.1 ++ x.2 = Lib.decDigits n) (fun x => x.1) ?_ (n, []) _ ⟨hn, by simp⟩
  rintro R ⟨m, Y⟩ σ ⟨hm, he⟩ hR
  dsimp only at he hm ⊢
  have hY : Y.length ≤ 20 := by
    have := congrArg List.length he
    rw [List.length_append] at this
    omega
  simp (disch := omega) only [oV_some', bin_ge]
  refine oI_decd (fun h => ?_) (fun h => ?_)
  · simp (disch := omega) only [oV_some', quo_10, rem_10, bin_add, wr64, conv_u8, lit_78, oE_some, oN_eq]
    rw [conv_78 (u := m / 10 % 10) (by omega) (get_put_same _ _ _)]
    rw [oV_some', bin_sadd (by simp; omega), oV_some']
    refine hR (m / 10, [UInt8.ofNat (48 + m % 10)] ++ Y) _ ⟨by dsimp only; omega, ?_⟩ (by dsimp only; omega)
    dsimp only
    rw [← he, dstep (u := m) (by omega), List.append_assoc]
  · rw [oZ_s]
    rw [← he, Lib.decDigits_one (by omega)]
    have : m % 10 = m := by omega
    rw [this]
theorem sl_to' {s : List UInt8} {k : Int} {i : Nat} (hk : k = i) (h : i ≤ s.length) : evSlice T0 9 (.s s) none (some (.i .i64 k)) none = some (.s (s.take i)) := by
  subst hk
  have e1 : T0.ty 9 = some .string := by kernel_rfl
  simp [evSlice, e1, bounds3, bnd0, bnd, h]
def vchild (s : List UInt8) (n : Int) : List UInt8 := s.take (min s.length (40 - (1 + (Lib.decDigits n.toNat).length))) ++ ([45] ++ Lib.decDigits n.toNat)
theorem max0 {n : Int} : max n 0 = ((n.toNat : Nat) : Int) := by omega
theorem c22 (s : List UInt8) (n : Int) (hs : s.length ≤ 300) (h1 : n ≤ 9223372036854775807) : R T0 22 [.s s, .i .i64 n] (.s (vchild s n)) := by
  refine r22 _ _ rfl rfl ?_
  unfold w22
  dsimp only [prims]
  have hl := dlen (u := n.toNat) (by omega)
  have hL : ([45] ++ Lib.decDigits n.toNat).length = 1 + (Lib.decDigits n.toNat).length := by simp; omega
  rw [max_i, oV_some', max0, (c48 _ (by omega) (by omega)).eq, Int.toNat_natCast, bin_sadd (by simp; omega), oV_some']
  unfold vchild
  rw [← hL]
  generalize hg : ([45] ++ Lib.decDigits n.toNat : List UInt8) = L at hL ⊢
  simp (disch := omega) only [oV_some', len_9, bin_sub, wr64, min_i]
  rw [sl_to' (i := min s.length (40 - L.length)) (by omega) (by omega), oV_some', bin_sadd (by simp; omega), oV_some', oZ_s]
theorem c23 (s : List UInt8) (n : Int) (hs : s.length ≤ 300) (h1 : n ≤ 9223372036854775807) : R T0 23 [.s s, .i .i64 n] (.s (vchild s n)) := by
  refine r23 _ _ rfl rfl ?_
  unfold w23
  dsimp only [prims]
  have hl := dlen (u := n.toNat) (by omega)
  have hL : ([45] ++ Lib.decDigits n.toNat).length = 1 + (Lib.decDigits n.toNat).length := by simp; omega
  rw [max_i, oV_some', max0, (c49 _ (by omega)).eq, bin_sadd (by simp; omega), oV_some']
  unfold vchild
  rw [← hL]
  generalize hg : ([45] ++ Lib.decDigits n.toNat : List UInt8) = L at hL ⊢
  simp (disch := omega) only [oV_some', len_9, bin_sub, wr64, min_i]
  rw [sl_to' (i := min s.length (40 - L.length)) (by omega) (by omega), oV_some', bin_sadd (by simp; omega), oV_some', oZ_s]
theorem c6 (s : List UInt8) (n : Int) (hs : s.length ≤ 140737488351232) (h1 : n ≤ 9223372036854775807) : R T0 6 [.s s, .i .i64 n] (.b true) := by
  refine r6 _ _ rfl rfl ?_
  unfold w6
  dsimp only [prims]
  simp (disch := omega) only [oV_some', len_9, bin_gt]
  refine oI_decd (fun h => ?_) (fun h => ?_)
  · rw [e10, oZ_b]
  · rw [(c22 s n (by omega) h1).eq, (c23 s n (by omega) h1).eq]
    simp only [bin_seq, oV_some', beq_self_eq_true, gtt_1, e10, pick_t, oZ_b]
theorem wf64 {x : Int} (h : (Lit.int .i64 x).wf = true) : -9223372036854775808 ≤ x ∧ x ≤ 9223372036854775807 := by
  have h' : (decide ((-9223372036854775808 : Int) ≤ x) && decide (x ≤ (9223372036854775807 : Int))) = true := h
  simp only [Bool.and_eq_true, decide_eq_true_eq] at h'
  exact h'
theorem law_MetaChild (s : List UInt8) (n : Int) (hs : s.length ≤ 140737488351232) (h1 : (Lit.int .i64 n).wf = true) : R T0 6 [.s s, .i .i64 n] (.b true) := c6 s n hs (wf64 h1).2
end Go.Proofs.YtpnoongjaehmlaaDoor.Ev
