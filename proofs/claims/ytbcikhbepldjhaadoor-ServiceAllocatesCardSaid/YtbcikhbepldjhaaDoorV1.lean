/- The decimal texts, and the weight of an endpoint for a client. -/
import Derived.Test.YtbcikhbepldjhaaDoorV0
import Derived.Lib.ItoaLen
namespace Go.Proofs.YtbcikhbepldjhaaDoor.Ev
open Go Go.RowKit
set_option linter.unusedSimpArgs false
set_option linter.unusedVariables false
set_option maxRecDepth 100000

theorem c9 : R T0 9 [] (.b true) := ⟨60, fun σ => by kernel_rfl⟩
theorem e9 {d : Nat} {σ : AS} {K : AV → AS → Prop} : oC T0 d 9 [] σ K = K (.b true) σ := c9.eq d σ K
theorem wf64 {x : Int} (h : (Lit.int .i64 x).wf = true) : -9223372036854775808 ≤ x ∧ x ≤ 9223372036854775807 := by
  have h' : (decide ((-9223372036854775808 : Int) ≤ x) && decide (x ≤ (9223372036854775807 : Int))) = true := h
  simp only [Bool.and_eq_true, decide_eq_true_eq] at h'
  exact h'
theorem c34 (n : Int) (h0 : -9223372036854775808 ≤ n) (h1 : n ≤ 9223372036854775807) : R T0 34 [.i .i64 n] (.s (Lib.itoa n)) := by
  refine ⟨1, fun σ => ?_⟩
  have p1 : T0.prim 34 = none := by kernel_rfl
  have p2 : extR T0 34 = extItoa := by kernel_rfl
  have p3 : extItoa [.i .i64 n] = some (.s (Lib.itoa n)) := by
    unfold extItoa
    simp only [show -9223372036854775808 ≤ n ∧ n ≤ 9223372036854775807 from ⟨h0, h1⟩, and_self, if_true]
    rw [itoaK_eq h0 h1]
  have p4 : extR T0 34 [.i .i64 n] = some (.s (Lib.itoa n)) := by rw [p2]; exact p3
  unfold evCall
  simp only [p1, p4]
theorem c32 (n : Int) (h0 : -9223372036854775808 ≤ n) (h1 : n ≤ 9223372036854775807) : R T0 32 [.i .i64 n] (.s (Lib.itoa n)) := by
  refine r32 _ rfl rfl ?_
  unfold w32
  dsimp only [prims]
  rw [(c34 n h0 h1).eq, oZ_s]
theorem dlen {u : Nat} (h : u ≤ 9223372036854775807) : (Lib.decDigits u).length ≤ 20 ∧ 1 ≤ (Lib.decDigits u).length := by
  rw [Lib.decDigits_length]
  exact ⟨Lib.nDigits_le20 u (by omega), Lib.nDigits_pos u⟩
theorem dstep {u : Nat} (h : ¬ u < 10) : Lib.decDigits u = Lib.decDigits (u / 10) ++ [UInt8.ofNat (48 + u % 10)] := by rw [Lib.decDigits, dif_neg h]
theorem lit_86 (a : Int) : evLit T0 86 1 [(0, .i .u8 a)] = some (.cells [.i .u8 a] 5 false, fun id => .sl id 0 1 (some 1)) := by kernel_rfl
theorem conv_86 {h : Tr AB} {id : Nat} {u : Nat} (hu : u < 10) (hg : h.get id = some (.cells [.i .u8 (48 + u)] 5 false)) : evConv T0 h 86 9 (.sl id 0 1 (some 1)) = some (.s [UInt8.ofNat (48 + u)]) := by
  have e1 : T0.ty 86 = some (.slice 5) := by kernel_rfl
  have e2 : T0.ty 9 = some .string := by kernel_rfl
  have e3 : T0.ty 5 = some (.int .u8) := by kernel_rfl
  have e4 : ((48 + (u : Int)).toNat) = 48 + u := by omega
  simp [evConv, e1, e2, e3, sliceCells, hg, takeN, bytesOf, e4]
theorem conv_u8 {h : Tr AB} {u : Nat} (hu : u < 10) : evConv T0 h 3 5 (.i .i64 (48 + u)) = some (.i .u8 (48 + u)) := by
  have e1 : T0.ty 3 = some (.int .i64) := by kernel_rfl
  have e2 : T0.ty 5 = some (.int .u8) := by kernel_rfl
  have e3 : IntKind.wrap .u8 (48 + (u : Int)) = 48 + u := by
    have := (Go.IntWalk.u8_in (48 + (u : Int)) ⟨by omega, by omega⟩)
    exact this
  simp [evConv, e1, e2, e3]
theorem rem_10 (u : Nat) (c : Bool) : evBin T0 .rem 3 c (.i .i64 (u : Int)) (.i .i64 10) = some (.i .i64 ((u % 10 : Nat) : Int)) := by
  rw [bin_rem (by decide)]
  congr 2
theorem quo_10 (u : Nat) (hu : u ≤ 9223372036854775807) (c : Bool) : evBin T0 .quo 3 c (.i .i64 (u : Int)) (.i .i64 10) = some (.i .i64 ((u / 10 : Nat) : Int)) := by
  rw [bin_quo (by decide)]
  have e : Int.tdiv (u : Int) 10 = ((u / 10 : Nat) : Int) := rfl
  rw [e, wr64 (by omega) (by omega)]
theorem c37 (n : Nat) (hn : n ≤ 9223372036854775807) : R T0 37 [.i .i64 (n : Int)] (.s (Lib.decDigits n)) := by
  refine r37 _ rfl rfl ?_
  unfold w37
  dsimp only [prims]
  have hl := dlen hn
  simp (disch := omega) only [oV_some', rem_10, bin_add, wr64, conv_u8, lit_86, oE_some, oN_eq]
  rw [conv_86 (u := n % 10) (by omega) (get_put_same _ _ _)]
  rw [oV_some']
  refine loop2 (X := Nat × List UInt8) (fun x => .s ([UInt8.ofNat (48 + x.1 % 10)] ++ x.2)) (fun x => .i .i64 (x.1 : Int)) (fun x _ => x.1 ≤ 9223372036854775807 ∧ Lib.decDigits x.1 ++ x.2 = Lib.decDigits n) (fun x => x.1) ?_ (n, []) _ ⟨hn, by simp⟩
  rintro R ⟨m, Y⟩ σ ⟨hm, he⟩ hR
  dsimp only at he hm ⊢
  have hY : Y.length ≤ 20 := by
    have := congrArg List.length he
    rw [List.length_append] at this
    omega
  simp (disch := omega) only [oV_some', bin_ge]
  refine oI_decd (fun h => ?_) (fun h => ?_)
  · simp (disch := omega) only [oV_some', quo_10, rem_10, bin_add, wr64, conv_u8, lit_86, oE_some, oN_eq]
    rw [conv_86 (u := m / 10 % 10) (by omega) (get_put_same _ _ _)]
    rw [oV_some', bin_sadd (by simp; omega), oV_some']
    refine hR (m / 10, [UInt8.ofNat (48 + m % 10)] ++ Y) _ ⟨by dsimp only; omega, ?_⟩ (by dsimp only; omega)
    dsimp only
    rw [← he, dstep (u := m) (by omega), List.append_assoc]
  · rw [oZ_s]
    rw [← he, Lib.decDigits_one (by omega)]
    have : m % 10 = m := by omega
    rw [this]
theorem un_neg {a : Int} (h0 : -9223372036854775807 ≤ a) (h1 : a ≤ 9223372036854775807) : evUn .neg (.i .i64 a) = some (.i .i64 (-a)) := by
  have := wr64 (x := -a) (by omega) (by omega)
  simp [evUn, this]
theorem itoa_len {n : Int} (h0 : -9223372036854775808 ≤ n) (h1 : n ≤ 9223372036854775807) : (Lib.itoa n).length ≤ 21 := Lib.itoa_length_le n h0 h1
theorem c35 (n : Int) (h0 : -9223372036854775808 ≤ n) (h1 : n ≤ 9223372036854775807) : R T0 35 [.i .i64 n] (.s (Lib.itoa n)) := by
  refine r35 _ rfl rfl ?_
  unfold w35
  dsimp only [prims]
  simp (disch := omega) only [oV_some', bin_ge]
  refine oI_decd (fun h => ?_) (fun h => ?_)
  · obtain ⟨m, rfl⟩ : ∃ m : Nat, n = m := ⟨n.toNat, by omega⟩
    rw [(c37 m (by omega)).eq, oZ_s]
    unfold Lib.itoa
    rw [if_neg (by omega), Int.toNat_natCast]
  · obtain ⟨m, hm⟩ : ∃ m : Nat, n = -(m : Int) := ⟨n.natAbs, by omega⟩
    have hq : Int.tdiv n 10 = -((m / 10 : Nat) : Int) := by rw [hm, Int.neg_tdiv]; rfl
    have hr : Int.tmod n 10 = -((m % 10 : Nat) : Int) := by rw [hm, Int.neg_tmod]; rfl
    have hi : Lib.itoa n = 45 :: Lib.decDigits m := by
      unfold Lib.itoa
      rw [if_pos (by omega)]
      congr 2; omega
    have l1 := dlen (u := m / 10) (by omega)
    have l2 := dlen (u := m % 10) (by omega)
    simp (disch := first | omega | decide) only [oV_some', bin_quo, bin_rem, hq, hr, wr64, bin_eq]
    refine oI_decd (fun h => ?_) (fun h => ?_)
    · have hs : m < 10 := by omega
      simp (disch := omega) only [oV_some', un_neg]
      have e : -n = (m : Int) := by omega
      rw [e, (c37 m (by omega)).eq, bin_sadd (by simp; rw [Lib.decDigits_one hs]; simp), oV_some', oZ_s, hi]
      rfl
    · simp (disch := omega) only [oV_some', un_neg, Int.neg_neg]
      rw [(c37 (m / 10) (by omega)).eq, bin_sadd (by simp; omega), oV_some', (c37 (m % 10) (by omega)).eq, bin_sadd (by simp; omega), oV_some', oZ_s, hi]
      rw [dstep (u := m) (by omega), ← Lib.decDigits_one (i := m % 10) (by omega)]
      rfl
/-- One byte more of the weight. -/
def fstep (h : Int) (c : UInt8) : Int := IntKind.wrap .u64 (IntKind.wrap .u64 ((BitVec.ofInt 64 h ^^^ BitVec.ofInt 64 (c.toNat : Int)).toNat) * 1099511628211)
def fnv (l : List UInt8) : Int := l.foldl fstep 14695981039346656037
def wtext (client : Int) (pod : List UInt8) : List UInt8 := Lib.itoa client ++ [47] ++ pod
def weightOf (client : Int) (pod : List UInt8) : Int := fnv (wtext client pod)
theorem fnv_take {l : List UInt8} {j : Nat} (hj : j < l.length) : fnv (l.take (j + 1)) = fstep (fnv (l.take j)) (l.getD j 0) := by
  unfold fnv
  rw [List.take_add_one, List.foldl_append, List.getElem?_eq_getElem hj]
  simp [List.getD_eq_getElem?_getD, hj]
theorem xor_64 (a b : Int) (c : Bool) : evBin T0 .xor 63 c (.i .u64 a) (.i .u64 b) = some (.i .u64 (IntKind.wrap .u64 ((BitVec.ofInt 64 a ^^^ BitVec.ofInt 64 b).toNat))) := by
  simp [evBin, iop]; rfl
theorem conv_64 {h : Tr AB} (c : UInt8) : evConv T0 h 5 63 (.i .u8 (c.toNat : Int)) = some (.i .u64 (c.toNat : Int)) := by
  have e1 : T0.ty 5 = some (.int .u8) := by kernel_rfl
  have e2 : T0.ty 63 = some (.int .u64) := by kernel_rfl
  have hc := c.toNat_lt
  have e3 : IntKind.wrap .u64 ((c.toNat : Nat) : Int) = c.toNat := by
    have := (Go.IntWalk.u64_in ((c.toNat : Nat) : Int) ⟨by omega, by omega⟩)
    exact this
  simp [evConv, e1, e2, e3]
theorem c23 (n : Int) (p : List UInt8) (h0 : -9223372036854775808 ≤ n) (h1 : n ≤ 9223372036854775807) (hp : p.length ≤ 140737488351232) : R T0 23 [.i .i64 n, .s p] (.i .u64 (weightOf n p)) := by
  have hl := itoa_len h0 h1
  refine r23 _ _ rfl rfl ?_
  unfold w23
  dsimp only [prims]
  rw [(c32 n h0 h1).eq, bin_sadd (by simp; omega), oV_some', bin_sadd (by simp; omega), oV_some']
  unfold weightOf
  have ht : (Lib.itoa n ++ [47] ++ p).length ≤ 140737488351300 := by simp; omega
  change _
  generalize hs : wtext n p = s
  have hs' : Lib.itoa n ++ [47] ++ p = s := hs
  rw [hs'] at ht ⊢
  simp only [oV_some', len_9]
  refine loop4 (X := Nat) (fun j => .i .u64 (fnv (s.take j))) (fun _ => .s s) (fun _ => .i .i64 (s.length : Nat)) (fun j => .i .i64 (j : Nat)) (fun j _ => j ≤ s.length) (fun j => s.length - j) ?_ 0 _ (Nat.zero_le _)
  rintro R j σ hj hR
  simp (disch := omega) only [oV_some', bin_lt]
  refine oI_decd (fun h => ?_) (fun h => ?_)
  · simp (disch := omega) only [oV_some', idx_9, Int.toNat_natCast, conv_64, xor_64, bin_mul, bin_add, wr64]
    have := hR (j + 1) σ (by omega) (by omega)
    rw [fnv_take (by omega)] at this
    exact this
  · rw [oZ_i, List.take_of_length_le (by omega)]
theorem e23 {n : Int} {p : List UInt8} (h0 : -9223372036854775808 ≤ n) (h1 : n ≤ 9223372036854775807) (hp : p.length ≤ 140737488351232) {d : Nat} {σ : AS} {K : AV → AS → Prop} : oC T0 d 23 [.i .i64 n, .s p] σ K = K (.i .u64 (weightOf n p)) σ := (c23 n p h0 h1 hp).eq d σ K
theorem c33 (n : Int) (p : List UInt8) (h0 : -9223372036854775808 ≤ n) (h1 : n ≤ 9223372036854775807) (hp : p.length ≤ 140737488351232) : R T0 33 [.i .i64 n, .s p] (.i .u64 (weightOf n p)) := by
  have hl := itoa_len h0 h1
  refine r33 _ _ rfl rfl ?_
  unfold w33
  dsimp only [prims]
  rw [(c35 n h0 h1).eq, bin_sadd (by simp; omega), oV_some', bin_sadd (by simp; omega), oV_some']
  unfold weightOf
  have ht : (Lib.itoa n ++ [47] ++ p).length ≤ 140737488351300 := by simp; omega
  generalize hs : wtext n p = s
  have hs' : Lib.itoa n ++ [47] ++ p = s := hs
  rw [hs'] at ht ⊢
  refine loop3 (X := Nat) (fun j => .i .u64 (fnv (s.take j))) (fun _ => .s s) (fun j => .i .i64 (j : Nat)) (fun j _ => j ≤ s.length) (fun j => s.length - j) ?_ 0 _ (Nat.zero_le _)
  rintro R j σ hj hR
  simp (disch := omega) only [oV_some', len_9, bin_lt]
  refine oI_decd (fun h => ?_) (fun h => ?_)
  · simp (disch := omega) only [oV_some', idx_9, Int.toNat_natCast, conv_64, xor_64, bin_mul, bin_add, wr64]
    have := hR (j + 1) σ (by omega) (by omega)
    rw [fnv_take (by omega)] at this
    exact this
  · rw [oZ_i, List.take_of_length_le (by omega)]
theorem e33 {n : Int} {p : List UInt8} (h0 : -9223372036854775808 ≤ n) (h1 : n ≤ 9223372036854775807) (hp : p.length ≤ 140737488351232) {d : Nat} {σ : AS} {K : AV → AS → Prop} : oC T0 d 33 [.i .i64 n, .s p] σ K = K (.i .u64 (weightOf n p)) σ := (c33 n p h0 h1 hp).eq d σ K
end Go.Proofs.YtbcikhbepldjhaaDoor.Ev
