/- Quoted texts and decimal numbers. -/
import Derived.Test.YtmfhmlhaofpeiaaGreatDoorV12
namespace Go.Proofs.YtmfhmlhaofpeiaaGreatDoor.Ev
open Go Go.RowKit
set_option linter.unusedSimpArgs false
set_option linter.unusedVariables false
set_option maxRecDepth 100000

theorem sls {s : List UInt8} {h : Tr AB} {l r : Nat} {k1 k2 : IntKind} (h1 : l ≤ r) (h2 : r ≤ s.length) : evSliceH T0 h 9 (.s s) (some (.i k1 (l : Nat))) (some (.i k2 (r : Nat))) none = some (.s ((s.drop l).take (r - l))) := by
  have b1 : bnd0 s.length s.length (some (.i k2 (r : Nat))) = some r := by
    simp only [bnd0, bnd]; rw [if_pos ⟨by omega, by omega⟩]; simp
  have b2 : bnd0 r 0 (some (.i k1 (l : Nat))) = some l := by
    simp only [bnd0, bnd]; rw [if_pos ⟨by omega, by omega⟩]; simp
  have b : bounds3 s.length (some s.length) (some (.i k1 (l : Nat))) (some (.i k2 (r : Nat))) none = some (l, r, some s.length) := by
    simp only [bounds3, Option.getD_some, b1, b2]
  refine slH_of ?_
  unfold evSlice
  simp only [ty9, b]
theorem take_one {s : List UInt8} {j : Nat} (hj : j < s.length) : (s.drop j).take (j + 1 - j) = [s.getD j 0] := by
  have : j + 1 - j = 1 := by omega
  rw [this, List.getD_eq_getElem?_getD, List.getElem?_eq_getElem hj, List.drop_eq_getElem_cons hj]; rfl
def dec (n : Nat) : List UInt8 := if n < 10 then [UInt8.ofNat (48 + n)] else [UInt8.ofNat (48 + n / 10), UInt8.ofNat (48 + n % 10)]
theorem dig_at : ∀ n, n < 10 → (([48, 49, 50, 51, 52, 53, 54, 55, 56, 57] : List UInt8).drop n).take (n + 1 - n) = [UInt8.ofNat (48 + n)] := by decide
theorem c46 (n : Nat) (hn : n ≤ 64) : R T0 46 [.i .i64 (n : Nat)] (.s (dec n)) := by
  refine r46 _ rfl rfl ?_
  unfold w46
  dsimp only [prims]
  by_cases h : n < 10
  · have h' : decide (((n : Nat) : Int) < 10) = true := decide_eq_true (by omega)
    have e1 : ((n : Nat) : Int) + 1 = ((n + 1 : Nat) : Int) := by omega
    simp (disch := first | omega | assumption | exact scell | exact clen_XStep | (simp only [clen_XStep]; omega)) only [Nat.zero_add, oV_some', oN_eq, oM_some, oH_some, oD_some, oE_some, oS_eq, oT_true, oI_true, oI_false, pick_t, pick_f, un_not, oI_not, decide_not, toNat_sub1, toNat_add1, decide_true, decide_false, not_true, not_false_eq_true, Bool.not_true, Bool.not_false, Bool.not_not, oZ_b, oZ_i, oZ_s, oZ_l, slen_map, wr64, Int.toNat_natCast, Int.toNat_zero, ne_eq, bin_lt, bin_slt, bin_add, ofc_encXStep, ofc0_encXStep, st_XStep, fld_XStep_kind_, fld_XStep_name_, fld_XStep_index_, fld_XStep_value_, prt_XStep_kind_, prt_XStep_name_, prt_XStep_index_, prt_XStep_value_, h', e1, sls (s := [48, 49, 50, 51, 52, 53, 54, 55, 56, 57]) (l := n) (r := n + 1) (by omega) (by show n + 1 ≤ 10; omega), dig_at n h]
    unfold dec; rw [if_pos h]
  · have h' : decide (((n : Nat) : Int) < 10) = false := decide_eq_false (by omega)
    have q1 : (n : Int).tdiv 10 = ((n / 10 : Nat) : Int) := by rw [Int.tdiv_eq_ediv_of_nonneg (by omega)]; omega
    have q2 : (n : Int).tmod 10 = ((n % 10 : Nat) : Int) := by rw [Int.tmod_eq_emod_of_nonneg (by omega)]; omega
    have e1 : ((n / 10 : Nat) : Int) + 1 = ((n / 10 + 1 : Nat) : Int) := by omega
    have e2 : ((n % 10 : Nat) : Int) + 1 = ((n % 10 + 1 : Nat) : Int) := by omega
    have d1 : n / 10 < 10 := by omega
    have d2 : n % 10 < 10 := by omega
    have hq : ∀ c, evBin T0 .quo 3 c (.i .i64 (n : Nat)) (.i .i64 10) = some (.i .i64 ((n / 10 : Nat) : Int)) := fun c => by rw [bin_quo (by decide), q1, wr64 (by omega) (by omega)]
    have hr : ∀ c, evBin T0 .rem 3 c (.i .i64 (n : Nat)) (.i .i64 10) = some (.i .i64 ((n % 10 : Nat) : Int)) := fun c => by rw [bin_rem (by decide), q2]
    simp (disch := first | omega | assumption | exact scell | exact clen_XStep | (simp only [clen_XStep]; omega)) only [Nat.zero_add, oV_some', oN_eq, oM_some, oH_some, oD_some, oE_some, oS_eq, oT_true, oI_true, oI_false, pick_t, pick_f, un_not, oI_not, decide_not, toNat_sub1, toNat_add1, decide_true, decide_false, not_true, not_false_eq_true, Bool.not_true, Bool.not_false, Bool.not_not, oZ_b, oZ_i, oZ_s, oZ_l, slen_map, wr64, Int.toNat_natCast, Int.toNat_zero, ne_eq, bin_lt, bin_slt, bin_add, ofc_encXStep, ofc0_encXStep, st_XStep, fld_XStep_kind_, fld_XStep_name_, fld_XStep_index_, fld_XStep_value_, prt_XStep_kind_, prt_XStep_name_, prt_XStep_index_, prt_XStep_value_, h', hq, hr, e1, e2, sls (s := [48, 49, 50, 51, 52, 53, 54, 55, 56, 57]) (l := n / 10) (r := n / 10 + 1) (by omega) (by show n / 10 + 1 ≤ 10; omega), sls (s := [48, 49, 50, 51, 52, 53, 54, 55, 56, 57]) (l := n % 10) (r := n % 10 + 1) (by omega) (by show n % 10 + 1 ≤ 10; omega), dig_at _ d1, dig_at _ d2]
    rw [bin_sadd (by simp), oV_some', oZ_s]
    unfold dec; rw [if_neg h]; rfl
theorem e46 {n : Nat} (hn : n ≤ 64) {d : Nat} {σ : AS} {K : AV → AS → Prop} : oC T0 d 46 [.i .i64 (n : Nat)] σ K = K (.s (dec n)) σ := (c46 n hn).eq d σ K
/-- Quotes. -/
def quC (c : UInt8) : List UInt8 := if c.toNat = 10 then [92, 110] else if c.toNat = 34 ∨ c.toNat = 92 then [92, c] else [c]
def quS (s : List UInt8) : List UInt8 := [34] ++ s.flatMap quC ++ [34]
theorem quC_len (c : UInt8) : (quC c).length ≤ 2 := by
  unfold quC; split
  · decide
  · split <;> simp
theorem flat_len (s : List UInt8) : (s.flatMap quC).length ≤ 2 * s.length := by
  induction s with
  | nil => simp
  | cons c s ih => have := quC_len c; simp only [List.flatMap_cons, List.length_append, List.length_cons]; omega
theorem flat_take {s : List UInt8} {j : Nat} (hj : j < s.length) : (s.take (j + 1)).flatMap quC = (s.take j).flatMap quC ++ quC (s.getD j 0) := by
  have : s.take (j + 1) = s.take j ++ [s.getD j 0] := by
    rw [List.take_add_one, List.getD_eq_getElem?_getD, List.getElem?_eq_getElem hj]; rfl
  rw [this, List.flatMap_append]; simp
theorem flat_take_len (s : List UInt8) (j : Nat) : ((s.take j).flatMap quC).length ≤ 2 * s.length := by
  have h1 := flat_len (s.take j)
  have h2 : (s.take j).length ≤ s.length := by rw [List.length_take]; omega
  omega
theorem c47 (s : List UInt8) (hs : s.length ≤ 100000) : R T0 47 [.s s] (.s (quS s)) := by
  refine r47 _ rfl rfl ?_
  unfold w47
  dsimp only [prims]
  refine loop3 (X := Nat) (fun j => .s ([34] ++ (s.take j).flatMap quC)) (fun _ => .s s) (fun j => .i .i64 (j : Nat)) (fun j σ => j ≤ s.length) (fun j => s.length - j) ?_ 0 _ (Nat.zero_le _)
  rintro R j σ hj hR
  simp (disch := first | omega | assumption | exact scell | exact clen_XStep | (simp only [clen_XStep]; omega)) only [oV_some', len_9, bin_lt]
  refine oI_decd (fun h => ?_) (fun h => ?_)
  · have hj' : j < s.length := by omega
    have hfl := flat_take_len s j
    have e1 : ((j : Nat) : Int) + 1 = ((j + 1 : Nat) : Int) := by omega
    have hR' := hR (j + 1)
    rw [flat_take hj', ← List.append_assoc] at hR'
    have sl := fun (h : Tr AB) => sls (h := h) (s := s) (l := j) (r := j + 1) (k1 := .i64) (k2 := .i64) (by omega) (by omega)
    rw [take_one hj'] at sl
    generalize hA : [34] ++ (s.take j).flatMap quC = A at hR' ⊢
    have hAl : A.length ≤ 2 * s.length + 1 := by rw [← hA]; simp only [List.length_append, List.length_cons, List.length_nil]; omega
    have ad : ∀ (b : List UInt8) (c : Bool), b.length ≤ 2 → evBin T0 .add 9 c (.s A) (.s b) = some (.s (A ++ b)) := fun b c hb => bin_sadd (by omega) c
    have ad2 : ∀ (b d : List UInt8) (c : Bool), b.length ≤ 2 → d.length ≤ 2 → evBin T0 .add 9 c (.s (A ++ b)) (.s d) = some (.s (A ++ b ++ d)) := fun b d c hb hd => bin_sadd (by rw [List.length_append]; omega) c
    by_cases q1 : (s.getD j 0).toNat = 10
    · have q1' : decide ((((s.getD j 0).toNat : Nat) : Int) = 10) = true := decide_eq_true (by omega)
      simp (disch := first | first | omega | assumption | exact scell | exact clen_XStep | (simp only [clen_XStep]; omega) | simp) only [Nat.zero_add, oV_some', oN_eq, oM_some, oH_some, oD_some, oE_some, oS_eq, oT_true, oI_true, oI_false, pick_t, pick_f, un_not, oI_not, decide_not, toNat_sub1, toNat_add1, decide_true, decide_false, not_true, not_false_eq_true, Bool.not_true, Bool.not_false, Bool.not_not, oZ_b, oZ_i, oZ_s, oZ_l, slen_map, wr64, Int.toNat_natCast, Int.toNat_zero, ne_eq, bin_lt, bin_slt, bin_eq, b_snil, beq_4, bin_add, len_9, idx_9, ofc_encXStep, ofc0_encXStep, st_XStep, fld_XStep_kind_, fld_XStep_name_, fld_XStep_index_, fld_XStep_value_, prt_XStep_kind_, prt_XStep_name_, prt_XStep_index_, prt_XStep_value_, join3_eq, gtt_4, gff_4, gtf_4, gft_4, gvv_4, gnt_4, gnf_4, Int.toNat_natCast, q1', ad, e1]
      have : quC (s.getD j 0) = [92, 110] := by unfold quC; rw [if_pos q1]
      rw [this] at hR'
      exact hR' _ (show j + 1 ≤ s.length by omega) (by omega)
    · have q1' : decide ((((s.getD j 0).toNat : Nat) : Int) = 10) = false := decide_eq_false (by omega)
      by_cases q2 : (s.getD j 0).toNat = 34 ∨ (s.getD j 0).toNat = 92
      · have : quC (s.getD j 0) = [92] ++ [s.getD j 0] := by unfold quC; rw [if_neg q1, if_pos q2]; rfl
        rw [this, ← List.append_assoc] at hR'
        by_cases q3 : (s.getD j 0).toNat = 34
        · have q3' : decide ((((s.getD j 0).toNat : Nat) : Int) = 34) = true := decide_eq_true (by omega)
          simp (disch := first | first | omega | assumption | exact scell | exact clen_XStep | (simp only [clen_XStep]; omega) | simp) only [Nat.zero_add, oV_some', oN_eq, oM_some, oH_some, oD_some, oE_some, oS_eq, oT_true, oI_true, oI_false, pick_t, pick_f, un_not, oI_not, decide_not, toNat_sub1, toNat_add1, decide_true, decide_false, not_true, not_false_eq_true, Bool.not_true, Bool.not_false, Bool.not_not, oZ_b, oZ_i, oZ_s, oZ_l, slen_map, wr64, Int.toNat_natCast, Int.toNat_zero, ne_eq, bin_lt, bin_slt, bin_eq, b_snil, beq_4, bin_add, len_9, idx_9, ofc_encXStep, ofc0_encXStep, st_XStep, fld_XStep_kind_, fld_XStep_name_, fld_XStep_index_, fld_XStep_value_, prt_XStep_kind_, prt_XStep_name_, prt_XStep_index_, prt_XStep_value_, join3_eq, gtt_4, gff_4, gtf_4, gft_4, gvv_4, gnt_4, gnf_4, Int.toNat_natCast, q1', q3', ad, e1, sl, ad2]
          exact hR' _ (show j + 1 ≤ s.length by omega) (by omega)
        · have q3' : decide ((((s.getD j 0).toNat : Nat) : Int) = 34) = false := decide_eq_false (by omega)
          have q4' : decide ((((s.getD j 0).toNat : Nat) : Int) = 92) = true := decide_eq_true (by omega)
          simp (disch := first | first | omega | assumption | exact scell | exact clen_XStep | (simp only [clen_XStep]; omega) | simp) only [Nat.zero_add, oV_some', oN_eq, oM_some, oH_some, oD_some, oE_some, oS_eq, oT_true, oI_true, oI_false, pick_t, pick_f, un_not, oI_not, decide_not, toNat_sub1, toNat_add1, decide_true, decide_false, not_true, not_false_eq_true, Bool.not_true, Bool.not_false, Bool.not_not, oZ_b, oZ_i, oZ_s, oZ_l, slen_map, wr64, Int.toNat_natCast, Int.toNat_zero, ne_eq, bin_lt, bin_slt, bin_eq, b_snil, beq_4, bin_add, len_9, idx_9, ofc_encXStep, ofc0_encXStep, st_XStep, fld_XStep_kind_, fld_XStep_name_, fld_XStep_index_, fld_XStep_value_, prt_XStep_kind_, prt_XStep_name_, prt_XStep_index_, prt_XStep_value_, join3_eq, gtt_4, gff_4, gtf_4, gft_4, gvv_4, gnt_4, gnf_4, Int.toNat_natCast, q1', q3', q4', ad, e1, sl, ad2]
          exact hR' _ (show j + 1 ≤ s.length by omega) (by omega)
      · have : quC (s.getD j 0) = [s.getD j 0] := by unfold quC; rw [if_neg q1, if_neg q2]
        rw [this] at hR'
        have q3' : decide ((((s.getD j 0).toNat : Nat) : Int) = 34) = false := decide_eq_false (by omega)
        have q4' : decide ((((s.getD j 0).toNat : Nat) : Int) = 92) = false := decide_eq_false (by omega)
        simp (disch := first | first | omega | assumption | exact scell | exact clen_XStep | (simp only [clen_XStep]; omega) | simp) only [Nat.zero_add, oV_some', oN_eq, oM_some, oH_some, oD_some, oE_some, oS_eq, oT_true, oI_true, oI_false, pick_t, pick_f, un_not, oI_not, decide_not, toNat_sub1, toNat_add1, decide_true, decide_false, not_true, not_false_eq_true, Bool.not_true, Bool.not_false, Bool.not_not, oZ_b, oZ_i, oZ_s, oZ_l, slen_map, wr64, Int.toNat_natCast, Int.toNat_zero, ne_eq, bin_lt, bin_slt, bin_eq, b_snil, beq_4, bin_add, len_9, idx_9, ofc_encXStep, ofc0_encXStep, st_XStep, fld_XStep_kind_, fld_XStep_name_, fld_XStep_index_, fld_XStep_value_, prt_XStep_kind_, prt_XStep_name_, prt_XStep_index_, prt_XStep_value_, join3_eq, gtt_4, gff_4, gtf_4, gft_4, gvv_4, gnt_4, gnf_4, Int.toNat_natCast, q1', q3', q4', ad, e1, sl, ad2]
        exact hR' _ (show j + 1 ≤ s.length by omega) (by omega)
  · have hall : s.take j = s := List.take_of_length_le (by omega)
    have hfl := flat_len s
    rw [hall, bin_sadd (by simp only [List.length_append, List.length_cons, List.length_nil]; omega), oV_some', oZ_s]; rfl
theorem e47 {s : List UInt8} (hs : s.length ≤ 100000) {d : Nat} {σ : AS} {K : AV → AS → Prop} : oC T0 d 47 [.s s] σ K = K (.s (quS s)) σ := (c47 s hs).eq d σ K
end Go.Proofs.YtmfhmlhaofpeiaaGreatDoor.Ev
