/- The program's unquote. -/
import Derived.Test.YtmfhmlhaofpeiaaGreatDoorV24
namespace Go.Proofs.YtmfhmlhaofpeiaaGreatDoor.Ev
open Go Go.RowKit
set_option linter.unusedSimpArgs false
set_option linter.unusedVariables false
set_option maxRecDepth 100000

theorem e97 {s : List UInt8} {i : Nat} (hl : s.length ≤ 100000) (hi : i ≤ s.length) {d : Nat} {σ : AS} {K : AV → AS → Prop} : oC T0 d 97 [.s s, .i .i64 (i : Nat)] σ K = K (uqI s i) σ := (c97 s i hl hi).eq d σ K
def upR : UQ → AV
  | .ok acc rest => .tup [.s acc, .s rest, .b true]
  | _ => .tup [.s [], .s [], .b false]
def upI (s : List UInt8) : AV := if 0 < s.length ∧ (s.getD 0 0).toNat = 34 then upR (unqL [] (s.drop 1)) else .tup [.s [], .s [], .b false]
theorem ozssb {σ : AS} {K : AV → Prop} {a c : List UInt8} {b : Bool} : oZ T0 σ (.tup [.s a, .s c, .b b]) K = K (.tup [.s a, .s c, .b b]) := oZ_free rfl
theorem slE {s : List UInt8} {l : Nat} {k : IntKind} (h : l ≤ s.length) : evSlice T0 9 (.s s) (some (.i k (l : Nat))) none none = some (.s (s.drop l)) := by
  have b2 : bnd0 s.length 0 (some (.i k (l : Nat))) = some l := by
    simp only [bnd0, bnd]; rw [if_pos ⟨by omega, by omega⟩]; simp
  have b1 : bnd0 s.length s.length none = some s.length := rfl
  have b : bounds3 s.length (some s.length) (some (.i k (l : Nat))) none none = some (l, s.length, some s.length) := by
    simp only [bounds3, Option.getD_some, b1, b2]
  unfold evSlice
  simp only [ty9, b]
  rw [← List.length_drop, List.take_length]
theorem pl_s (s : List UInt8) : plainA (.s s) = true := rfl
theorem pl_i (k : IntKind) (n : Int) : plainA (.i k n) = true := rfl
theorem pl_o (k : IntKind) (n : Int) : plainOp (some (.i k n)) = true := rfl
theorem pl_n : plainOp none = true := rfl
theorem c65 (s : List UInt8) (hl : s.length ≤ 100000) : R T0 65 [.s s] (upI s) := by
  refine r65 _ rfl rfl ?_
  unfold w65
  dsimp only [prims]
  rw [oN_eq]
  have b0 : Bld (Tr.nil.put 0 (some (.cells [.nilp, .nilz true] 65 false))) 1 0 [] none := bld_new
  by_cases h0 : s.length = 0
  · have l0' : decide (s.length = 0) = true := decide_eq_true h0
    rw [show upI s = .tup [.s [], .s [], .b false] from if_neg (fun q => by omega)]
    simp (disch := first | first | omega | assumption | exact scell | exact clen_XStep | (simp only [clen_XStep]; omega) | (simp only [List.length_append, List.length_cons, List.length_nil]; omega)) only [Nat.zero_add, oV_some', oN_eq, oM_some, oH_some, oD_some, oE_some, oS_eq, oT_true, oI_true, oI_false, pick_t, pick_f, un_not, oI_not, decide_not, toNat_sub1, toNat_add1, decide_true, decide_false, not_true, not_false_eq_true, Bool.not_true, Bool.not_false, Bool.not_not, oZ_b, oZ_i, oZ_s, oZ_l, slen_map, wr64, Int.toNat_natCast, Int.toNat_zero, ne_eq, bin_lt, bin_slt, bin_gt, b_sgt, bin_eq, b_snil, beq_4, bin_ne, b_snnil, bne_4, bin_add, len_9, idx_9, join3_eq, gtt_1, gff_1, gtf_1, gft_1, gvv_1, gnt_1, gnf_1, gtt_2, gff_2, gtf_2, gft_2, gvv_2, gnt_2, gnf_2, gtt_3, gff_3, gtf_3, gft_3, gvv_3, gnt_3, gnf_3, gtt_5, gff_5, gtf_5, gft_5, gvv_5, gnt_5, gnf_5, gtt_6, gff_6, gtf_6, gft_6, gvv_6, gnt_6, gnf_6, Int.toNat_natCast, l0', ozssb]
  · have l0' : decide (s.length = 0) = false := decide_eq_false h0
    have e0 : evIndex T0 9 (.s s) (.i .i64 0) = some (.i .u8 (s.getD 0 0).toNat) := idx_9 (k := .i64) (n := 0) (by omega) (by omega)
    by_cases h1 : (s.getD 0 0).toNat = 34
    · have d1 : decide ((((s.getD 0 0).toNat : Nat) : Int) = 34) = true := decide_eq_true (by omega)
      rw [show upI s = upR (unqL [] (s.drop 1)) from if_pos ⟨by omega, h1⟩]
      simp (disch := first | first | omega | assumption | exact scell | exact clen_XStep | (simp only [clen_XStep]; omega) | (simp only [List.length_append, List.length_cons, List.length_nil]; omega)) only [Nat.zero_add, oV_some', oN_eq, oM_some, oH_some, oD_some, oE_some, oS_eq, oT_true, oI_true, oI_false, pick_t, pick_f, un_not, oI_not, decide_not, toNat_sub1, toNat_add1, decide_true, decide_false, not_true, not_false_eq_true, Bool.not_true, Bool.not_false, Bool.not_not, oZ_b, oZ_i, oZ_s, oZ_l, slen_map, wr64, Int.toNat_natCast, Int.toNat_zero, ne_eq, bin_lt, bin_slt, bin_gt, b_sgt, bin_eq, b_snil, beq_4, bin_ne, b_snnil, bne_4, bin_add, len_9, idx_9, join3_eq, gtt_1, gff_1, gtf_1, gft_1, gvv_1, gnt_1, gnf_1, gtt_2, gff_2, gtf_2, gft_2, gvv_2, gnt_2, gnf_2, gtt_3, gff_3, gtf_3, gft_3, gvv_3, gnt_3, gnf_3, gtt_5, gff_5, gtf_5, gft_5, gvv_5, gnt_5, gnf_5, gtt_6, gff_6, gtf_6, gft_6, gvv_6, gnt_6, gnf_6, Int.toNat_natCast, l0', d1, e0]
      refine loop3 (X := Nat × List UInt8) (fun _ => .ptr 0 0) (fun _ => .s s) (fun x => .i .i64 (x.1 : Nat)) (fun x σ => x.1 ≤ s.length ∧ x.2.length ≤ x.1 ∧ unqL [] (s.drop 1) = unqL x.2 (s.drop x.1) ∧ ∃ o, Bld σ.h σ.n 0 x.2 o) (fun x => s.length - x.1) ?_ (1, []) _ ⟨by dsimp only; omega, Nat.zero_le _, rfl, none, b0⟩
      rintro R ⟨j, A⟩ ⟨h, n⟩ ⟨hj, hA, hu, o, hb⟩ hR
      dsimp only at hj hA hu hb
      dsimp only
      rw [hu]
      rw [hu] at hR
      have e1 : ((j : Nat) : Int) + 1 = ((j + 1 : Nat) : Int) := by omega
      by_cases hj' : j < s.length
      · have f1 : decide (((j : Nat) : Int) < (s.length : Nat)) = true := decide_eq_true (by omega)
        by_cases q1 : (s.getD j 0).toNat = 34
        · have q1' : decide ((((s.getD j 0).toNat : Nat) : Int) = 34) = true := decide_eq_true (by omega)
          rw [unq_q hj' q1, show upR (.ok A (s.drop (j + 1))) = .tup [.s A, .s (s.drop (j + 1)), .b true] from rfl]
          have r3 := c45 hb (by omega)
          simp (disch := first | first | omega | assumption | exact scell | exact clen_XStep | (simp only [clen_XStep]; omega) | (simp only [List.length_append, List.length_cons, List.length_nil]; omega)) only [Nat.zero_add, oV_some', oN_eq, oM_some, oH_some, oD_some, oE_some, oS_eq, oT_true, oI_true, oI_false, pick_t, pick_f, un_not, oI_not, decide_not, toNat_sub1, toNat_add1, decide_true, decide_false, not_true, not_false_eq_true, Bool.not_true, Bool.not_false, Bool.not_not, oZ_b, oZ_i, oZ_s, oZ_l, slen_map, wr64, Int.toNat_natCast, Int.toNat_zero, ne_eq, bin_lt, bin_slt, bin_gt, b_sgt, bin_eq, b_snil, beq_4, bin_ne, b_snnil, bne_4, bin_add, len_9, idx_9, join3_eq, gtt_1, gff_1, gtf_1, gft_1, gvv_1, gnt_1, gnf_1, gtt_2, gff_2, gtf_2, gft_2, gvv_2, gnt_2, gnf_2, gtt_3, gff_3, gtf_3, gft_3, gvv_3, gnt_3, gnf_3, gtt_5, gff_5, gtf_5, gft_5, gvv_5, gnt_5, gnf_5, gtt_6, gff_6, gtf_6, gft_6, gvv_6, gnt_6, gnf_6, Int.toNat_natCast, f1, q1', e1, pl_s, pl_i, pl_o, pl_n, slE, r3.eq, ozssb]
        · have q1' : decide ((((s.getD j 0).toNat : Nat) : Int) = 34) = false := decide_eq_false (by omega)
          by_cases q2 : (s.getD j 0).toNat < 32 ∨ 126 < (s.getD j 0).toNat
          · rw [unq_bad hj' q1 q2, show upR .bad = .tup [.s [], .s [], .b false] from rfl]
            by_cases q3 : (s.getD j 0).toNat < 32
            · have q3' : decide ((((s.getD j 0).toNat : Nat) : Int) < 32) = true := decide_eq_true (by omega)
              simp (disch := first | first | omega | assumption | exact scell | exact clen_XStep | (simp only [clen_XStep]; omega) | (simp only [List.length_append, List.length_cons, List.length_nil]; omega)) only [Nat.zero_add, oV_some', oN_eq, oM_some, oH_some, oD_some, oE_some, oS_eq, oT_true, oI_true, oI_false, pick_t, pick_f, un_not, oI_not, decide_not, toNat_sub1, toNat_add1, decide_true, decide_false, not_true, not_false_eq_true, Bool.not_true, Bool.not_false, Bool.not_not, oZ_b, oZ_i, oZ_s, oZ_l, slen_map, wr64, Int.toNat_natCast, Int.toNat_zero, ne_eq, bin_lt, bin_slt, bin_gt, b_sgt, bin_eq, b_snil, beq_4, bin_ne, b_snnil, bne_4, bin_add, len_9, idx_9, join3_eq, gtt_1, gff_1, gtf_1, gft_1, gvv_1, gnt_1, gnf_1, gtt_2, gff_2, gtf_2, gft_2, gvv_2, gnt_2, gnf_2, gtt_3, gff_3, gtf_3, gft_3, gvv_3, gnt_3, gnf_3, gtt_5, gff_5, gtf_5, gft_5, gvv_5, gnt_5, gnf_5, gtt_6, gff_6, gtf_6, gft_6, gvv_6, gnt_6, gnf_6, Int.toNat_natCast, f1, q1', q3', ozssb]
            · have q3' : decide ((((s.getD j 0).toNat : Nat) : Int) < 32) = false := decide_eq_false (by omega)
              have q4' : decide ((126 : Int) < (((s.getD j 0).toNat : Nat) : Int)) = true := decide_eq_true (by omega)
              simp (disch := first | first | omega | assumption | exact scell | exact clen_XStep | (simp only [clen_XStep]; omega) | (simp only [List.length_append, List.length_cons, List.length_nil]; omega)) only [Nat.zero_add, oV_some', oN_eq, oM_some, oH_some, oD_some, oE_some, oS_eq, oT_true, oI_true, oI_false, pick_t, pick_f, un_not, oI_not, decide_not, toNat_sub1, toNat_add1, decide_true, decide_false, not_true, not_false_eq_true, Bool.not_true, Bool.not_false, Bool.not_not, oZ_b, oZ_i, oZ_s, oZ_l, slen_map, wr64, Int.toNat_natCast, Int.toNat_zero, ne_eq, bin_lt, bin_slt, bin_gt, b_sgt, bin_eq, b_snil, beq_4, bin_ne, b_snnil, bne_4, bin_add, len_9, idx_9, join3_eq, gtt_1, gff_1, gtf_1, gft_1, gvv_1, gnt_1, gnf_1, gtt_2, gff_2, gtf_2, gft_2, gvv_2, gnt_2, gnf_2, gtt_3, gff_3, gtf_3, gft_3, gvv_3, gnt_3, gnf_3, gtt_5, gff_5, gtf_5, gft_5, gvv_5, gnt_5, gnf_5, gtt_6, gff_6, gtf_6, gft_6, gvv_6, gnt_6, gnf_6, Int.toNat_natCast, f1, q1', q3', q4', ozssb]
          · have q3' : decide ((((s.getD j 0).toNat : Nat) : Int) < 32) = false := decide_eq_false (by omega)
            have q4' : decide ((126 : Int) < (((s.getD j 0).toNat : Nat) : Int)) = false := decide_eq_false (by omega)
            have put := fun (c : UInt8) => c41 c hb (by omega)
            by_cases q5 : (s.getD j 0).toNat = 92
            · have q5' : decide ((((s.getD j 0).toNat : Nat) : Int) = 92) = true := decide_eq_true (by omega)
              by_cases hn : s.length ≤ j + 1
              · have f3 : decide (((j + 1 : Nat) : Int) < (s.length : Nat)) = false := decide_eq_false (by omega)
                rw [unq_ee hj' q5 hn, show upR .bad = .tup [.s [], .s [], .b false] from rfl]
                simp (disch := first | first | omega | assumption | exact scell | exact clen_XStep | (simp only [clen_XStep]; omega) | (simp only [List.length_append, List.length_cons, List.length_nil]; omega)) only [Nat.zero_add, oV_some', oN_eq, oM_some, oH_some, oD_some, oE_some, oS_eq, oT_true, oI_true, oI_false, pick_t, pick_f, un_not, oI_not, decide_not, toNat_sub1, toNat_add1, decide_true, decide_false, not_true, not_false_eq_true, Bool.not_true, Bool.not_false, Bool.not_not, oZ_b, oZ_i, oZ_s, oZ_l, slen_map, wr64, Int.toNat_natCast, Int.toNat_zero, ne_eq, bin_lt, bin_slt, bin_gt, b_sgt, bin_eq, b_snil, beq_4, bin_ne, b_snnil, bne_4, bin_add, len_9, idx_9, join3_eq, gtt_1, gff_1, gtf_1, gft_1, gvv_1, gnt_1, gnf_1, gtt_2, gff_2, gtf_2, gft_2, gvv_2, gnt_2, gnf_2, gtt_3, gff_3, gtf_3, gft_3, gvv_3, gnt_3, gnf_3, gtt_5, gff_5, gtf_5, gft_5, gvv_5, gnt_5, gnf_5, gtt_6, gff_6, gtf_6, gft_6, gvv_6, gnt_6, gnf_6, Int.toNat_natCast, f1, q1', q3', q4', q5', e1, f3, ozssb]
              · have f3 : decide (((j + 1 : Nat) : Int) < (s.length : Nat)) = true := decide_eq_true (by omega)
                have e2 : ((j + 1 : Nat) : Int) + 1 = ((j + 2 : Nat) : Int) := by omega
                have hue := unq_e (acc := A) q5 (show j + 1 < s.length by omega)
                rw [hue] at hR ⊢
                by_cases g1 : (s.getD (j + 1) 0).toNat = 34 ∨ (s.getD (j + 1) 0).toNat = 92
                · rw [if_pos g1] at hR ⊢
                  have hR' := hR (j + 2, A ++ [s.getD (j + 1) 0])
                  obtain ⟨σ2, r2, o2, b2, -⟩ := put (s.getD (j + 1) 0)
                  rw [show bA (s.getD (j + 1) 0) = AV.i .u8 ((s.getD (j + 1) 0).toNat : Nat) from rfl] at r2
                  by_cases g3 : (s.getD (j + 1) 0).toNat = 34
                  · have g1a : decide ((((s.getD (j + 1) 0).toNat : Nat) : Int) = 34) = true := decide_eq_true (by omega)
                    simp (disch := first | first | omega | assumption | exact scell | exact clen_XStep | (simp only [clen_XStep]; omega) | (simp only [List.length_append, List.length_cons, List.length_nil]; omega)) only [Nat.zero_add, oV_some', oN_eq, oM_some, oH_some, oD_some, oE_some, oS_eq, oT_true, oI_true, oI_false, pick_t, pick_f, un_not, oI_not, decide_not, toNat_sub1, toNat_add1, decide_true, decide_false, not_true, not_false_eq_true, Bool.not_true, Bool.not_false, Bool.not_not, oZ_b, oZ_i, oZ_s, oZ_l, slen_map, wr64, Int.toNat_natCast, Int.toNat_zero, ne_eq, bin_lt, bin_slt, bin_gt, b_sgt, bin_eq, b_snil, beq_4, bin_ne, b_snnil, bne_4, bin_add, len_9, idx_9, join3_eq, gtt_1, gff_1, gtf_1, gft_1, gvv_1, gnt_1, gnf_1, gtt_2, gff_2, gtf_2, gft_2, gvv_2, gnt_2, gnf_2, gtt_3, gff_3, gtf_3, gft_3, gvv_3, gnt_3, gnf_3, gtt_5, gff_5, gtf_5, gft_5, gvv_5, gnt_5, gnf_5, gtt_6, gff_6, gtf_6, gft_6, gvv_6, gnt_6, gnf_6, Int.toNat_natCast, f1, q1', q3', q4', q5', e1, e2, f3, g1a, r2.eq]
                    exact hR' _ ⟨by dsimp only; omega, by dsimp only; rw [List.length_append]; simp only [List.length_cons, List.length_nil]; omega, rfl, o2, b2⟩ (by dsimp only; omega)
                  · have g1a : decide ((((s.getD (j + 1) 0).toNat : Nat) : Int) = 34) = false := decide_eq_false (by omega)
                    have g1b : decide ((((s.getD (j + 1) 0).toNat : Nat) : Int) = 92) = true := decide_eq_true (by omega)
                    simp (disch := first | first | omega | assumption | exact scell | exact clen_XStep | (simp only [clen_XStep]; omega) | (simp only [List.length_append, List.length_cons, List.length_nil]; omega)) only [Nat.zero_add, oV_some', oN_eq, oM_some, oH_some, oD_some, oE_some, oS_eq, oT_true, oI_true, oI_false, pick_t, pick_f, un_not, oI_not, decide_not, toNat_sub1, toNat_add1, decide_true, decide_false, not_true, not_false_eq_true, Bool.not_true, Bool.not_false, Bool.not_not, oZ_b, oZ_i, oZ_s, oZ_l, slen_map, wr64, Int.toNat_natCast, Int.toNat_zero, ne_eq, bin_lt, bin_slt, bin_gt, b_sgt, bin_eq, b_snil, beq_4, bin_ne, b_snnil, bne_4, bin_add, len_9, idx_9, join3_eq, gtt_1, gff_1, gtf_1, gft_1, gvv_1, gnt_1, gnf_1, gtt_2, gff_2, gtf_2, gft_2, gvv_2, gnt_2, gnf_2, gtt_3, gff_3, gtf_3, gft_3, gvv_3, gnt_3, gnf_3, gtt_5, gff_5, gtf_5, gft_5, gvv_5, gnt_5, gnf_5, gtt_6, gff_6, gtf_6, gft_6, gvv_6, gnt_6, gnf_6, Int.toNat_natCast, f1, q1', q3', q4', q5', e1, e2, f3, g1a, g1b, r2.eq]
                    exact hR' _ ⟨by dsimp only; omega, by dsimp only; rw [List.length_append]; simp only [List.length_cons, List.length_nil]; omega, rfl, o2, b2⟩ (by dsimp only; omega)
                · have g1a : decide ((((s.getD (j + 1) 0).toNat : Nat) : Int) = 34) = false := decide_eq_false (by omega)
                  have g1b : decide ((((s.getD (j + 1) 0).toNat : Nat) : Int) = 92) = false := decide_eq_false (by omega)
                  rw [if_neg g1] at hR ⊢
                  by_cases g2 : (s.getD (j + 1) 0).toNat = 110
                  · have g2' : decide ((((s.getD (j + 1) 0).toNat : Nat) : Int) = 110) = true := decide_eq_true (by omega)
                    rw [if_pos g2] at hR ⊢
                    have hR' := hR (j + 2, A ++ [10])
                    obtain ⟨σ2, r2, o2, b2, -⟩ := put 10
                    rw [show bA 10 = AV.i .u8 10 from rfl] at r2
                    simp (disch := first | first | omega | assumption | exact scell | exact clen_XStep | (simp only [clen_XStep]; omega) | (simp only [List.length_append, List.length_cons, List.length_nil]; omega)) only [Nat.zero_add, oV_some', oN_eq, oM_some, oH_some, oD_some, oE_some, oS_eq, oT_true, oI_true, oI_false, pick_t, pick_f, un_not, oI_not, decide_not, toNat_sub1, toNat_add1, decide_true, decide_false, not_true, not_false_eq_true, Bool.not_true, Bool.not_false, Bool.not_not, oZ_b, oZ_i, oZ_s, oZ_l, slen_map, wr64, Int.toNat_natCast, Int.toNat_zero, ne_eq, bin_lt, bin_slt, bin_gt, b_sgt, bin_eq, b_snil, beq_4, bin_ne, b_snnil, bne_4, bin_add, len_9, idx_9, join3_eq, gtt_1, gff_1, gtf_1, gft_1, gvv_1, gnt_1, gnf_1, gtt_2, gff_2, gtf_2, gft_2, gvv_2, gnt_2, gnf_2, gtt_3, gff_3, gtf_3, gft_3, gvv_3, gnt_3, gnf_3, gtt_5, gff_5, gtf_5, gft_5, gvv_5, gnt_5, gnf_5, gtt_6, gff_6, gtf_6, gft_6, gvv_6, gnt_6, gnf_6, Int.toNat_natCast, f1, q1', q3', q4', q5', e1, e2, f3, g1a, g1b, g2', r2.eq]
                    exact hR' _ ⟨by dsimp only; omega, by dsimp only; rw [List.length_append]; simp only [List.length_cons, List.length_nil]; omega, rfl, o2, b2⟩ (by dsimp only; omega)
                  · have g2' : decide ((((s.getD (j + 1) 0).toNat : Nat) : Int) = 110) = false := decide_eq_false (by omega)
                    rw [if_neg g2, show upR .bad = .tup [.s [], .s [], .b false] from rfl]
                    simp (disch := first | first | omega | assumption | exact scell | exact clen_XStep | (simp only [clen_XStep]; omega) | (simp only [List.length_append, List.length_cons, List.length_nil]; omega)) only [Nat.zero_add, oV_some', oN_eq, oM_some, oH_some, oD_some, oE_some, oS_eq, oT_true, oI_true, oI_false, pick_t, pick_f, un_not, oI_not, decide_not, toNat_sub1, toNat_add1, decide_true, decide_false, not_true, not_false_eq_true, Bool.not_true, Bool.not_false, Bool.not_not, oZ_b, oZ_i, oZ_s, oZ_l, slen_map, wr64, Int.toNat_natCast, Int.toNat_zero, ne_eq, bin_lt, bin_slt, bin_gt, b_sgt, bin_eq, b_snil, beq_4, bin_ne, b_snnil, bne_4, bin_add, len_9, idx_9, join3_eq, gtt_1, gff_1, gtf_1, gft_1, gvv_1, gnt_1, gnf_1, gtt_2, gff_2, gtf_2, gft_2, gvv_2, gnt_2, gnf_2, gtt_3, gff_3, gtf_3, gft_3, gvv_3, gnt_3, gnf_3, gtt_5, gff_5, gtf_5, gft_5, gvv_5, gnt_5, gnf_5, gtt_6, gff_6, gtf_6, gft_6, gvv_6, gnt_6, gnf_6, Int.toNat_natCast, f1, q1', q3', q4', q5', e1, f3, g1a, g1b, g2', ozssb]
            · have q5' : decide ((((s.getD j 0).toNat : Nat) : Int) = 92) = false := decide_eq_false (by omega)
              have hR' := hR (j + 1, A ++ [s.getD j 0])
              obtain ⟨σ2, r2, o2, b2, -⟩ := put (s.getD j 0)
              rw [show bA (s.getD j 0) = AV.i .u8 ((s.getD j 0).toNat : Nat) from rfl] at r2
              simp (disch := first | first | omega | assumption | exact scell | exact clen_XStep | (simp only [clen_XStep]; omega) | (simp only [List.length_append, List.length_cons, List.length_nil]; omega)) only [Nat.zero_add, oV_some', oN_eq, oM_some, oH_some, oD_some, oE_some, oS_eq, oT_true, oI_true, oI_false, pick_t, pick_f, un_not, oI_not, decide_not, toNat_sub1, toNat_add1, decide_true, decide_false, not_true, not_false_eq_true, Bool.not_true, Bool.not_false, Bool.not_not, oZ_b, oZ_i, oZ_s, oZ_l, slen_map, wr64, Int.toNat_natCast, Int.toNat_zero, ne_eq, bin_lt, bin_slt, bin_gt, b_sgt, bin_eq, b_snil, beq_4, bin_ne, b_snnil, bne_4, bin_add, len_9, idx_9, join3_eq, gtt_1, gff_1, gtf_1, gft_1, gvv_1, gnt_1, gnf_1, gtt_2, gff_2, gtf_2, gft_2, gvv_2, gnt_2, gnf_2, gtt_3, gff_3, gtf_3, gft_3, gvv_3, gnt_3, gnf_3, gtt_5, gff_5, gtf_5, gft_5, gvv_5, gnt_5, gnf_5, gtt_6, gff_6, gtf_6, gft_6, gvv_6, gnt_6, gnf_6, Int.toNat_natCast, f1, q1', q3', q4', q5', e1, r2.eq]
              exact hR' _ ⟨by dsimp only; omega, by dsimp only; rw [List.length_append]; simp only [List.length_cons, List.length_nil]; omega, unq_pl hj' q1 q2 q5, o2, b2⟩ (by dsimp only; omega)
      · have f1 : decide (((j : Nat) : Int) < (s.length : Nat)) = false := decide_eq_false (by omega)
        rw [unq_end (by omega), show upR (.op A) = .tup [.s [], .s [], .b false] from rfl]
        simp (disch := first | first | omega | assumption | exact scell | exact clen_XStep | (simp only [clen_XStep]; omega) | (simp only [List.length_append, List.length_cons, List.length_nil]; omega)) only [Nat.zero_add, oV_some', oN_eq, oM_some, oH_some, oD_some, oE_some, oS_eq, oT_true, oI_true, oI_false, pick_t, pick_f, un_not, oI_not, decide_not, toNat_sub1, toNat_add1, decide_true, decide_false, not_true, not_false_eq_true, Bool.not_true, Bool.not_false, Bool.not_not, oZ_b, oZ_i, oZ_s, oZ_l, slen_map, wr64, Int.toNat_natCast, Int.toNat_zero, ne_eq, bin_lt, bin_slt, bin_gt, b_sgt, bin_eq, b_snil, beq_4, bin_ne, b_snnil, bne_4, bin_add, len_9, idx_9, join3_eq, gtt_1, gff_1, gtf_1, gft_1, gvv_1, gnt_1, gnf_1, gtt_2, gff_2, gtf_2, gft_2, gvv_2, gnt_2, gnf_2, gtt_3, gff_3, gtf_3, gft_3, gvv_3, gnt_3, gnf_3, gtt_5, gff_5, gtf_5, gft_5, gvv_5, gnt_5, gnf_5, gtt_6, gff_6, gtf_6, gft_6, gvv_6, gnt_6, gnf_6, Int.toNat_natCast, f1, ozssb]
    · have d1 : decide ((((s.getD 0 0).toNat : Nat) : Int) = 34) = false := decide_eq_false (by omega)
      rw [show upI s = .tup [.s [], .s [], .b false] from if_neg (fun q => h1 q.2)]
      simp (disch := first | first | omega | assumption | exact scell | exact clen_XStep | (simp only [clen_XStep]; omega) | (simp only [List.length_append, List.length_cons, List.length_nil]; omega)) only [Nat.zero_add, oV_some', oN_eq, oM_some, oH_some, oD_some, oE_some, oS_eq, oT_true, oI_true, oI_false, pick_t, pick_f, un_not, oI_not, decide_not, toNat_sub1, toNat_add1, decide_true, decide_false, not_true, not_false_eq_true, Bool.not_true, Bool.not_false, Bool.not_not, oZ_b, oZ_i, oZ_s, oZ_l, slen_map, wr64, Int.toNat_natCast, Int.toNat_zero, ne_eq, bin_lt, bin_slt, bin_gt, b_sgt, bin_eq, b_snil, beq_4, bin_ne, b_snnil, bne_4, bin_add, len_9, idx_9, join3_eq, gtt_1, gff_1, gtf_1, gft_1, gvv_1, gnt_1, gnf_1, gtt_2, gff_2, gtf_2, gft_2, gvv_2, gnt_2, gnf_2, gtt_3, gff_3, gtf_3, gft_3, gvv_3, gnt_3, gnf_3, gtt_5, gff_5, gtf_5, gft_5, gvv_5, gnt_5, gnf_5, gtt_6, gff_6, gtf_6, gft_6, gvv_6, gnt_6, gnf_6, Int.toNat_natCast, l0', d1, e0, ozssb]
theorem e65 {s : List UInt8} (hl : s.length ≤ 100000) {d : Nat} {σ : AS} {K : AV → AS → Prop} : oC T0 d 65 [.s s] σ K = K (upI s) σ := (c65 s hl).eq d σ K
end Go.Proofs.YtmfhmlhaofpeiaaGreatDoor.Ev
