/- Texts of this session's, one behind the other. -/
import Derived.Test.YtmfhmlhaofpeiaaGreatDoorEvLg
import Derived.Test.YtmfhmlhaofpeiaaGreatDoorEv1
import Derived.Test.YtmfhmlhaofpeiaaGreatDoorEv2
import Derived.Test.YtmfhmlhaofpeiaaGreatDoorEv3
import Derived.Test.YtmfhmlhaofpeiaaGreatDoorEv4
import Derived.Test.YtmfhmlhaofpeiaaGreatDoorSh
import Derived.Test.YtmfhmlhaofpeiaaGreatDoorEvX
import Derived.Test.YtmfhmlhaofpeiaaGreatDoorEvT
import Derived.Test.YtmfhmlhaofpeiaaGreatDoorEvTy
import Derived.Test.YtmfhmlhaofpeiaaGreatDoorEvF
import Derived.Test.YtmfhmlhaofpeiaaGreatDoorV0
import Derived.Test.YtmfhmlhaofpeiaaGreatDoorOp
import Derived.Test.YtmfhmlhaofpeiaaGreatDoorV6
import Derived.Test.YtmfhmlhaofpeiaaGreatDoorEvG
import Derived.Test.YtmfhmlhaofpeiaaGreatDoorEvFb
import Derived.Test.YtmfhmlhaofpeiaaGreatDoorEvFc
import Derived.Test.YtmfhmlhaofpeiaaGreatDoorW1
/- The program's index in brackets. -/
namespace Go.Proofs.YtmfhmlhaofpeiaaGreatDoor.Ev
open Go Go.RowKit
set_option linter.unusedSimpArgs false
set_option linter.unusedVariables false
set_option maxRecDepth 100000

def ixR (s : List UInt8) : AV := if canB s = true then .tup [.i .i64 (min (valD 0 s) 65 : Nat), .b true] else .tup [.i .i64 0, .b false]
theorem ixR_no {s : List UInt8} (h : canB s = false) : ixR s = .tup [.i .i64 0, .b false] := by unfold ixR; rw [h]; rfl
theorem ixR_yes {s : List UInt8} (h : canB s = true) : ixR s = .tup [.i .i64 (min (valD 0 s) 65 : Nat), .b true] := by unfold ixR; rw [h]; rfl
theorem ozib {σ : AS} {K : AV → Prop} {a : Int} {b : Bool} : oZ T0 σ (.tup [.i .i64 a, .b b]) K = K (.tup [.i .i64 a, .b b]) := oZ_free rfl
theorem c64 (s : List UInt8) (hl : s.length ≤ 1048576) : R T0 64 [.s s] (ixR s) := by
  refine r64 _ rfl rfl ?_
  unfold w64
  dsimp only [prims]
  rw [rng_9, oE_some, oN_eq]
  refine loop2 (X := Nat) (fun _ => .s s) (fun _ => .ptr 0 0) (fun j σ => j ≤ s.length ∧ σ.h.get 0 = some (.siter s j) ∧ (s.take j).all digC = true) (fun j => s.length - j) ?_ 0 _ ⟨Nat.zero_le _, rfl, rfl⟩
  rintro R j ⟨h, n⟩ ⟨hj, hg, ha⟩ hR
  dsimp only at hg
  by_cases hj' : j < s.length
  · rcases Nat.lt_or_ge (s.getD j 0).toNat 128 with hc | hc
    · rw [next_lt hg hj' hc, oM_some]
      by_cases q1 : 48 ≤ (s.getD j 0).toNat
      · have q1' : decide ((((s.getD j 0).toNat : Nat) : Int) < 48) = false := decide_eq_false (by omega)
        by_cases q2 : (s.getD j 0).toNat ≤ 57
        · have q2' : decide ((57 : Int) < (((s.getD j 0).toNat : Nat) : Int)) = false := decide_eq_false (by omega)
          simp (disch := first | omega | assumption | exact scell | exact clen_XStep | (simp only [clen_XStep]; omega)) only [Nat.zero_add, oV_some', oN_eq, oM_some, oH_some, oD_some, oE_some, oS_eq, oT_true, oI_true, oI_false, pick_t, pick_f, un_not, oI_not, decide_not, toNat_sub1, toNat_add1, decide_true, decide_false, not_true, not_false_eq_true, Bool.not_true, Bool.not_false, Bool.not_not, oZ_b, oZ_i, oZ_s, oZ_l, slen_map, wr64, Int.toNat_natCast, Int.toNat_zero, ne_eq, bin_lt, bin_slt, bin_gt, b_sgt, bin_eq, b_snil, beq_4, bin_ne, b_snnil, bne_4, ext_t, List.getElem?_cons_zero, List.getElem?_cons_succ, len_9, idx_9, ofc_encXStep, ofc0_encXStep, st_XStep, fld_XStep_kind_, fld_XStep_name_, fld_XStep_index_, fld_XStep_value_, prt_XStep_kind_, prt_XStep_name_, prt_XStep_index_, prt_XStep_value_, join1_eq, gtt_1, gff_1, gtf_1, gft_1, gvv_1, gnt_1, gnf_1, gtt_2, gff_2, gtf_2, gft_2, gvv_2, gnt_2, gnf_2, gtt_3, gff_3, gtf_3, gft_3, gvv_3, gnt_3, gnf_3, gtt_4, gff_4, gtf_4, gft_4, gvv_4, gnt_4, gnf_4, q1', q2']
          exact hR (j + 1) _ ⟨by omega, get_put_same _ _ _, all_take_succ (d := 0) ha hj' (decide_eq_true ⟨q1, q2⟩)⟩ (by omega)
        · have q2' : decide ((57 : Int) < (((s.getD j 0).toNat : Nat) : Int)) = true := decide_eq_true (by omega)
          have no := ixR_no (can_no hj' (decide_eq_false (fun q => q2 q.2)))
          simp (disch := first | omega | assumption | exact scell | exact clen_XStep | (simp only [clen_XStep]; omega)) only [Nat.zero_add, oV_some', oN_eq, oM_some, oH_some, oD_some, oE_some, oS_eq, oT_true, oI_true, oI_false, pick_t, pick_f, un_not, oI_not, decide_not, toNat_sub1, toNat_add1, decide_true, decide_false, not_true, not_false_eq_true, Bool.not_true, Bool.not_false, Bool.not_not, oZ_b, oZ_i, oZ_s, oZ_l, slen_map, wr64, Int.toNat_natCast, Int.toNat_zero, ne_eq, bin_lt, bin_slt, bin_gt, b_sgt, bin_eq, b_snil, beq_4, bin_ne, b_snnil, bne_4, ext_t, List.getElem?_cons_zero, List.getElem?_cons_succ, len_9, idx_9, ofc_encXStep, ofc0_encXStep, st_XStep, fld_XStep_kind_, fld_XStep_name_, fld_XStep_index_, fld_XStep_value_, prt_XStep_kind_, prt_XStep_name_, prt_XStep_index_, prt_XStep_value_, join1_eq, gtt_1, gff_1, gtf_1, gft_1, gvv_1, gnt_1, gnf_1, gtt_2, gff_2, gtf_2, gft_2, gvv_2, gnt_2, gnf_2, gtt_3, gff_3, gtf_3, gft_3, gvv_3, gnt_3, gnf_3, gtt_4, gff_4, gtf_4, gft_4, gvv_4, gnt_4, gnf_4, q1', q2', no, ozib]
      · have q1' : decide ((((s.getD j 0).toNat : Nat) : Int) < 48) = true := decide_eq_true (by omega)
        have no := ixR_no (can_no hj' (decide_eq_false (fun q => q1 q.1)))
        simp (disch := first | omega | assumption | exact scell | exact clen_XStep | (simp only [clen_XStep]; omega)) only [Nat.zero_add, oV_some', oN_eq, oM_some, oH_some, oD_some, oE_some, oS_eq, oT_true, oI_true, oI_false, pick_t, pick_f, un_not, oI_not, decide_not, toNat_sub1, toNat_add1, decide_true, decide_false, not_true, not_false_eq_true, Bool.not_true, Bool.not_false, Bool.not_not, oZ_b, oZ_i, oZ_s, oZ_l, slen_map, wr64, Int.toNat_natCast, Int.toNat_zero, ne_eq, bin_lt, bin_slt, bin_gt, b_sgt, bin_eq, b_snil, beq_4, bin_ne, b_snnil, bne_4, ext_t, List.getElem?_cons_zero, List.getElem?_cons_succ, len_9, idx_9, ofc_encXStep, ofc0_encXStep, st_XStep, fld_XStep_kind_, fld_XStep_name_, fld_XStep_index_, fld_XStep_value_, prt_XStep_kind_, prt_XStep_name_, prt_XStep_index_, prt_XStep_value_, join1_eq, gtt_1, gff_1, gtf_1, gft_1, gvv_1, gnt_1, gnf_1, gtt_2, gff_2, gtf_2, gft_2, gvv_2, gnt_2, gnf_2, gtt_3, gff_3, gtf_3, gft_3, gvv_3, gnt_3, gnf_3, gtt_4, gff_4, gtf_4, gft_4, gvv_4, gnt_4, gnf_4, q1', no, ozib]
    · obtain ⟨r, w, hr, he⟩ := next_ge (n := n) hg hj' hc
      rw [he, oM_some]
      have q1' : decide (((r : Nat) : Int) < 48) = false := decide_eq_false (by omega)
      have q2' : decide ((57 : Int) < ((r : Nat) : Int)) = true := decide_eq_true (by omega)
      have no := ixR_no (can_no hj' (decide_eq_false (fun q => by omega)))
      simp (disch := first | omega | assumption | exact scell | exact clen_XStep | (simp only [clen_XStep]; omega)) only [Nat.zero_add, oV_some', oN_eq, oM_some, oH_some, oD_some, oE_some, oS_eq, oT_true, oI_true, oI_false, pick_t, pick_f, un_not, oI_not, decide_not, toNat_sub1, toNat_add1, decide_true, decide_false, not_true, not_false_eq_true, Bool.not_true, Bool.not_false, Bool.not_not, oZ_b, oZ_i, oZ_s, oZ_l, slen_map, wr64, Int.toNat_natCast, Int.toNat_zero, ne_eq, bin_lt, bin_slt, bin_gt, b_sgt, bin_eq, b_snil, beq_4, bin_ne, b_snnil, bne_4, ext_t, List.getElem?_cons_zero, List.getElem?_cons_succ, len_9, idx_9, ofc_encXStep, ofc0_encXStep, st_XStep, fld_XStep_kind_, fld_XStep_name_, fld_XStep_index_, fld_XStep_value_, prt_XStep_kind_, prt_XStep_name_, prt_XStep_index_, prt_XStep_value_, join1_eq, gtt_1, gff_1, gtf_1, gft_1, gvv_1, gnt_1, gnf_1, gtt_2, gff_2, gtf_2, gft_2, gvv_2, gnt_2, gnf_2, gtt_3, gff_3, gtf_3, gft_3, gvv_3, gnt_3, gnf_3, gtt_4, gff_4, gtf_4, gft_4, gvv_4, gnt_4, gnf_4, q1', q2', no, ozib]
  · rw [next_no hg (by omega), oM_some]
    have hall := all_end ha (by omega)
    by_cases l0 : s.length = 0
    · have l0' : decide (s.length = 0) = true := decide_eq_true l0
      have no : ixR s = .tup [.i .i64 0, .b false] := ixR_no (by unfold canB; rw [decide_eq_false (show ¬ s.length = 1 by omega), decide_eq_false (show ¬ 1 < s.length by omega)]; simp)
      simp (disch := first | omega | assumption | exact scell | exact clen_XStep | (simp only [clen_XStep]; omega)) only [Nat.zero_add, oV_some', oN_eq, oM_some, oH_some, oD_some, oE_some, oS_eq, oT_true, oI_true, oI_false, pick_t, pick_f, un_not, oI_not, decide_not, toNat_sub1, toNat_add1, decide_true, decide_false, not_true, not_false_eq_true, Bool.not_true, Bool.not_false, Bool.not_not, oZ_b, oZ_i, oZ_s, oZ_l, slen_map, wr64, Int.toNat_natCast, Int.toNat_zero, ne_eq, bin_lt, bin_slt, bin_gt, b_sgt, bin_eq, b_snil, beq_4, bin_ne, b_snnil, bne_4, ext_t, List.getElem?_cons_zero, List.getElem?_cons_succ, len_9, idx_9, ofc_encXStep, ofc0_encXStep, st_XStep, fld_XStep_kind_, fld_XStep_name_, fld_XStep_index_, fld_XStep_value_, prt_XStep_kind_, prt_XStep_name_, prt_XStep_index_, prt_XStep_value_, join1_eq, gtt_1, gff_1, gtf_1, gft_1, gvv_1, gnt_1, gnf_1, gtt_2, gff_2, gtf_2, gft_2, gvv_2, gnt_2, gnf_2, gtt_3, gff_3, gtf_3, gft_3, gvv_3, gnt_3, gnf_3, gtt_4, gff_4, gtf_4, gft_4, gvv_4, gnt_4, gnf_4, l0', no, ozib]
    · have l0' : decide (s.length = 0) = false := decide_eq_false l0
      have e0 : evIndex T0 9 (.s s) (.i .i64 0) = some (.i .u8 (s.getD 0 0).toNat) := idx_9 (k := .i64) (n := 0) (by omega) (by omega)
      have hne : s ≠ [] := fun q => l0 (by rw [q]; rfl)
      have qe : decide ((((s.getD 0 0).toNat : Nat) : Int) = 48) = decide ((s.getD 0 0).toNat = 48) := decide_eq_decide.2 (by omega)
      have qg : decide ((1 : Int) < ((s.length : Nat) : Int)) = decide (1 < s.length) := decide_eq_decide.2 (by omega)
      have nn : evBin T0 .neq 67 true .nili .nili = some (.b false) := by kernel_rfl
      have ni : evBin T0 .neq 67 true (.ifc 129 (rgE [65, 116, 111, 105] s)) .nili = some (.b true) := by kernel_rfl
      have key : ∀ (b1 b2 : Bool), decide (1 < s.length) = b1 → decide ((s.getD 0 0).toNat = 48) = b2 → canB s = !(b1 && b2) := fun b1 b2 h1 h2 => by
        unfold canB
        rw [hall, h1, h2, Bool.true_and]
        cases b1
        · rw [decide_eq_true (show s.length = 1 by have := of_decide_eq_false h1; omega)]; rfl
        · rw [decide_eq_false (show ¬ s.length = 1 by have := of_decide_eq_true h1; omega)]; cases b2 <;> rfl
      cases h1 : decide (1 < s.length) <;> cases h2 : decide ((s.getD 0 0).toNat = 48)
      case true.true =>
        have no := ixR_no (key _ _ h1 h2)
        simp (disch := first | omega | assumption | exact scell | exact clen_XStep | (simp only [clen_XStep]; omega)) only [Nat.zero_add, oV_some', oN_eq, oM_some, oH_some, oD_some, oE_some, oS_eq, oT_true, oI_true, oI_false, pick_t, pick_f, un_not, oI_not, decide_not, toNat_sub1, toNat_add1, decide_true, decide_false, not_true, not_false_eq_true, Bool.not_true, Bool.not_false, Bool.not_not, oZ_b, oZ_i, oZ_s, oZ_l, slen_map, wr64, Int.toNat_natCast, Int.toNat_zero, ne_eq, bin_lt, bin_slt, bin_gt, b_sgt, bin_eq, b_snil, beq_4, bin_ne, b_snnil, bne_4, ext_t, List.getElem?_cons_zero, List.getElem?_cons_succ, len_9, idx_9, ofc_encXStep, ofc0_encXStep, st_XStep, fld_XStep_kind_, fld_XStep_name_, fld_XStep_index_, fld_XStep_value_, prt_XStep_kind_, prt_XStep_name_, prt_XStep_index_, prt_XStep_value_, join1_eq, gtt_1, gff_1, gtf_1, gft_1, gvv_1, gnt_1, gnf_1, gtt_2, gff_2, gtf_2, gft_2, gvv_2, gnt_2, gnf_2, gtt_3, gff_3, gtf_3, gft_3, gvv_3, gnt_3, gnf_3, gtt_4, gff_4, gtf_4, gft_4, gvv_4, gnt_4, gnf_4, l0', qe, qg, h1, h2, e0, no, ozib]
      all_goals
        have yes := ixR_yes (key _ _ h1 h2)
        rw [yes]
        rcases c94 s hl hne hall with ⟨r, hv⟩ | ⟨x, r, hv⟩
        · by_cases g : 64 < valD 0 s
          · have g' : decide ((64 : Int) < ((valD 0 s : Nat) : Int)) = true := decide_eq_true (by omega)
            rw [show min (valD 0 s) 65 = 65 by omega, show ((65 : Nat) : Int) = 65 from rfl]
            simp (disch := first | omega | assumption | exact scell | exact clen_XStep | (simp only [clen_XStep]; omega)) only [Nat.zero_add, oV_some', oN_eq, oM_some, oH_some, oD_some, oE_some, oS_eq, oT_true, oI_true, oI_false, pick_t, pick_f, un_not, oI_not, decide_not, toNat_sub1, toNat_add1, decide_true, decide_false, not_true, not_false_eq_true, Bool.not_true, Bool.not_false, Bool.not_not, oZ_b, oZ_i, oZ_s, oZ_l, slen_map, wr64, Int.toNat_natCast, Int.toNat_zero, ne_eq, bin_lt, bin_slt, bin_gt, b_sgt, bin_eq, b_snil, beq_4, bin_ne, b_snnil, bne_4, ext_t, List.getElem?_cons_zero, List.getElem?_cons_succ, len_9, idx_9, ofc_encXStep, ofc0_encXStep, st_XStep, fld_XStep_kind_, fld_XStep_name_, fld_XStep_index_, fld_XStep_value_, prt_XStep_kind_, prt_XStep_name_, prt_XStep_index_, prt_XStep_value_, join1_eq, gtt_1, gff_1, gtf_1, gft_1, gvv_1, gnt_1, gnf_1, gtt_2, gff_2, gtf_2, gft_2, gvv_2, gnt_2, gnf_2, gtt_3, gff_3, gtf_3, gft_3, gvv_3, gnt_3, gnf_3, gtt_4, gff_4, gtf_4, gft_4, gvv_4, gnt_4, gnf_4, l0', qe, qg, h1, h2, e0, r.eq, nn, g', ozib]
          · have g' : decide ((64 : Int) < ((valD 0 s : Nat) : Int)) = false := decide_eq_false (by omega)
            rw [show min (valD 0 s) 65 = valD 0 s by omega]
            simp (disch := first | omega | assumption | exact scell | exact clen_XStep | (simp only [clen_XStep]; omega)) only [Nat.zero_add, oV_some', oN_eq, oM_some, oH_some, oD_some, oE_some, oS_eq, oT_true, oI_true, oI_false, pick_t, pick_f, un_not, oI_not, decide_not, toNat_sub1, toNat_add1, decide_true, decide_false, not_true, not_false_eq_true, Bool.not_true, Bool.not_false, Bool.not_not, oZ_b, oZ_i, oZ_s, oZ_l, slen_map, wr64, Int.toNat_natCast, Int.toNat_zero, ne_eq, bin_lt, bin_slt, bin_gt, b_sgt, bin_eq, b_snil, beq_4, bin_ne, b_snnil, bne_4, ext_t, List.getElem?_cons_zero, List.getElem?_cons_succ, len_9, idx_9, ofc_encXStep, ofc0_encXStep, st_XStep, fld_XStep_kind_, fld_XStep_name_, fld_XStep_index_, fld_XStep_value_, prt_XStep_kind_, prt_XStep_name_, prt_XStep_index_, prt_XStep_value_, join1_eq, gtt_1, gff_1, gtf_1, gft_1, gvv_1, gnt_1, gnf_1, gtt_2, gff_2, gtf_2, gft_2, gvv_2, gnt_2, gnf_2, gtt_3, gff_3, gtf_3, gft_3, gvv_3, gnt_3, gnf_3, gtt_4, gff_4, gtf_4, gft_4, gvv_4, gnt_4, gnf_4, l0', qe, qg, h1, h2, e0, r.eq, nn, g', ozib]
        · rw [show min (valD 0 s) 65 = 65 by omega, show ((65 : Nat) : Int) = 65 from rfl]
          simp (disch := first | omega | assumption | exact scell | exact clen_XStep | (simp only [clen_XStep]; omega)) only [Nat.zero_add, oV_some', oN_eq, oM_some, oH_some, oD_some, oE_some, oS_eq, oT_true, oI_true, oI_false, pick_t, pick_f, un_not, oI_not, decide_not, toNat_sub1, toNat_add1, decide_true, decide_false, not_true, not_false_eq_true, Bool.not_true, Bool.not_false, Bool.not_not, oZ_b, oZ_i, oZ_s, oZ_l, slen_map, wr64, Int.toNat_natCast, Int.toNat_zero, ne_eq, bin_lt, bin_slt, bin_gt, b_sgt, bin_eq, b_snil, beq_4, bin_ne, b_snnil, bne_4, ext_t, List.getElem?_cons_zero, List.getElem?_cons_succ, len_9, idx_9, ofc_encXStep, ofc0_encXStep, st_XStep, fld_XStep_kind_, fld_XStep_name_, fld_XStep_index_, fld_XStep_value_, prt_XStep_kind_, prt_XStep_name_, prt_XStep_index_, prt_XStep_value_, join1_eq, gtt_1, gff_1, gtf_1, gft_1, gvv_1, gnt_1, gnf_1, gtt_2, gff_2, gtf_2, gft_2, gvv_2, gnt_2, gnf_2, gtt_3, gff_3, gtf_3, gft_3, gvv_3, gnt_3, gnf_3, gtt_4, gff_4, gtf_4, gft_4, gvv_4, gnt_4, gnf_4, l0', qe, qg, h1, h2, e0, r.eq, ni, ozib]
theorem e64 {s : List UInt8} (hl : s.length ≤ 1048576) {d : Nat} {σ : AS} {K : AV → AS → Prop} : oC T0 d 64 [.s s] σ K = K (ixR s) σ := (c64 s hl).eq d σ K
end Go.Proofs.YtmfhmlhaofpeiaaGreatDoor.Ev
/- Unquote: the spec (what both answer), its steps. -/
namespace Go.Proofs.YtmfhmlhaofpeiaaGreatDoor.Ev
open Go Go.RowKit
set_option linter.unusedSimpArgs false
set_option linter.unusedVariables false
set_option maxRecDepth 100000

inductive UQ where
  | ok (acc rest : List UInt8)
  | bad
  | op (acc : List UInt8)
def unqL (acc : List UInt8) : List UInt8 → UQ
  | [] => .op acc
  | c :: r => if c.toNat = 34 then .ok acc r else if c.toNat < 32 ∨ 126 < c.toNat then .bad else if ¬ c.toNat = 92 then unqL (acc ++ [c]) r else
    match r with
    | [] => .bad
    | d :: r' => if d.toNat = 34 ∨ d.toNat = 92 then unqL (acc ++ [d]) r' else if d.toNat = 110 then unqL (acc ++ [10]) r' else .bad
theorem drop_at {s : List UInt8} {i : Nat} (h : i < s.length) : s.drop i = s.getD i 0 :: s.drop (i + 1) := by
  rw [List.drop_eq_getElem_cons h, List.getD_eq_getElem?_getD, List.getElem?_eq_getElem h]; rfl
theorem unq_end {s acc : List UInt8} {i : Nat} (h : s.length ≤ i) : unqL acc (s.drop i) = .op acc := by
  rw [List.drop_of_length_le h]; rw [unqL]
theorem unq_q {s acc : List UInt8} {i : Nat} (h : i < s.length) (hc : (s.getD i 0).toNat = 34) : unqL acc (s.drop i) = .ok acc (s.drop (i + 1)) := by
  rw [drop_at h]; unfold unqL; rw [if_pos hc]
theorem unq_bad {s acc : List UInt8} {i : Nat} (h : i < s.length) (h1 : ¬ (s.getD i 0).toNat = 34) (hc : (s.getD i 0).toNat < 32 ∨ 126 < (s.getD i 0).toNat) : unqL acc (s.drop i) = .bad := by
  rw [drop_at h]; unfold unqL; rw [if_neg h1, if_pos hc]
theorem unq_pl {s acc : List UInt8} {i : Nat} (h : i < s.length) (h1 : ¬ (s.getD i 0).toNat = 34) (h2 : ¬ ((s.getD i 0).toNat < 32 ∨ 126 < (s.getD i 0).toNat)) (h3 : ¬ (s.getD i 0).toNat = 92) : unqL acc (s.drop i) = unqL (acc ++ [s.getD i 0]) (s.drop (i + 1)) := by
  rw [drop_at h, unqL.eq_def]; simp only []; rw [if_neg h1, if_neg h2, if_pos h3]
theorem unq_ee {s acc : List UInt8} {i : Nat} (h : i < s.length) (h3 : (s.getD i 0).toNat = 92) (hn : s.length ≤ i + 1) : unqL acc (s.drop i) = .bad := by
  rw [drop_at h, List.drop_of_length_le hn, unqL.eq_def]; simp only []; rw [if_neg (by omega), if_neg (by omega), if_neg (by omega)]
theorem unq_e {s acc : List UInt8} {i : Nat} (h3 : (s.getD i 0).toNat = 92) (hn : i + 1 < s.length) : unqL acc (s.drop i) = if (s.getD (i + 1) 0).toNat = 34 ∨ (s.getD (i + 1) 0).toNat = 92 then unqL (acc ++ [s.getD (i + 1) 0]) (s.drop (i + 2)) else if (s.getD (i + 1) 0).toNat = 110 then unqL (acc ++ [10]) (s.drop (i + 2)) else .bad := by
  rw [drop_at (show i < s.length by omega), drop_at hn, unqL.eq_def]; simp only []; rw [if_neg (by omega), if_neg (by omega), if_neg (by omega)]
end Go.Proofs.YtmfhmlhaofpeiaaGreatDoor.Ev
/- The reference's unquote. -/
namespace Go.Proofs.YtmfhmlhaofpeiaaGreatDoor.Ev
open Go Go.RowKit
set_option linter.unusedSimpArgs false
set_option linter.unusedVariables false
set_option maxRecDepth 100000

end Go.Proofs.YtmfhmlhaofpeiaaGreatDoor.Ev
/- The program's unquote. -/
namespace Go.Proofs.YtmfhmlhaofpeiaaGreatDoor.Ev
open Go Go.RowKit
set_option linter.unusedSimpArgs false
set_option linter.unusedVariables false
set_option maxRecDepth 100000

def upR : UQ → AV
  | .ok acc rest => .tup [.s acc, .s rest, .b true]
  | _ => .tup [.s [], .s [], .b false]
def upI (s : List UInt8) : AV := if 0 < s.length ∧ (s.getD 0 0).toNat = 34 then upR (unqL [] (s.drop 1)) else .tup [.s [], .s [], .b false]
theorem ozssb {σ : AS} {K : AV → Prop} {a c : List UInt8} {b : Bool} : oZ T0 σ (.tup [.s a, .s c, .b b]) K = K (.tup [.s a, .s c, .b b]) := oZ_free rfl
theorem slE {s : List UInt8} {l : Nat} {k : IntKind} (h : l ≤ s.length) : evSlice T0 9 (.s s) (some (.i k (l : Nat))) none none = some (.s (s.drop l)) := by
  have b2 : bnd0 s.length 0 (some (.i k (l : Nat))) = some l := by
    simp only [bnd0, bnd]; rw [if_pos ⟨by omega, by omega⟩]; simp
  have b1 : bnd0 s.length s.length none = some s.length := rfl
  have b : bounds3 s.length (some s.length) (some (.i k (l : Nat))) none none = some (l, s.length, some s.length) := by
    simp only [bounds3, Option.getD_some, b1, b2]
  unfold evSlice
  simp only [ty9, b]
  rw [← List.length_drop, List.take_length]
theorem pl_s (s : List UInt8) : plainA (.s s) = true := rfl
theorem pl_i (k : IntKind) (n : Int) : plainA (.i k n) = true := rfl
theorem pl_o (k : IntKind) (n : Int) : plainOp (some (.i k n)) = true := rfl
theorem pl_n : plainOp none = true := rfl
theorem c65 (s : List UInt8) (hl : s.length ≤ 100000) : R T0 65 [.s s] (upI s) := by
  refine r65 _ rfl rfl ?_
  unfold w65
  dsimp only [prims]
  rw [oN_eq]
  have b0 : Bld (Tr.nil.put 0 (some (.cells [.nilp, .nilz true] 65 false))) 1 0 [] none := bld_new
  by_cases h0 : s.length = 0
  · have l0' : decide (s.length = 0) = true := decide_eq_true h0
    rw [show upI s = .tup [.s [], .s [], .b false] from if_neg (fun q => by omega)]
    simp (disch := first | first | omega | assumption | exact scell | exact clen_XStep | (simp only [clen_XStep]; omega) | (simp only [List.length_append, List.length_cons, List.length_nil]; omega)) only [Nat.zero_add, oV_some', oN_eq, oM_some, oH_some, oD_some, oE_some, oS_eq, oT_true, oI_true, oI_false, pick_t, pick_f, un_not, oI_not, decide_not, toNat_sub1, toNat_add1, decide_true, decide_false, not_true, not_false_eq_true, Bool.not_true, Bool.not_false, Bool.not_not, oZ_b, oZ_i, oZ_s, oZ_l, slen_map, wr64, Int.toNat_natCast, Int.toNat_zero, ne_eq, bin_lt, bin_slt, bin_gt, b_sgt, bin_eq, b_snil, beq_4, bin_ne, b_snnil, bne_4, bin_add, len_9, idx_9, join3_eq, gtt_1, gff_1, gtf_1, gft_1, gvv_1, gnt_1, gnf_1, gtt_2, gff_2, gtf_2, gft_2, gvv_2, gnt_2, gnf_2, gtt_3, gff_3, gtf_3, gft_3, gvv_3, gnt_3, gnf_3, gtt_5, gff_5, gtf_5, gft_5, gvv_5, gnt_5, gnf_5, gtt_6, gff_6, gtf_6, gft_6, gvv_6, gnt_6, gnf_6, Int.toNat_natCast, l0', ozssb]
  · have l0' : decide (s.length = 0) = false := decide_eq_false h0
    have e0 : evIndex T0 9 (.s s) (.i .i64 0) = some (.i .u8 (s.getD 0 0).toNat) := idx_9 (k := .i64) (n := 0) (by omega) (by omega)
    by_cases h1 : (s.getD 0 0).toNat = 34
    · have d1 : decide ((((s.getD 0 0).toNat : Nat) : Int) = 34) = true := decide_eq_true (by omega)
      rw [show upI s = upR (unqL [] (s.drop 1)) from if_pos ⟨by omega, h1⟩]
      simp (disch := first | first | omega | assumption | exact scell | exact clen_XStep | (simp only [clen_XStep]; omega) | (simp only [List.length_append, List.length_cons, List.length_nil]; omega)) only [Nat.zero_add, oV_some', oN_eq, oM_some, oH_some, oD_some, oE_some, oS_eq, oT_true, oI_true, oI_false, pick_t, pick_f, un_not, oI_not, decide_not, toNat_sub1, toNat_add1, decide_true, decide_false, not_true, not_false_eq_true, Bool.not_true, Bool.not_false, Bool.not_not, oZ_b, oZ_i, oZ_s, oZ_l, slen_map, wr64, Int.toNat_natCast, Int.toNat_zero, ne_eq, bin_lt, bin_slt, bin_gt, b_sgt, bin_eq, b_snil, beq_4, bin_ne, b_snnil, bne_4, bin_add, len_9, idx_9, join3_eq, gtt_1, gff_1, gtf_1, gft_1, gvv_1, gnt_1, gnf_1, gtt_2, gff_2, gtf_2, gft_2, gvv_2, gnt_2, gnf_2, gtt_3, gff_3, gtf_3, gft_3, gvv_3, gnt_3, gnf_3, gtt_5, gff_5, gtf_5, gft_5, gvv_5, gnt_5, gnf_5, gtt_6, gff_6, gtf_6, gft_6, gvv_6, gnt_6, gnf_6, Int.toNat_natCast, l0', d1, e0]
      refine loop3 (X := Nat × List UInt8) (fun _ => .ptr 0 0) (fun _ => .s s) (fun x => .i .i64 (x.1 : Nat)) (fun x σ => x.1 ≤ s.length ∧ x.2.length ≤ x.1 ∧ unqL [] (s.drop 1) = unqL x.2 (s.drop x.1) ∧ ∃ o, Bld σ.h σ.n 0 x.2 o) (fun x => s.length - x.1) ?_ (1, []) _ ⟨by dsimp only; omega, Nat.zero_le _, rfl, none, b0⟩
      rintro R ⟨j, A⟩ ⟨h, n⟩ ⟨hj, hA, hu, o, hb⟩ hR
      dsimp only at hj hA hu hb
      dsimp only
      rw [hu]
      rw [hu] at hR
      have e1 : ((j : Nat) : Int) + 1 = ((j + 1 : Nat) : Int) := by omega
      by_cases hj' : j < s.length
      · have f1 : decide (((j : Nat) : Int) < (s.length : Nat)) = true := decide_eq_true (by omega)
        by_cases q1 : (s.getD j 0).toNat = 34
        · have q1' : decide ((((s.getD j 0).toNat : Nat) : Int) = 34) = true := decide_eq_true (by omega)
          rw [unq_q hj' q1, show upR (.ok A (s.drop (j + 1))) = .tup [.s A, .s (s.drop (j + 1)), .b true] from rfl]
          have r3 := c45 hb (by omega)
          simp (disch := first | first | omega | assumption | exact scell | exact clen_XStep | (simp only [clen_XStep]; omega) | (simp only [List.length_append, List.length_cons, List.length_nil]; omega)) only [Nat.zero_add, oV_some', oN_eq, oM_some, oH_some, oD_some, oE_some, oS_eq, oT_true, oI_true, oI_false, pick_t, pick_f, un_not, oI_not, decide_not, toNat_sub1, toNat_add1, decide_true, decide_false, not_true, not_false_eq_true, Bool.not_true, Bool.not_false, Bool.not_not, oZ_b, oZ_i, oZ_s, oZ_l, slen_map, wr64, Int.toNat_natCast, Int.toNat_zero, ne_eq, bin_lt, bin_slt, bin_gt, b_sgt, bin_eq, b_snil, beq_4, bin_ne, b_snnil, bne_4, bin_add, len_9, idx_9, join3_eq, gtt_1, gff_1, gtf_1, gft_1, gvv_1, gnt_1, gnf_1, gtt_2, gff_2, gtf_2, gft_2, gvv_2, gnt_2, gnf_2, gtt_3, gff_3, gtf_3, gft_3, gvv_3, gnt_3, gnf_3, gtt_5, gff_5, gtf_5, gft_5, gvv_5, gnt_5, gnf_5, gtt_6, gff_6, gtf_6, gft_6, gvv_6, gnt_6, gnf_6, Int.toNat_natCast, f1, q1', e1, pl_s, pl_i, pl_o, pl_n, slE, r3.eq, ozssb]
        · have q1' : decide ((((s.getD j 0).toNat : Nat) : Int) = 34) = false := decide_eq_false (by omega)
          by_cases q2 : (s.getD j 0).toNat < 32 ∨ 126 < (s.getD j 0).toNat
          · rw [unq_bad hj' q1 q2, show upR .bad = .tup [.s [], .s [], .b false] from rfl]
            by_cases q3 : (s.getD j 0).toNat < 32
            · have q3' : decide ((((s.getD j 0).toNat : Nat) : Int) < 32) = true := decide_eq_true (by omega)
              simp (disch := first | first | omega | assumption | exact scell | exact clen_XStep | (simp only [clen_XStep]; omega) | (simp only [List.length_append, List.length_cons, List.length_nil]; omega)) only [Nat.zero_add, oV_some', oN_eq, oM_some, oH_some, oD_some, oE_some, oS_eq, oT_true, oI_true, oI_false, pick_t, pick_f, un_not, oI_not, decide_not, toNat_sub1, toNat_add1, decide_true, decide_false, not_true, not_false_eq_true, Bool.not_true, Bool.not_false, Bool.not_not, oZ_b, oZ_i, oZ_s, oZ_l, slen_map, wr64, Int.toNat_natCast, Int.toNat_zero, ne_eq, bin_lt, bin_slt, bin_gt, b_sgt, bin_eq, b_snil, beq_4, bin_ne, b_snnil, bne_4, bin_add, len_9, idx_9, join3_eq, gtt_1, gff_1, gtf_1, gft_1, gvv_1, gnt_1, gnf_1, gtt_2, gff_2, gtf_2, gft_2, gvv_2, gnt_2, gnf_2, gtt_3, gff_3, gtf_3, gft_3, gvv_3, gnt_3, gnf_3, gtt_5, gff_5, gtf_5, gft_5, gvv_5, gnt_5, gnf_5, gtt_6, gff_6, gtf_6, gft_6, gvv_6, gnt_6, gnf_6, Int.toNat_natCast, f1, q1', q3', ozssb]
            · have q3' : decide ((((s.getD j 0).toNat : Nat) : Int) < 32) = false := decide_eq_false (by omega)
              have q4' : decide ((126 : Int) < (((s.getD j 0).toNat : Nat) : Int)) = true := decide_eq_true (by omega)
              simp (disch := first | first | omega | assumption | exact scell | exact clen_XStep | (simp only [clen_XStep]; omega) | (simp only [List.length_append, List.length_cons, List.length_nil]; omega)) only [Nat.zero_add, oV_some', oN_eq, oM_some, oH_some, oD_some, oE_some, oS_eq, oT_true, oI_true, oI_false, pick_t, pick_f, un_not, oI_not, decide_not, toNat_sub1, toNat_add1, decide_true, decide_false, not_true, not_false_eq_true, Bool.not_true, Bool.not_false, Bool.not_not, oZ_b, oZ_i, oZ_s, oZ_l, slen_map, wr64, Int.toNat_natCast, Int.toNat_zero, ne_eq, bin_lt, bin_slt, bin_gt, b_sgt, bin_eq, b_snil, beq_4, bin_ne, b_snnil, bne_4, bin_add, len_9, idx_9, join3_eq, gtt_1, gff_1, gtf_1, gft_1, gvv_1, gnt_1, gnf_1, gtt_2, gff_2, gtf_2, gft_2, gvv_2, gnt_2, gnf_2, gtt_3, gff_3, gtf_3, gft_3, gvv_3, gnt_3, gnf_3, gtt_5, gff_5, gtf_5, gft_5, gvv_5, gnt_5, gnf_5, gtt_6, gff_6, gtf_6, gft_6, gvv_6, gnt_6, gnf_6, Int.toNat_natCast, f1, q1', q3', q4', ozssb]
          · have q3' : decide ((((s.getD j 0).toNat : Nat) : Int) < 32) = false := decide_eq_false (by omega)
            have q4' : decide ((126 : Int) < (((s.getD j 0).toNat : Nat) : Int)) = false := decide_eq_false (by omega)
            have put := fun (c : UInt8) => c41 c hb (by omega)
            by_cases q5 : (s.getD j 0).toNat = 92
            · have q5' : decide ((((s.getD j 0).toNat : Nat) : Int) = 92) = true := decide_eq_true (by omega)
              by_cases hn : s.length ≤ j + 1
              · have f3 : decide (((j + 1 : Nat) : Int) < (s.length : Nat)) = false := decide_eq_false (by omega)
                rw [unq_ee hj' q5 hn, show upR .bad = .tup [.s [], .s [], .b false] from rfl]
                simp (disch := first | first | omega | assumption | exact scell | exact clen_XStep | (simp only [clen_XStep]; omega) | (simp only [List.length_append, List.length_cons, List.length_nil]; omega)) only [Nat.zero_add, oV_some', oN_eq, oM_some, oH_some, oD_some, oE_some, oS_eq, oT_true, oI_true, oI_false, pick_t, pick_f, un_not, oI_not, decide_not, toNat_sub1, toNat_add1, decide_true, decide_false, not_true, not_false_eq_true, Bool.not_true, Bool.not_false, Bool.not_not, oZ_b, oZ_i, oZ_s, oZ_l, slen_map, wr64, Int.toNat_natCast, Int.toNat_zero, ne_eq, bin_lt, bin_slt, bin_gt, b_sgt, bin_eq, b_snil, beq_4, bin_ne, b_snnil, bne_4, bin_add, len_9, idx_9, join3_eq, gtt_1, gff_1, gtf_1, gft_1, gvv_1, gnt_1, gnf_1, gtt_2, gff_2, gtf_2, gft_2, gvv_2, gnt_2, gnf_2, gtt_3, gff_3, gtf_3, gft_3, gvv_3, gnt_3, gnf_3, gtt_5, gff_5, gtf_5, gft_5, gvv_5, gnt_5, gnf_5, gtt_6, gff_6, gtf_6, gft_6, gvv_6, gnt_6, gnf_6, Int.toNat_natCast, f1, q1', q3', q4', q5', e1, f3, ozssb]
              · have f3 : decide (((j + 1 : Nat) : Int) < (s.length : Nat)) = true := decide_eq_true (by omega)
                have e2 : ((j + 1 : Nat) : Int) + 1 = ((j + 2 : Nat) : Int) := by omega
                have hue := unq_e (acc := A) q5 (show j + 1 < s.length by omega)
                rw [hue] at hR ⊢
                by_cases g1 : (s.getD (j + 1) 0).toNat = 34 ∨ (s.getD (j + 1) 0).toNat = 92
                · rw [if_pos g1] at hR ⊢
                  have hR' := hR (j + 2, A ++ [s.getD (j + 1) 0])
                  obtain ⟨σ2, r2, o2, b2, -⟩ := put (s.getD (j + 1) 0)
                  rw [show bA (s.getD (j + 1) 0) = AV.i .u8 ((s.getD (j + 1) 0).toNat : Nat) from rfl] at r2
                  by_cases g3 : (s.getD (j + 1) 0).toNat = 34
                  · have g1a : decide ((((s.getD (j + 1) 0).toNat : Nat) : Int) = 34) = true := decide_eq_true (by omega)
                    simp (disch := first | first | omega | assumption | exact scell | exact clen_XStep | (simp only [clen_XStep]; omega) | (simp only [List.length_append, List.length_cons, List.length_nil]; omega)) only [Nat.zero_add, oV_some', oN_eq, oM_some, oH_some, oD_some, oE_some, oS_eq, oT_true, oI_true, oI_false, pick_t, pick_f, un_not, oI_not, decide_not, toNat_sub1, toNat_add1, decide_true, decide_false, not_true, not_false_eq_true, Bool.not_true, Bool.not_false, Bool.not_not, oZ_b, oZ_i, oZ_s, oZ_l, slen_map, wr64, Int.toNat_natCast, Int.toNat_zero, ne_eq, bin_lt, bin_slt, bin_gt, b_sgt, bin_eq, b_snil, beq_4, bin_ne, b_snnil, bne_4, bin_add, len_9, idx_9, join3_eq, gtt_1, gff_1, gtf_1, gft_1, gvv_1, gnt_1, gnf_1, gtt_2, gff_2, gtf_2, gft_2, gvv_2, gnt_2, gnf_2, gtt_3, gff_3, gtf_3, gft_3, gvv_3, gnt_3, gnf_3, gtt_5, gff_5, gtf_5, gft_5, gvv_5, gnt_5, gnf_5, gtt_6, gff_6, gtf_6, gft_6, gvv_6, gnt_6, gnf_6, Int.toNat_natCast, f1, q1', q3', q4', q5', e1, e2, f3, g1a, r2.eq]
                    exact hR' _ ⟨by dsimp only; omega, by dsimp only; rw [List.length_append]; simp only [List.length_cons, List.length_nil]; omega, rfl, o2, b2⟩ (by dsimp only; omega)
                  · have g1a : decide ((((s.getD (j + 1) 0).toNat : Nat) : Int) = 34) = false := decide_eq_false (by omega)
                    have g1b : decide ((((s.getD (j + 1) 0).toNat : Nat) : Int) = 92) = true := decide_eq_true (by omega)
                    simp (disch := first | first | omega | assumption | exact scell | exact clen_XStep | (simp only [clen_XStep]; omega) | (simp only [List.length_append, List.length_cons, List.length_nil]; omega)) only [Nat.zero_add, oV_some', oN_eq, oM_some, oH_some, oD_some, oE_some, oS_eq, oT_true, oI_true, oI_false, pick_t, pick_f, un_not, oI_not, decide_not, toNat_sub1, toNat_add1, decide_true, decide_false, not_true, not_false_eq_true, Bool.not_true, Bool.not_false, Bool.not_not, oZ_b, oZ_i, oZ_s, oZ_l, slen_map, wr64, Int.toNat_natCast, Int.toNat_zero, ne_eq, bin_lt, bin_slt, bin_gt, b_sgt, bin_eq, b_snil, beq_4, bin_ne, b_snnil, bne_4, bin_add, len_9, idx_9, join3_eq, gtt_1, gff_1, gtf_1, gft_1, gvv_1, gnt_1, gnf_1, gtt_2, gff_2, gtf_2, gft_2, gvv_2, gnt_2, gnf_2, gtt_3, gff_3, gtf_3, gft_3, gvv_3, gnt_3, gnf_3, gtt_5, gff_5, gtf_5, gft_5, gvv_5, gnt_5, gnf_5, gtt_6, gff_6, gtf_6, gft_6, gvv_6, gnt_6, gnf_6, Int.toNat_natCast, f1, q1', q3', q4', q5', e1, e2, f3, g1a, g1b, r2.eq]
                    exact hR' _ ⟨by dsimp only; omega, by dsimp only; rw [List.length_append]; simp only [List.length_cons, List.length_nil]; omega, rfl, o2, b2⟩ (by dsimp only; omega)
                · have g1a : decide ((((s.getD (j + 1) 0).toNat : Nat) : Int) = 34) = false := decide_eq_false (by omega)
                  have g1b : decide ((((s.getD (j + 1) 0).toNat : Nat) : Int) = 92) = false := decide_eq_false (by omega)
                  rw [if_neg g1] at hR ⊢
                  by_cases g2 : (s.getD (j + 1) 0).toNat = 110
                  · have g2' : decide ((((s.getD (j + 1) 0).toNat : Nat) : Int) = 110) = true := decide_eq_true (by omega)
                    rw [if_pos g2] at hR ⊢
                    have hR' := hR (j + 2, A ++ [10])
                    obtain ⟨σ2, r2, o2, b2, -⟩ := put 10
                    rw [show bA 10 = AV.i .u8 10 from rfl] at r2
                    simp (disch := first | first | omega | assumption | exact scell | exact clen_XStep | (simp only [clen_XStep]; omega) | (simp only [List.length_append, List.length_cons, List.length_nil]; omega)) only [Nat.zero_add, oV_some', oN_eq, oM_some, oH_some, oD_some, oE_some, oS_eq, oT_true, oI_true, oI_false, pick_t, pick_f, un_not, oI_not, decide_not, toNat_sub1, toNat_add1, decide_true, decide_false, not_true, not_false_eq_true, Bool.not_true, Bool.not_false, Bool.not_not, oZ_b, oZ_i, oZ_s, oZ_l, slen_map, wr64, Int.toNat_natCast, Int.toNat_zero, ne_eq, bin_lt, bin_slt, bin_gt, b_sgt, bin_eq, b_snil, beq_4, bin_ne, b_snnil, bne_4, bin_add, len_9, idx_9, join3_eq, gtt_1, gff_1, gtf_1, gft_1, gvv_1, gnt_1, gnf_1, gtt_2, gff_2, gtf_2, gft_2, gvv_2, gnt_2, gnf_2, gtt_3, gff_3, gtf_3, gft_3, gvv_3, gnt_3, gnf_3, gtt_5, gff_5, gtf_5, gft_5, gvv_5, gnt_5, gnf_5, gtt_6, gff_6, gtf_6, gft_6, gvv_6, gnt_6, gnf_6, Int.toNat_natCast, f1, q1', q3', q4', q5', e1, e2, f3, g1a, g1b, g2', r2.eq]
                    exact hR' _ ⟨by dsimp only; omega, by dsimp only; rw [List.length_append]; simp only [List.length_cons, List.length_nil]; omega, rfl, o2, b2⟩ (by dsimp only; omega)
                  · have g2' : decide ((((s.getD (j + 1) 0).toNat : Nat) : Int) = 110) = false := decide_eq_false (by omega)
                    rw [if_neg g2, show upR .bad = .tup [.s [], .s [], .b false] from rfl]
                    simp (disch := first | first | omega | assumption | exact scell | exact clen_XStep | (simp only [clen_XStep]; omega) | (simp only [List.length_append, List.length_cons, List.length_nil]; omega)) only [Nat.zero_add, oV_some', oN_eq, oM_some, oH_some, oD_some, oE_some, oS_eq, oT_true, oI_true, oI_false, pick_t, pick_f, un_not, oI_not, decide_not, toNat_sub1, toNat_add1, decide_true, decide_false, not_true, not_false_eq_true, Bool.not_true, Bool.not_false, Bool.not_not, oZ_b, oZ_i, oZ_s, oZ_l, slen_map, wr64, Int.toNat_natCast, Int.toNat_zero, ne_eq, bin_lt, bin_slt, bin_gt, b_sgt, bin_eq, b_snil, beq_4, bin_ne, b_snnil, bne_4, bin_add, len_9, idx_9, join3_eq, gtt_1, gff_1, gtf_1, gft_1, gvv_1, gnt_1, gnf_1, gtt_2, gff_2, gtf_2, gft_2, gvv_2, gnt_2, gnf_2, gtt_3, gff_3, gtf_3, gft_3, gvv_3, gnt_3, gnf_3, gtt_5, gff_5, gtf_5, gft_5, gvv_5, gnt_5, gnf_5, gtt_6, gff_6, gtf_6, gft_6, gvv_6, gnt_6, gnf_6, Int.toNat_natCast, f1, q1', q3', q4', q5', e1, f3, g1a, g1b, g2', ozssb]
            · have q5' : decide ((((s.getD j 0).toNat : Nat) : Int) = 92) = false := decide_eq_false (by omega)
              have hR' := hR (j + 1, A ++ [s.getD j 0])
              obtain ⟨σ2, r2, o2, b2, -⟩ := put (s.getD j 0)
              rw [show bA (s.getD j 0) = AV.i .u8 ((s.getD j 0).toNat : Nat) from rfl] at r2
              simp (disch := first | first | omega | assumption | exact scell | exact clen_XStep | (simp only [clen_XStep]; omega) | (simp only [List.length_append, List.length_cons, List.length_nil]; omega)) only [Nat.zero_add, oV_some', oN_eq, oM_some, oH_some, oD_some, oE_some, oS_eq, oT_true, oI_true, oI_false, pick_t, pick_f, un_not, oI_not, decide_not, toNat_sub1, toNat_add1, decide_true, decide_false, not_true, not_false_eq_true, Bool.not_true, Bool.not_false, Bool.not_not, oZ_b, oZ_i, oZ_s, oZ_l, slen_map, wr64, Int.toNat_natCast, Int.toNat_zero, ne_eq, bin_lt, bin_slt, bin_gt, b_sgt, bin_eq, b_snil, beq_4, bin_ne, b_snnil, bne_4, bin_add, len_9, idx_9, join3_eq, gtt_1, gff_1, gtf_1, gft_1, gvv_1, gnt_1, gnf_1, gtt_2, gff_2, gtf_2, gft_2, gvv_2, gnt_2, gnf_2, gtt_3, gff_3, gtf_3, gft_3, gvv_3, gnt_3, gnf_3, gtt_5, gff_5, gtf_5, gft_5, gvv_5, gnt_5, gnf_5, gtt_6, gff_6, gtf_6, gft_6, gvv_6, gnt_6, gnf_6, Int.toNat_natCast, f1, q1', q3', q4', q5', e1, r2.eq]
              exact hR' _ ⟨by dsimp only; omega, by dsimp only; rw [List.length_append]; simp only [List.length_cons, List.length_nil]; omega, unq_pl hj' q1 q2 q5, o2, b2⟩ (by dsimp only; omega)
      · have f1 : decide (((j : Nat) : Int) < (s.length : Nat)) = false := decide_eq_false (by omega)
        rw [unq_end (by omega), show upR (.op A) = .tup [.s [], .s [], .b false] from rfl]
        simp (disch := first | first | omega | assumption | exact scell | exact clen_XStep | (simp only [clen_XStep]; omega) | (simp only [List.length_append, List.length_cons, List.length_nil]; omega)) only [Nat.zero_add, oV_some', oN_eq, oM_some, oH_some, oD_some, oE_some, oS_eq, oT_true, oI_true, oI_false, pick_t, pick_f, un_not, oI_not, decide_not, toNat_sub1, toNat_add1, decide_true, decide_false, not_true, not_false_eq_true, Bool.not_true, Bool.not_false, Bool.not_not, oZ_b, oZ_i, oZ_s, oZ_l, slen_map, wr64, Int.toNat_natCast, Int.toNat_zero, ne_eq, bin_lt, bin_slt, bin_gt, b_sgt, bin_eq, b_snil, beq_4, bin_ne, b_snnil, bne_4, bin_add, len_9, idx_9, join3_eq, gtt_1, gff_1, gtf_1, gft_1, gvv_1, gnt_1, gnf_1, gtt_2, gff_2, gtf_2, gft_2, gvv_2, gnt_2, gnf_2, gtt_3, gff_3, gtf_3, gft_3, gvv_3, gnt_3, gnf_3, gtt_5, gff_5, gtf_5, gft_5, gvv_5, gnt_5, gnf_5, gtt_6, gff_6, gtf_6, gft_6, gvv_6, gnt_6, gnf_6, Int.toNat_natCast, f1, ozssb]
    · have d1 : decide ((((s.getD 0 0).toNat : Nat) : Int) = 34) = false := decide_eq_false (by omega)
      rw [show upI s = .tup [.s [], .s [], .b false] from if_neg (fun q => h1 q.2)]
      simp (disch := first | first | omega | assumption | exact scell | exact clen_XStep | (simp only [clen_XStep]; omega) | (simp only [List.length_append, List.length_cons, List.length_nil]; omega)) only [Nat.zero_add, oV_some', oN_eq, oM_some, oH_some, oD_some, oE_some, oS_eq, oT_true, oI_true, oI_false, pick_t, pick_f, un_not, oI_not, decide_not, toNat_sub1, toNat_add1, decide_true, decide_false, not_true, not_false_eq_true, Bool.not_true, Bool.not_false, Bool.not_not, oZ_b, oZ_i, oZ_s, oZ_l, slen_map, wr64, Int.toNat_natCast, Int.toNat_zero, ne_eq, bin_lt, bin_slt, bin_gt, b_sgt, bin_eq, b_snil, beq_4, bin_ne, b_snnil, bne_4, bin_add, len_9, idx_9, join3_eq, gtt_1, gff_1, gtf_1, gft_1, gvv_1, gnt_1, gnf_1, gtt_2, gff_2, gtf_2, gft_2, gvv_2, gnt_2, gnf_2, gtt_3, gff_3, gtf_3, gft_3, gvv_3, gnt_3, gnf_3, gtt_5, gff_5, gtf_5, gft_5, gvv_5, gnt_5, gnf_5, gtt_6, gff_6, gtf_6, gft_6, gvv_6, gnt_6, gnf_6, Int.toNat_natCast, l0', d1, e0, ozssb]
theorem e65 {s : List UInt8} (hl : s.length ≤ 100000) {d : Nat} {σ : AS} {K : AV → AS → Prop} : oC T0 d 65 [.s s] σ K = K (upI s) σ := (c65 s hl).eq d σ K
end Go.Proofs.YtmfhmlhaofpeiaaGreatDoor.Ev
/- Brackets: the spec; the program's bracket. -/
namespace Go.Proofs.YtmfhmlhaofpeiaaGreatDoor.Ev
open Go Go.RowKit
set_option linter.unusedSimpArgs false
set_option linter.unusedVariables false
set_option maxRecDepth 100000

/-- A quoted string with its opening quote. -/
def quL : List UInt8 → UQ
  | [] => .bad
  | c :: r => if c.toNat = 34 then unqL [] r else .bad
theorem quL_c (c : UInt8) (r : List UInt8) : quL (c :: r) = if c.toNat = 34 then unqL [] r else .bad := rfl
theorem upI_eq (s : List UInt8) : upI s = upR (quL s) := by
  cases s with
  | nil => rfl
  | cons c r =>
    rw [quL_c]; unfold upI
    by_cases h : c.toNat = 34
    · rw [if_pos ⟨Nat.succ_pos _, h⟩, if_pos h]; rfl
    · rw [if_neg (fun q => h q.2), if_neg h]; rfl
/-- What a bracket says: the text is what follows its opening. -/
def brL (t : List UInt8) : Option (XStep × List UInt8) :=
  if nmL t = 0 then none else
  match t.drop (nmL t) with
  | [] => none
  | d :: r => if d.toNat = 93 then (if canB (t.take (nmL t)) = true then some (⟨2, [], (min (valD 0 (t.take (nmL t))) 65 : Nat), []⟩, r) else none)
    else if d.toNat = 61 then
      match quL r with
      | .ok acc r' => match r' with
        | [] => none
        | c :: r'' => if c.toNat = 93 then some (⟨3, t.take (nmL t), 0, acc⟩, r'') else none
      | _ => none
    else none
def BrT (o : Option (XStep × List UInt8)) (x : XStep) (r : List UInt8) (b : Bool) : Prop := match o with
  | some p => x = p.1 ∧ r = p.2 ∧ b = true
  | none => b = false
theorem unq_len (n : Nat) : ∀ (acc t a r : List UInt8), t.length ≤ n → unqL acc t = .ok a r → r.length < t.length ∧ a.length + r.length ≤ acc.length + t.length := by
  induction n with
  | zero =>
    intro acc t a r ht h
    obtain rfl : t = [] := List.eq_nil_of_length_eq_zero (by omega)
    rw [unqL] at h; cases h
  | succ n ih =>
    intro acc t a r ht h
    cases t with
    | nil => rw [unqL] at h; cases h
    | cons c t =>
      rw [List.length_cons] at ht
      rw [unqL.eq_def] at h
      simp only [] at h
      split at h
      · injection h with h1 h2; subst h1; subst h2; rw [List.length_cons]; omega
      · split at h
        · cases h
        · split at h
          · have := ih _ t a r (by omega) h
            rw [List.length_append] at this
            simp only [List.length_cons, List.length_nil] at this ⊢
            omega
          · cases t with
            | nil => simp only [] at h; cases h
            | cons d t =>
              rw [List.length_cons] at ht
              simp only [] at h
              split at h
              · have := ih _ t a r (by omega) h
                rw [List.length_append] at this
                simp only [List.length_cons, List.length_nil] at this ⊢
                omega
              · split at h
                · have := ih _ t a r (by omega) h
                  rw [List.length_append] at this
                  simp only [List.length_cons, List.length_nil] at this ⊢
                  omega
                · cases h
theorem qu_len {t a r : List UInt8} (h : quL t = .ok a r) : r.length + 1 < t.length ∧ a.length + r.length < t.length := by
  cases t with
  | nil => unfold quL at h; cases h
  | cons c t =>
    rw [quL_c] at h
    split at h
    · have := unq_len t.length [] t a r (Nat.le_refl _) h
      simp only [List.length_cons, List.length_nil] at this ⊢; omega
    · cases h
theorem nm_drop {t r : List UInt8} {d : UInt8} (h : t.drop (nmL t) = d :: r) : nmL t + r.length + 1 = t.length := by
  have h1 := congrArg List.length h
  rw [List.length_drop, List.length_cons] at h1
  have := nmL_le t
  omega
theorem okI {n : Int} (h1 : -1000 ≤ n) (h2 : n ≤ 1000) : (Lit.int .i64 n).wf = true := by
  show (decide ((-9223372036854775808 : Int) ≤ n) && decide (n ≤ 9223372036854775807)) = true
  rw [decide_eq_true (by omega), decide_eq_true (by omega)]; rfl
theorem brL_ok {t r : List UInt8} {x : XStep} (hl : t.length ≤ 140737488351232) (h : brL t = some (x, r)) : r.length < t.length ∧ okXStep x := by
  unfold brL at h
  split at h
  · cases h
  · split at h
    · cases h
    · rename_i d r' hd
      have hn := nm_drop hd
      have ht : (t.take (nmL t)).length ≤ 140737488351232 := by rw [List.length_take]; omega
      split at h
      · split at h
        · injection h with h; injection h with h1 h2; subst h1; subst h2
          exact ⟨by omega, okI (by show (-1000 : Int) ≤ 2; omega) (by show (2 : Int) ≤ 1000; omega), Nat.zero_le _, okI (by show (-1000 : Int) ≤ (min (valD 0 (t.take (nmL t))) 65 : Nat); omega) (by show ((min (valD 0 (t.take (nmL t))) 65 : Nat) : Int) ≤ 1000; omega), Nat.zero_le _⟩
        · cases h
      · split at h
        · split at h
          · rename_i acc r2 hq
            have hq' := qu_len hq
            split at h
            · cases h
            · split at h
              · injection h with h; injection h with h1 h2; subst h1; subst h2
                simp only [List.length_cons] at hq'
                exact ⟨by omega, okI (by show (-1000 : Int) ≤ 3; omega) (by show (3 : Int) ≤ 1000; omega), ht, okI (by show (-1000 : Int) ≤ 0; omega) (by show (0 : Int) ≤ 1000; omega), by show acc.length ≤ _; omega⟩
              · cases h
          · cases h
        · cases h
theorem sl_c {c : UInt8} {t : List UInt8} {h : Tr AB} : evSliceH T0 h 9 (.s (c :: t)) (some (.i .i64 1)) none none = some (.s t) :=
  slH_of (slE (s := c :: t) (l := 1) (k := .i64) (by rw [List.length_cons]; omega))
theorem sl_ck {c : UInt8} {t : List UInt8} {h : Tr AB} {k : Nat} (hk : k ≤ t.length) : evSliceH T0 h 9 (.s (c :: t)) (some (.i .i64 1)) (some (.i .i64 ((k + 1 : Nat) : Int))) none = some (.s (t.take k)) :=
  sls (s := c :: t) (l := 1) (r := k + 1) (k1 := .i64) (k2 := .i64) (by omega) (by rw [List.length_cons]; omega)
theorem sl_cd {c : UInt8} {t : List UInt8} {h : Tr AB} {k : Nat} (hk : k ≤ t.length) : evSliceH T0 h 9 (.s (c :: t)) (some (.i .i64 ((k + 1 : Nat) : Int))) none none = some (.s (t.drop k)) :=
  slH_of (slE (s := c :: t) (l := k + 1) (k := .i64) (by rw [List.length_cons]; omega))
theorem bld_50i (n : Int) : evBuild T0 50 [(0, .i .i64 2), (2, .i .i64 n)] = some (encXStep ⟨2, [], n, []⟩) := by kernel_rfl
theorem bld_50k (a b : List UInt8) : evBuild T0 50 [(0, .i .i64 3), (1, .s a), (3, .s b)] = some (encXStep ⟨3, a, 0, b⟩) := by kernel_rfl
theorem bld_50f (a : List UInt8) : evBuild T0 50 [(0, .i .i64 1), (1, .s a)] = some (encXStep ⟨1, a, 0, []⟩) := by kernel_rfl
def x0 : XStep := ⟨0, [], 0, []⟩
theorem enc_x0 : (AB.cells [.i .i64 0, .s [], .i .i64 0, .s []] 50 false) = .cells (encXStep x0).cells 50 false := rfl
theorem ozxsb {σ : AS} {K : AV → Prop} {x : XStep} {c : List UInt8} {b : Bool} : oZ T0 σ (.tup [encXStep x, .s c, .b b]) K = K (.tup [encXStep x, .s c, .b b]) := oZ_free rfl
theorem st50 {h : Tr AB} {y : XStep} (x : XStep) : evStore T0 (h.put 0 (some (.cells (encXStep y).cells 50 false))) 50 (.ptr 0 0) (encXStep x) = some ((h.put 0 (some (.cells (encXStep y).cells 50 false))).put 0 (some (.cells (encXStep x).cells 50 false))) := store_all sz_50 rfl rfl rfl
theorem stA50 {h : Tr AB} {y : XStep} (x : XStep) : storeA T0 (h.put 0 (some (.cells (encXStep y).cells 50 false))) 50 (.ptr 0 0) (encXStep x) = some (0, .cells (encXStep x).cells 50 false) := by
  refine storeA_p (n := 4) sz_50 (get_put_same _ _ _) rfl rfl ?_
  rfl
theorem ld50 {h : Tr AB} {x : XStep} : evLoad T0 (h.put 0 (some (.cells (encXStep x).cells 50 false))) 50 (.ptr 0 0) = some (encXStep x) := by
  rw [load_get, get_put_same, loadB_some (Nat.zero_le _)]; exact ofc0_encXStep x
theorem rw_one {n : Nat} {L : List (List Nat)} {bs : List Nat} {i : Nat} {K : Prop} : oT (rdsOK n (befG L) bs [] i [] && wrsOK bs i []) K = K := by rw [show (rdsOK n (befG L) bs [] i [] && wrsOK bs i []) = true from rfl, oT_true]
theorem cl0 (a : UInt8) (l : List UInt8) : decide ((a :: l).length = 0) = false := rfl
theorem nl0 : decide (([] : List UInt8).length = 0) = true := rfl
theorem gd0 (a : UInt8) (l : List UInt8) (d : UInt8) : (a :: l).getD 0 d = a := rfl
theorem c38_a (c : UInt8) (t : List UInt8) (hl : t.length + 1 ≤ 100000) (h0 : nmL t = 0) : R T0 38 [.s (c :: t)] (.tup [encXStep x0, .s [], .b false]) := by
  have hk := nmL_le t
  have e39' := fun (d : Nat) (σ : AS) (K : AV → AS → Prop) => e39 (s := t) (by omega) (d := d) (σ := σ) (K := K)
  have e1 : (1 : Int) + (nmL t : Nat) = ((nmL t + 1 : Nat) : Int) := by omega
  have d0 : decide (((nmL t : Nat) : Int) = (0 : Int)) = true := decide_eq_true (by omega)
  refine r38 _ rfl rfl ?_
  unfold w38
  dsimp only [prims]
  simp (disch := first | first | omega | assumption | exact scell | exact clen_XStep | (simp only [clen_XStep]; omega) | (simp only [List.length_append, List.length_cons, List.length_nil]; omega)) only [Nat.zero_add, oV_some', oN_eq, oM_some, oH_some, oD_some, oE_some, oS_eq, oT_true, oI_true, oI_false, pick_t, pick_f, un_not, oI_not, decide_not, toNat_sub1, toNat_add1, decide_true, decide_false, not_true, not_false_eq_true, Bool.not_true, Bool.not_false, Bool.not_not, oZ_b, oZ_i, oZ_s, oZ_l, slen_map, wr64, Int.toNat_natCast, Int.toNat_zero, ne_eq, bin_eq, b_snil, beq_4, bin_ne, b_snnil, bne_4, bin_add, load_get, loadB_some, get_put_same, get_put_ne, ofc_s, load_i, ext_t, List.getElem?_cons_zero, List.getElem?_cons_succ, idx_9, ofc_encXStep, ofc0_encXStep, st_XStep, fld_XStep_kind_, fld_XStep_name_, fld_XStep_index_, fld_XStep_value_, prt_XStep_kind_, prt_XStep_name_, prt_XStep_index_, prt_XStep_value_, gtt_2, gff_2, gtf_2, gft_2, gvv_2, gnt_2, gnf_2, gtt_3, gff_3, gtf_3, gft_3, gvv_3, gnt_3, gnf_3, enc_x0, st50, ld50, sl_c, e39', e1, sl_ck, sl_cd, d0, ozxsb]
theorem c38_b (c : UInt8) (t : List UInt8) (hl : t.length + 1 ≤ 100000) (h0 : ¬ nmL t = 0) (hd : t.drop (nmL t) = []) : R T0 38 [.s (c :: t)] (.tup [encXStep x0, .s [], .b false]) := by
  have hk := nmL_le t
  have e39' := fun (d : Nat) (σ : AS) (K : AV → AS → Prop) => e39 (s := t) (by omega) (d := d) (σ := σ) (K := K)
  have e1 : (1 : Int) + (nmL t : Nat) = ((nmL t + 1 : Nat) : Int) := by omega
  have d0 : decide (((nmL t : Nat) : Int) = (0 : Int)) = false := decide_eq_false (by omega)
  refine r38 _ rfl rfl ?_
  unfold w38
  dsimp only [prims]
  simp (disch := first | first | omega | assumption | exact scell | exact clen_XStep | (simp only [clen_XStep]; omega) | (simp only [List.length_append, List.length_cons, List.length_nil]; omega)) only [Nat.zero_add, oV_some', oN_eq, oM_some, oH_some, oD_some, oE_some, oS_eq, oT_true, oI_true, oI_false, pick_t, pick_f, un_not, oI_not, decide_not, toNat_sub1, toNat_add1, decide_true, decide_false, not_true, not_false_eq_true, Bool.not_true, Bool.not_false, Bool.not_not, oZ_b, oZ_i, oZ_s, oZ_l, slen_map, wr64, Int.toNat_natCast, Int.toNat_zero, ne_eq, bin_eq, b_snil, beq_4, bin_ne, b_snnil, bne_4, bin_add, load_get, loadB_some, get_put_same, get_put_ne, ofc_s, load_i, ext_t, List.getElem?_cons_zero, List.getElem?_cons_succ, idx_9, ofc_encXStep, ofc0_encXStep, st_XStep, fld_XStep_kind_, fld_XStep_name_, fld_XStep_index_, fld_XStep_value_, prt_XStep_kind_, prt_XStep_name_, prt_XStep_index_, prt_XStep_value_, gtt_2, gff_2, gtf_2, gft_2, gvv_2, gnt_2, gnf_2, gtt_3, gff_3, gtf_3, gft_3, gvv_3, gnt_3, gnf_3, enc_x0, st50, ld50, sl_c, e39', e1, sl_ck, sl_cd, hd, d0, nl0, ozxsb]
theorem c38_c (c : UInt8) (t : List UInt8) (hl : t.length + 1 ≤ 100000) (h0 : ¬ nmL t = 0) (d : UInt8) (r : List UInt8) (hd : t.drop (nmL t) = d :: r) (h1 : d.toNat = 93) (hc : canB (t.take (nmL t)) = true) : R T0 38 [.s (c :: t)] (.tup [encXStep ⟨2, [], (min (valD 0 (t.take (nmL t))) 65 : Nat), []⟩, .s r, .b true]) := by
  have hk := nmL_le t
  have e39' := fun (d : Nat) (σ : AS) (K : AV → AS → Prop) => e39 (s := t) (by omega) (d := d) (σ := σ) (K := K)
  have e1 : (1 : Int) + (nmL t : Nat) = ((nmL t + 1 : Nat) : Int) := by omega
  have d0 : decide (((nmL t : Nat) : Int) = (0 : Int)) = false := decide_eq_false (by omega)
  have d1 : decide (((d.toNat : Nat) : Int) = 93) = true := decT (by omega)
  have ht : (t.take (nmL t)).length ≤ 1048576 := by rw [List.length_take]; omega
  refine r38 _ rfl rfl ?_
  unfold w38
  dsimp only [prims]
  simp (disch := first | first | omega | assumption | exact scell | exact clen_XStep | (simp only [clen_XStep]; omega) | (simp only [List.length_append, List.length_cons, List.length_nil]; omega)) only [Nat.zero_add, oV_some', oN_eq, oM_some, oH_some, oD_some, oE_some, oS_eq, oT_true, oI_true, oI_false, pick_t, pick_f, un_not, oI_not, decide_not, toNat_sub1, toNat_add1, decide_true, decide_false, not_true, not_false_eq_true, Bool.not_true, Bool.not_false, Bool.not_not, oZ_b, oZ_i, oZ_s, oZ_l, slen_map, wr64, Int.toNat_natCast, Int.toNat_zero, ne_eq, bin_eq, b_snil, beq_4, bin_ne, b_snnil, bne_4, bin_add, load_get, loadB_some, get_put_same, get_put_ne, ofc_s, load_i, ext_t, List.getElem?_cons_zero, List.getElem?_cons_succ, idx_9, ofc_encXStep, ofc0_encXStep, st_XStep, fld_XStep_kind_, fld_XStep_name_, fld_XStep_index_, fld_XStep_value_, prt_XStep_kind_, prt_XStep_name_, prt_XStep_index_, prt_XStep_value_, gtt_2, gff_2, gtf_2, gft_2, gvv_2, gnt_2, gnf_2, gtt_3, gff_3, gtf_3, gft_3, gvv_3, gnt_3, gnf_3, enc_x0, st50, ld50, sl_c, e39', e1, sl_ck, sl_cd, hd, d0, cl0, gd0, d1, e64 ht, ixR_yes hc, ex0, ex1, bld_50i, stA50, rw_one, ozxsb]
theorem c38_d (c : UInt8) (t : List UInt8) (hl : t.length + 1 ≤ 100000) (h0 : ¬ nmL t = 0) (d : UInt8) (r : List UInt8) (hd : t.drop (nmL t) = d :: r) (h1 : d.toNat = 93) (hc : canB (t.take (nmL t)) = false) : R T0 38 [.s (c :: t)] (.tup [encXStep ⟨2, [], 0, []⟩, .s r, .b false]) := by
  have hk := nmL_le t
  have e39' := fun (d : Nat) (σ : AS) (K : AV → AS → Prop) => e39 (s := t) (by omega) (d := d) (σ := σ) (K := K)
  have e1 : (1 : Int) + (nmL t : Nat) = ((nmL t + 1 : Nat) : Int) := by omega
  have d0 : decide (((nmL t : Nat) : Int) = (0 : Int)) = false := decide_eq_false (by omega)
  have d1 : decide (((d.toNat : Nat) : Int) = 93) = true := decT (by omega)
  have ht : (t.take (nmL t)).length ≤ 1048576 := by rw [List.length_take]; omega
  refine r38 _ rfl rfl ?_
  unfold w38
  dsimp only [prims]
  simp (disch := first | first | omega | assumption | exact scell | exact clen_XStep | (simp only [clen_XStep]; omega) | (simp only [List.length_append, List.length_cons, List.length_nil]; omega)) only [Nat.zero_add, oV_some', oN_eq, oM_some, oH_some, oD_some, oE_some, oS_eq, oT_true, oI_true, oI_false, pick_t, pick_f, un_not, oI_not, decide_not, toNat_sub1, toNat_add1, decide_true, decide_false, not_true, not_false_eq_true, Bool.not_true, Bool.not_false, Bool.not_not, oZ_b, oZ_i, oZ_s, oZ_l, slen_map, wr64, Int.toNat_natCast, Int.toNat_zero, ne_eq, bin_eq, b_snil, beq_4, bin_ne, b_snnil, bne_4, bin_add, load_get, loadB_some, get_put_same, get_put_ne, ofc_s, load_i, ext_t, List.getElem?_cons_zero, List.getElem?_cons_succ, idx_9, ofc_encXStep, ofc0_encXStep, st_XStep, fld_XStep_kind_, fld_XStep_name_, fld_XStep_index_, fld_XStep_value_, prt_XStep_kind_, prt_XStep_name_, prt_XStep_index_, prt_XStep_value_, gtt_2, gff_2, gtf_2, gft_2, gvv_2, gnt_2, gnf_2, gtt_3, gff_3, gtf_3, gft_3, gvv_3, gnt_3, gnf_3, enc_x0, st50, ld50, sl_c, e39', e1, sl_ck, sl_cd, hd, d0, cl0, gd0, d1, e64 ht, ixR_no hc, ex0, ex1, bld_50i, stA50, rw_one, ozxsb]
theorem c38_e (c : UInt8) (t : List UInt8) (hl : t.length + 1 ≤ 100000) (h0 : ¬ nmL t = 0) (d : UInt8) (r : List UInt8) (hd : t.drop (nmL t) = d :: r) (h1 : ¬ d.toNat = 93) (h2 : ¬ d.toNat = 61) : R T0 38 [.s (c :: t)] (.tup [encXStep x0, .s [], .b false]) := by
  have hk := nmL_le t
  have e39' := fun (d : Nat) (σ : AS) (K : AV → AS → Prop) => e39 (s := t) (by omega) (d := d) (σ := σ) (K := K)
  have e1 : (1 : Int) + (nmL t : Nat) = ((nmL t + 1 : Nat) : Int) := by omega
  have d0 : decide (((nmL t : Nat) : Int) = (0 : Int)) = false := decide_eq_false (by omega)
  have d1 : decide (((d.toNat : Nat) : Int) = 93) = false := decF (by omega)
  have d2 : decide (((d.toNat : Nat) : Int) = 61) = false := decF (by omega)
  refine r38 _ rfl rfl ?_
  unfold w38
  dsimp only [prims]
  simp (disch := first | first | omega | assumption | exact scell | exact clen_XStep | (simp only [clen_XStep]; omega) | (simp only [List.length_append, List.length_cons, List.length_nil]; omega)) only [Nat.zero_add, oV_some', oN_eq, oM_some, oH_some, oD_some, oE_some, oS_eq, oT_true, oI_true, oI_false, pick_t, pick_f, un_not, oI_not, decide_not, toNat_sub1, toNat_add1, decide_true, decide_false, not_true, not_false_eq_true, Bool.not_true, Bool.not_false, Bool.not_not, oZ_b, oZ_i, oZ_s, oZ_l, slen_map, wr64, Int.toNat_natCast, Int.toNat_zero, ne_eq, bin_eq, b_snil, beq_4, bin_ne, b_snnil, bne_4, bin_add, load_get, loadB_some, get_put_same, get_put_ne, ofc_s, load_i, ext_t, List.getElem?_cons_zero, List.getElem?_cons_succ, idx_9, ofc_encXStep, ofc0_encXStep, st_XStep, fld_XStep_kind_, fld_XStep_name_, fld_XStep_index_, fld_XStep_value_, prt_XStep_kind_, prt_XStep_name_, prt_XStep_index_, prt_XStep_value_, gtt_2, gff_2, gtf_2, gft_2, gvv_2, gnt_2, gnf_2, gtt_3, gff_3, gtf_3, gft_3, gvv_3, gnt_3, gnf_3, enc_x0, st50, ld50, sl_c, e39', e1, sl_ck, sl_cd, hd, d0, cl0, gd0, d1, d2, ozxsb]
theorem c38_f (c : UInt8) (t : List UInt8) (hl : t.length + 1 ≤ 100000) (h0 : ¬ nmL t = 0) (d : UInt8) (r : List UInt8) (hd : t.drop (nmL t) = d :: r) (h1 : ¬ d.toNat = 93) (h2 : d.toNat = 61) (hq : quL r = .bad) : R T0 38 [.s (c :: t)] (.tup [encXStep x0, .s [], .b false]) := by
  have hk := nmL_le t
  have e39' := fun (d : Nat) (σ : AS) (K : AV → AS → Prop) => e39 (s := t) (by omega) (d := d) (σ := σ) (K := K)
  have e1 : (1 : Int) + (nmL t : Nat) = ((nmL t + 1 : Nat) : Int) := by omega
  have d0 : decide (((nmL t : Nat) : Int) = (0 : Int)) = false := decide_eq_false (by omega)
  have d1 : decide (((d.toNat : Nat) : Int) = 93) = false := decF (by omega)
  have d2 : decide (((d.toNat : Nat) : Int) = 61) = true := decT (by omega)
  have hn := nm_drop hd
  have e65' := fun (d : Nat) (σ : AS) (K : AV → AS → Prop) => e65 (s := r) (by omega) (d := d) (σ := σ) (K := K)
  rw [upI_eq, hq] at e65'
  refine r38 _ rfl rfl ?_
  unfold w38
  dsimp only [prims]
  simp (disch := first | first | omega | assumption | exact scell | exact clen_XStep | (simp only [clen_XStep]; omega) | (simp only [List.length_append, List.length_cons, List.length_nil]; omega)) only [Nat.zero_add, oV_some', oN_eq, oM_some, oH_some, oD_some, oE_some, oS_eq, oT_true, oI_true, oI_false, pick_t, pick_f, un_not, oI_not, decide_not, toNat_sub1, toNat_add1, decide_true, decide_false, not_true, not_false_eq_true, Bool.not_true, Bool.not_false, Bool.not_not, oZ_b, oZ_i, oZ_s, oZ_l, slen_map, wr64, Int.toNat_natCast, Int.toNat_zero, ne_eq, bin_eq, b_snil, beq_4, bin_ne, b_snnil, bne_4, bin_add, load_get, loadB_some, get_put_same, get_put_ne, ofc_s, load_i, ext_t, List.getElem?_cons_zero, List.getElem?_cons_succ, idx_9, ofc_encXStep, ofc0_encXStep, st_XStep, fld_XStep_kind_, fld_XStep_name_, fld_XStep_index_, fld_XStep_value_, prt_XStep_kind_, prt_XStep_name_, prt_XStep_index_, prt_XStep_value_, gtt_2, gff_2, gtf_2, gft_2, gvv_2, gnt_2, gnf_2, gtt_3, gff_3, gtf_3, gft_3, gvv_3, gnt_3, gnf_3, enc_x0, st50, ld50, sl_c, e39', e1, sl_ck, sl_cd, hd, d0, cl0, gd0, d1, d2, e65', upR, ex0, ex1, ex2, nl0, ozxsb]
theorem c38_g (c : UInt8) (t : List UInt8) (hl : t.length + 1 ≤ 100000) (h0 : ¬ nmL t = 0) (d : UInt8) (r : List UInt8) (hd : t.drop (nmL t) = d :: r) (h1 : ¬ d.toNat = 93) (h2 : d.toNat = 61) (a : List UInt8) (hq : quL r = .op a) : R T0 38 [.s (c :: t)] (.tup [encXStep x0, .s [], .b false]) := by
  have hk := nmL_le t
  have e39' := fun (d : Nat) (σ : AS) (K : AV → AS → Prop) => e39 (s := t) (by omega) (d := d) (σ := σ) (K := K)
  have e1 : (1 : Int) + (nmL t : Nat) = ((nmL t + 1 : Nat) : Int) := by omega
  have d0 : decide (((nmL t : Nat) : Int) = (0 : Int)) = false := decide_eq_false (by omega)
  have d1 : decide (((d.toNat : Nat) : Int) = 93) = false := decF (by omega)
  have d2 : decide (((d.toNat : Nat) : Int) = 61) = true := decT (by omega)
  have hn := nm_drop hd
  have e65' := fun (d : Nat) (σ : AS) (K : AV → AS → Prop) => e65 (s := r) (by omega) (d := d) (σ := σ) (K := K)
  rw [upI_eq, hq] at e65'
  refine r38 _ rfl rfl ?_
  unfold w38
  dsimp only [prims]
  simp (disch := first | first | omega | assumption | exact scell | exact clen_XStep | (simp only [clen_XStep]; omega) | (simp only [List.length_append, List.length_cons, List.length_nil]; omega)) only [Nat.zero_add, oV_some', oN_eq, oM_some, oH_some, oD_some, oE_some, oS_eq, oT_true, oI_true, oI_false, pick_t, pick_f, un_not, oI_not, decide_not, toNat_sub1, toNat_add1, decide_true, decide_false, not_true, not_false_eq_true, Bool.not_true, Bool.not_false, Bool.not_not, oZ_b, oZ_i, oZ_s, oZ_l, slen_map, wr64, Int.toNat_natCast, Int.toNat_zero, ne_eq, bin_eq, b_snil, beq_4, bin_ne, b_snnil, bne_4, bin_add, load_get, loadB_some, get_put_same, get_put_ne, ofc_s, load_i, ext_t, List.getElem?_cons_zero, List.getElem?_cons_succ, idx_9, ofc_encXStep, ofc0_encXStep, st_XStep, fld_XStep_kind_, fld_XStep_name_, fld_XStep_index_, fld_XStep_value_, prt_XStep_kind_, prt_XStep_name_, prt_XStep_index_, prt_XStep_value_, gtt_2, gff_2, gtf_2, gft_2, gvv_2, gnt_2, gnf_2, gtt_3, gff_3, gtf_3, gft_3, gvv_3, gnt_3, gnf_3, enc_x0, st50, ld50, sl_c, e39', e1, sl_ck, sl_cd, hd, d0, cl0, gd0, d1, d2, e65', upR, ex0, ex1, ex2, nl0, ozxsb]
theorem c38_h (c : UInt8) (t : List UInt8) (hl : t.length + 1 ≤ 100000) (h0 : ¬ nmL t = 0) (d : UInt8) (r : List UInt8) (hd : t.drop (nmL t) = d :: r) (h1 : ¬ d.toNat = 93) (h2 : d.toNat = 61) (a : List UInt8) (hq : quL r = .ok a []) : R T0 38 [.s (c :: t)] (.tup [encXStep x0, .s [], .b false]) := by
  have hk := nmL_le t
  have e39' := fun (d : Nat) (σ : AS) (K : AV → AS → Prop) => e39 (s := t) (by omega) (d := d) (σ := σ) (K := K)
  have e1 : (1 : Int) + (nmL t : Nat) = ((nmL t + 1 : Nat) : Int) := by omega
  have d0 : decide (((nmL t : Nat) : Int) = (0 : Int)) = false := decide_eq_false (by omega)
  have d1 : decide (((d.toNat : Nat) : Int) = 93) = false := decF (by omega)
  have d2 : decide (((d.toNat : Nat) : Int) = 61) = true := decT (by omega)
  have hn := nm_drop hd
  have e65' := fun (d : Nat) (σ : AS) (K : AV → AS → Prop) => e65 (s := r) (by omega) (d := d) (σ := σ) (K := K)
  rw [upI_eq, hq] at e65'
  refine r38 _ rfl rfl ?_
  unfold w38
  dsimp only [prims]
  simp (disch := first | first | omega | assumption | exact scell | exact clen_XStep | (simp only [clen_XStep]; omega) | (simp only [List.length_append, List.length_cons, List.length_nil]; omega)) only [Nat.zero_add, oV_some', oN_eq, oM_some, oH_some, oD_some, oE_some, oS_eq, oT_true, oI_true, oI_false, pick_t, pick_f, un_not, oI_not, decide_not, toNat_sub1, toNat_add1, decide_true, decide_false, not_true, not_false_eq_true, Bool.not_true, Bool.not_false, Bool.not_not, oZ_b, oZ_i, oZ_s, oZ_l, slen_map, wr64, Int.toNat_natCast, Int.toNat_zero, ne_eq, bin_eq, b_snil, beq_4, bin_ne, b_snnil, bne_4, bin_add, load_get, loadB_some, get_put_same, get_put_ne, ofc_s, load_i, ext_t, List.getElem?_cons_zero, List.getElem?_cons_succ, idx_9, ofc_encXStep, ofc0_encXStep, st_XStep, fld_XStep_kind_, fld_XStep_name_, fld_XStep_index_, fld_XStep_value_, prt_XStep_kind_, prt_XStep_name_, prt_XStep_index_, prt_XStep_value_, gtt_2, gff_2, gtf_2, gft_2, gvv_2, gnt_2, gnf_2, gtt_3, gff_3, gtf_3, gft_3, gvv_3, gnt_3, gnf_3, enc_x0, st50, ld50, sl_c, e39', e1, sl_ck, sl_cd, hd, d0, cl0, gd0, d1, d2, e65', upR, ex0, ex1, ex2, nl0, ozxsb]
theorem c38_i (c : UInt8) (t : List UInt8) (hl : t.length + 1 ≤ 100000) (h0 : ¬ nmL t = 0) (d : UInt8) (r : List UInt8) (hd : t.drop (nmL t) = d :: r) (h1 : ¬ d.toNat = 93) (h2 : d.toNat = 61) (a r2 : List UInt8) (c2 : UInt8) (hq : quL r = .ok a (c2 :: r2)) (h3 : c2.toNat = 93) : R T0 38 [.s (c :: t)] (.tup [encXStep ⟨3, t.take (nmL t), 0, a⟩, .s r2, .b true]) := by
  have hk := nmL_le t
  have e39' := fun (d : Nat) (σ : AS) (K : AV → AS → Prop) => e39 (s := t) (by omega) (d := d) (σ := σ) (K := K)
  have e1 : (1 : Int) + (nmL t : Nat) = ((nmL t + 1 : Nat) : Int) := by omega
  have d0 : decide (((nmL t : Nat) : Int) = (0 : Int)) = false := decide_eq_false (by omega)
  have d1 : decide (((d.toNat : Nat) : Int) = 93) = false := decF (by omega)
  have d2 : decide (((d.toNat : Nat) : Int) = 61) = true := decT (by omega)
  have hn := nm_drop hd
  have e65' := fun (d : Nat) (σ : AS) (K : AV → AS → Prop) => e65 (s := r) (by omega) (d := d) (σ := σ) (K := K)
  rw [upI_eq, hq] at e65'
  have d3 : decide (((c2.toNat : Nat) : Int) = 93) = true := decT (by omega)
  refine r38 _ rfl rfl ?_
  unfold w38
  dsimp only [prims]
  simp (disch := first | first | omega | assumption | exact scell | exact clen_XStep | (simp only [clen_XStep]; omega) | (simp only [List.length_append, List.length_cons, List.length_nil]; omega)) only [Nat.zero_add, oV_some', oN_eq, oM_some, oH_some, oD_some, oE_some, oS_eq, oT_true, oI_true, oI_false, pick_t, pick_f, un_not, oI_not, decide_not, toNat_sub1, toNat_add1, decide_true, decide_false, not_true, not_false_eq_true, Bool.not_true, Bool.not_false, Bool.not_not, oZ_b, oZ_i, oZ_s, oZ_l, slen_map, wr64, Int.toNat_natCast, Int.toNat_zero, ne_eq, bin_eq, b_snil, beq_4, bin_ne, b_snnil, bne_4, bin_add, load_get, loadB_some, get_put_same, get_put_ne, ofc_s, load_i, ext_t, List.getElem?_cons_zero, List.getElem?_cons_succ, idx_9, ofc_encXStep, ofc0_encXStep, st_XStep, fld_XStep_kind_, fld_XStep_name_, fld_XStep_index_, fld_XStep_value_, prt_XStep_kind_, prt_XStep_name_, prt_XStep_index_, prt_XStep_value_, gtt_2, gff_2, gtf_2, gft_2, gvv_2, gnt_2, gnf_2, gtt_3, gff_3, gtf_3, gft_3, gvv_3, gnt_3, gnf_3, enc_x0, st50, ld50, sl_c, e39', e1, sl_ck, sl_cd, hd, d0, cl0, gd0, d1, d2, e65', upR, ex0, ex1, ex2, nl0, d3, bld_50k, stA50, rw_one, ozxsb]
theorem c38_j (c : UInt8) (t : List UInt8) (hl : t.length + 1 ≤ 100000) (h0 : ¬ nmL t = 0) (d : UInt8) (r : List UInt8) (hd : t.drop (nmL t) = d :: r) (h1 : ¬ d.toNat = 93) (h2 : d.toNat = 61) (a r2 : List UInt8) (c2 : UInt8) (hq : quL r = .ok a (c2 :: r2)) (h3 : ¬ c2.toNat = 93) : R T0 38 [.s (c :: t)] (.tup [encXStep x0, .s [], .b false]) := by
  have hk := nmL_le t
  have e39' := fun (d : Nat) (σ : AS) (K : AV → AS → Prop) => e39 (s := t) (by omega) (d := d) (σ := σ) (K := K)
  have e1 : (1 : Int) + (nmL t : Nat) = ((nmL t + 1 : Nat) : Int) := by omega
  have d0 : decide (((nmL t : Nat) : Int) = (0 : Int)) = false := decide_eq_false (by omega)
  have d1 : decide (((d.toNat : Nat) : Int) = 93) = false := decF (by omega)
  have d2 : decide (((d.toNat : Nat) : Int) = 61) = true := decT (by omega)
  have hn := nm_drop hd
  have e65' := fun (d : Nat) (σ : AS) (K : AV → AS → Prop) => e65 (s := r) (by omega) (d := d) (σ := σ) (K := K)
  rw [upI_eq, hq] at e65'
  have d3 : decide (((c2.toNat : Nat) : Int) = 93) = false := decF (by omega)
  refine r38 _ rfl rfl ?_
  unfold w38
  dsimp only [prims]
  simp (disch := first | first | omega | assumption | exact scell | exact clen_XStep | (simp only [clen_XStep]; omega) | (simp only [List.length_append, List.length_cons, List.length_nil]; omega)) only [Nat.zero_add, oV_some', oN_eq, oM_some, oH_some, oD_some, oE_some, oS_eq, oT_true, oI_true, oI_false, pick_t, pick_f, un_not, oI_not, decide_not, toNat_sub1, toNat_add1, decide_true, decide_false, not_true, not_false_eq_true, Bool.not_true, Bool.not_false, Bool.not_not, oZ_b, oZ_i, oZ_s, oZ_l, slen_map, wr64, Int.toNat_natCast, Int.toNat_zero, ne_eq, bin_eq, b_snil, beq_4, bin_ne, b_snnil, bne_4, bin_add, load_get, loadB_some, get_put_same, get_put_ne, ofc_s, load_i, ext_t, List.getElem?_cons_zero, List.getElem?_cons_succ, idx_9, ofc_encXStep, ofc0_encXStep, st_XStep, fld_XStep_kind_, fld_XStep_name_, fld_XStep_index_, fld_XStep_value_, prt_XStep_kind_, prt_XStep_name_, prt_XStep_index_, prt_XStep_value_, gtt_2, gff_2, gtf_2, gft_2, gvv_2, gnt_2, gnf_2, gtt_3, gff_3, gtf_3, gft_3, gvv_3, gnt_3, gnf_3, enc_x0, st50, ld50, sl_c, e39', e1, sl_ck, sl_cd, hd, d0, cl0, gd0, d1, d2, e65', upR, ex0, ex1, ex2, nl0, d3, ozxsb]
theorem brL_0 {t : List UInt8} (h0 : nmL t = 0) : brL t = none := by unfold brL; rw [if_pos h0]
theorem brL_b {t : List UInt8} (h0 : ¬ nmL t = 0) (hd : t.drop (nmL t) = []) : brL t = none := by unfold brL; rw [if_neg h0, hd]
theorem brL_i {t r : List UInt8} {d : UInt8} (h0 : ¬ nmL t = 0) (hd : t.drop (nmL t) = d :: r) (h1 : d.toNat = 93) : brL t = if canB (t.take (nmL t)) = true then some (⟨2, [], (min (valD 0 (t.take (nmL t))) 65 : Nat), []⟩, r) else none := by
  unfold brL; rw [if_neg h0, hd]; simp only []; rw [if_pos h1]
theorem brL_e {t r : List UInt8} {d : UInt8} (h0 : ¬ nmL t = 0) (hd : t.drop (nmL t) = d :: r) (h1 : ¬ d.toNat = 93) (h2 : ¬ d.toNat = 61) : brL t = none := by
  unfold brL; rw [if_neg h0, hd]; simp only []; rw [if_neg h1, if_neg h2]
theorem brL_q {t r : List UInt8} {d : UInt8} (h0 : ¬ nmL t = 0) (hd : t.drop (nmL t) = d :: r) (h1 : ¬ d.toNat = 93) (h2 : d.toNat = 61) : brL t = (match quL r with | .ok acc r' => (match r' with | [] => none | c :: r'' => if c.toNat = 93 then some (⟨3, t.take (nmL t), 0, acc⟩, r'') else none) | _ => none) := by
  conv => lhs; unfold brL
  rw [if_neg h0, hd]; simp only []; rw [if_neg h1, if_pos h2]
theorem c38 (c : UInt8) (t : List UInt8) (hl : t.length + 1 ≤ 100000) : ∃ x r b, BrT (brL t) x r b ∧ R T0 38 [.s (c :: t)] (.tup [encXStep x, .s r, .b b]) := by
  by_cases h0 : nmL t = 0
  · exact ⟨_, _, _, by rw [brL_0 h0]; rfl, c38_a c t hl h0⟩
  · cases hd : t.drop (nmL t) with
    | nil => exact ⟨_, _, _, by rw [brL_b h0 hd]; rfl, c38_b c t hl h0 hd⟩
    | cons d r =>
      by_cases h1 : d.toNat = 93
      · rw [brL_i h0 hd h1]
        by_cases hc : canB (t.take (nmL t)) = true
        · exact ⟨_, _, _, by rw [if_pos hc]; exact ⟨rfl, rfl, rfl⟩, c38_c c t hl h0 d r hd h1 hc⟩
        · exact ⟨_, _, _, by rw [if_neg hc]; rfl, c38_d c t hl h0 d r hd h1 (by simpa using hc)⟩
      · by_cases h2 : d.toNat = 61
        · rw [brL_q h0 hd h1 h2]
          cases hq : quL r with
          | bad => exact ⟨_, _, _, rfl, c38_f c t hl h0 d r hd h1 h2 hq⟩
          | op a => exact ⟨_, _, _, rfl, c38_g c t hl h0 d r hd h1 h2 a hq⟩
          | ok a r' =>
            cases r' with
            | nil => exact ⟨_, _, _, rfl, c38_h c t hl h0 d r hd h1 h2 a hq⟩
            | cons c2 r2 =>
              by_cases h3 : c2.toNat = 93
              · exact ⟨_, _, _, by simp only []; rw [if_pos h3]; exact ⟨rfl, rfl, rfl⟩, c38_i c t hl h0 d r hd h1 h2 a r2 c2 hq h3⟩
              · exact ⟨_, _, _, by simp only []; rw [if_neg h3]; rfl, c38_j c t hl h0 d r hd h1 h2 a r2 c2 hq h3⟩
        · exact ⟨_, _, _, by rw [brL_e h0 hd h1 h2]; rfl, c38_e c t hl h0 d r hd h1 h2⟩
end Go.Proofs.YtmfhmlhaofpeiaaGreatDoor.Ev
/- The reference's bracket. -/
namespace Go.Proofs.YtmfhmlhaofpeiaaGreatDoor.Ev
open Go Go.RowKit
set_option linter.unusedSimpArgs false
set_option linter.unusedVariables false
set_option maxRecDepth 100000

def encG (x : XStep) (i : Int) (b : Bool) : AV := .agg [.i .i64 x.kind_, .s x.name_, .i .i64 x.index_, .s x.value_, .i .i64 i, .b b]
end Go.Proofs.YtmfhmlhaofpeiaaGreatDoor.Ev
/- Parse: the spec; one step; the reference's Parse. -/
namespace Go.Proofs.YtmfhmlhaofpeiaaGreatDoor.Ev
open Go Go.RowKit
set_option linter.unusedSimpArgs false
set_option linter.unusedVariables false
set_option maxRecDepth 100000

/-- A field step: a name, not empty. -/
def fdL (u : List UInt8) : Option (XStep × List UInt8) := if nmL u = 0 then none else some (⟨1, u.take (nmL u), 0, []⟩, u.drop (nmL u))
/-- The step with which a text, not empty, begins. -/
def stL (first : Bool) : List UInt8 → Option (XStep × List UInt8)
  | [] => none
  | c :: r => if c.toNat = 91 then brL r else if first = true then fdL (c :: r) else if c.toNat = 46 then fdL r else none
def parA : Nat → List XStep → List UInt8 → Option (List XStep)
  | _, acc, [] => some acc
  | 0, _, _ :: _ => none
  | n + 1, acc, c :: r => match stL acc.isEmpty (c :: r) with
    | none => none
    | some p => parA n (acc ++ [p.1]) p.2
theorem stL_c (b : Bool) (c : UInt8) (r : List UInt8) : stL b (c :: r) = if c.toNat = 91 then brL r else if b = true then fdL (c :: r) else if c.toNat = 46 then fdL r else none := rfl
theorem parA_c (n : Nat) (acc : List XStep) (c : UInt8) (r : List UInt8) : parA (n + 1) acc (c :: r) = match stL acc.isEmpty (c :: r) with
    | none => none
    | some p => parA n (acc ++ [p.1]) p.2 := rfl
theorem parA_nil (n : Nat) (acc : List XStep) : parA n acc [] = some acc := by cases n <;> rfl
theorem fdL_ok {u r : List UInt8} {x : XStep} (hl : u.length ≤ 140737488351232) (h : fdL u = some (x, r)) : r.length < u.length ∧ okXStep x := by
  unfold fdL at h
  split at h
  · cases h
  · rename_i h0
    have := nmL_le u
    injection h with h; injection h with h1 h2; subst h1; subst h2
    refine ⟨by rw [List.length_drop]; omega, okI (by show (-1000 : Int) ≤ 1; omega) (by show (1 : Int) ≤ 1000; omega), ?_, okI (by show (-1000 : Int) ≤ 0; omega) (by show (0 : Int) ≤ 1000; omega), Nat.zero_le _⟩
    show (u.take (nmL u)).length ≤ _
    rw [List.length_take]; omega
theorem stL_ok {t r : List UInt8} {b : Bool} {x : XStep} (hl : t.length ≤ 140737488351232) (h : stL b t = some (x, r)) : r.length < t.length ∧ okXStep x := by
  cases t with
  | nil => cases h
  | cons c t =>
    rw [List.length_cons] at hl
    rw [stL_c] at h
    split at h
    · have := brL_ok (by omega) h; exact ⟨by rw [List.length_cons]; omega, this.2⟩
    · split at h
      · exact fdL_ok (by rw [List.length_cons]; omega) h
      · split at h
        · have := fdL_ok (by omega) h; exact ⟨by rw [List.length_cons]; omega, this.2⟩
        · cases h
theorem parA_fuel (n : Nat) : ∀ (m : Nat) (acc : List XStep) (t : List UInt8), t.length ≤ 140737488351232 → t.length ≤ n → t.length ≤ m → parA n acc t = parA m acc t := by
  induction n with
  | zero =>
    intro m acc t hl hn hm
    obtain rfl : t = [] := List.eq_nil_of_length_eq_zero (by omega)
    cases m <;> rfl
  | succ n ih =>
    intro m acc t hl hn hm
    cases t with
    | nil => cases m <;> rfl
    | cons c r =>
      cases m with
      | zero => rw [List.length_cons] at hm; omega
      | succ m =>
        rw [parA_c, parA_c]
        cases h : stL acc.isEmpty (c :: r) with
        | none => rfl
        | some p =>
          have h1 := (stL_ok (x := p.1) (r := p.2) hl h).1
          simp only [List.length_cons] at h1 hn hm hl
          exact ih m _ _ (by omega) (by omega) (by omega)
theorem par_some {acc : List XStep} {t r : List UInt8} {x : XStep} (hl : t.length ≤ 140737488351232) (h : stL acc.isEmpty t = some (x, r)) : parA t.length acc t = parA r.length (acc ++ [x]) r := by
  cases t with
  | nil => cases h
  | cons c t =>
    have h1 := (stL_ok hl h).1
    rw [List.length_cons] at h1 ⊢
    rw [parA_c, h]
    rw [List.length_cons] at hl
    exact parA_fuel t.length r.length (acc ++ [x]) r (by omega) (by omega) (Nat.le_refl _)
theorem par_none {acc : List XStep} {t : List UInt8} (hne : t ≠ []) (h : stL acc.isEmpty t = none) : parA t.length acc t = none := by
  cases t with
  | nil => exact absurd rfl hne
  | cons c t => rw [List.length_cons, parA_c, h]
def paL (s : List UInt8) : Option (List XStep) := parA s.length [] s
def paR (s : List UInt8) : AV := if 20000 < s.length then .tup [.lst [], .i .i64 4] else match paL s with
  | none => .tup [.lst [], .i .i64 2]
  | some l => if pathB l = true then .tup [.lst (l.map encXStep), .i .i64 0] else .tup [.lst [], .i .i64 1]
end Go.Proofs.YtmfhmlhaofpeiaaGreatDoor.Ev
/- Parse: the reference's and the program's. -/
namespace Go.Proofs.YtmfhmlhaofpeiaaGreatDoor.Ev
open Go Go.RowKit
set_option linter.unusedSimpArgs false
set_option linter.unusedVariables false
set_option maxRecDepth 100000

theorem agg_of {T : Tab} {t : Nat} (h : (T.ty t).map isAggT = some true) : ∃ d, T.ty t = some d ∧ isAggT d = true := by
  cases hq : T.ty t with
  | none => rw [hq] at h; cases h
  | some d => rw [hq] at h; exact ⟨d, rfl, by simpa using h⟩
theorem elX : El T0 encXStep 22 50 3 48 where
  ty := by kernel_rfl
  sz := by kernel_rfl
  bytes := by kernel_rfl
  zr := by kernel_rfl
  de := agg_of (by kernel_rfl)
  len := fun _ => rfl
  leaf := fun _ => rfl
  free := fun _ => rfl
  nrm := fun _ => rfl
  agg := fun _ => rfl
theorem small48 {n : Nat} (h : n ≤ 2000000) : smallN n 48 = true := by
  unfold smallN
  rw [Nat.ble_eq_true_of_le (by omega), Nat.ble_eq_true_of_le (by omega), Nat.ble_eq_true_of_le (by omega)]; rfl
abbrev OwnX (h : Tr AB) (n : Nat) (l : List XStep) (o : Option Nat) : Prop := OwnA 50 h n (l.map encXStep) o
theorem appX {h : Tr AB} {n : Nat} {l : List XStep} {o : Option Nat} (x : XStep) (ho : OwnX h n l o) (hs : l.length + 1 ≤ 2000000) :
    evAppend T0 ⟨h, n⟩ 22 22 (vOf o l.length) (.lst [encXStep x]) = some (vOf (some n) (l ++ [x]).length, ⟨(killO h o).put n (some (.cells (flatA ((l ++ [x]).map encXStep)) 50 true)), n + 1⟩) := by
  have := appA (xs := [encXStep x]) elX.rowT ho (RowE.mapE elX l) (RowE.mapE elX [x]) (by simp) (small48 (by rw [List.length_map]; simp only [List.length_cons, List.length_nil]; omega))
  rw [List.length_map] at this
  rw [this, List.map_append, List.length_append]; rfl
theorem appX_own {h : Tr AB} {n : Nat} {l : List XStep} {o : Option Nat} (x : XStep) : OwnX ((killO h o).put n (some (.cells (flatA ((l ++ [x]).map encXStep)) 50 true))) (n + 1) (l ++ [x]) (some n) :=
  ⟨by simp, Nat.lt_succ_self n, by rw [Tr.get_put, if_pos rfl]⟩
theorem ice22 (x : XStep) : evIce T0 22 1 [(0, encXStep x)] = some (.lst [encXStep x]) := by kernel_rfl
theorem lenX {h : Tr AB} {n : Nat} {l : List XStep} {o : Option Nat} (ho : OwnX h n l o) : evBuiltin T0 h .len [22] [vOf o l.length] = some (.i .i64 (l.length : Nat)) := by
  have := len_ownA elX.ty ho
  rwa [List.length_map] at this
theorem own_call {f : Nat} {r : AV} {σ : AS} {l : List XStep} {o : Option Nat} (ho : OwnX σ.h σ.n l o) (p1 : T0.prim f = none) (p2 : T0.ext f = none) (p3 : T0.opened f = false) (hfl : r.flat = true) (hR : R T0 f [.lst (l.map encXStep)] r) : Runs T0 f [vOf o l.length] σ r σ := by
  have h1 := RowE.mapE elX l
  have hf : AV.idfree.idfrees [AV.lst (l.map encXStep)] = true := by rfl
  have hn : AV.norm.norms [AV.lst (l.map encXStep)] = [.lst (l.map encXStep)] := by rfl
  cases o with
  | none =>
    have he : l.map encXStep = [] := ho
    rw [he] at hR
    exact (R.nrm (args := [.nilz true]) (args' := [.lst []]) p1 p2 p3 rfl rfl rfl hR).runs σ
  | some id =>
    have hz := fz_ownA elX.rowT h1 ho 0
    rw [List.length_map] at hz
    exact R.lent (m := 3) p1 p2 p3 rfl hf hn hfl (mapO_cons hz rfl) hR
theorem oz_own2 {σ : AS} {l : List XStep} {o : Option Nat} {k : Int} {K : AV → Prop} (ho : OwnX σ.h σ.n l o) (hK : K (.tup [.lst (l.map encXStep), .i .i64 k])) : oZ T0 σ (.tup [vOf o l.length, .i .i64 k]) K := by
  have := oZ_ownA2 (x := .i .i64 k) elX.rowT (RowE.mapE elX l) ho rfl hK
  rwa [List.length_map] at this
theorem ozn {σ : AS} {k : Int} {K : AV → Prop} : oZ T0 σ (.tup [.nilz true, .i .i64 k]) K = K (.tup [.lst [], .i .i64 k]) := oZ_free rfl
theorem st50n {h : Tr AB} {id : Nat} {y : XStep} (x : XStep) : evStore T0 (h.put id (some (.cells (encXStep y).cells 50 false))) 50 (.ptr id 0) (encXStep x) = some ((h.put id (some (.cells (encXStep y).cells 50 false))).put id (some (.cells (encXStep x).cells 50 false))) := store_all sz_50 rfl rfl rfl
theorem cg4 {x : XStep} {i : Int} {b : Bool} : 4 ≤ (encG x i b).cells.length := by show 4 ≤ 6; omega
theorem cg5 {x : XStep} {i : Int} {b : Bool} : 5 ≤ (encG x i b).cells.length := by show 5 ≤ 6; omega
theorem paR_none {s : List UInt8} (hl : s.length ≤ 20000) (h : paL s = none) : paR s = .tup [.lst [], .i .i64 2] := by unfold paR; rw [if_neg (by omega), h]
theorem paR_some {s : List UInt8} {l : List XStep} (hl : s.length ≤ 20000) (h : paL s = some l) : paR s = if pathB l = true then .tup [.lst (l.map encXStep), .i .i64 0] else .tup [.lst [], .i .i64 1] := by unfold paR; rw [if_neg (by omega), h]
theorem isE (l : List XStep) (i : Nat) (h : l = [] ↔ i = 0) : l.isEmpty = decide (i = 0) := by
  cases l with
  | nil => rw [decide_eq_true (h.1 rfl)]; rfl
  | cons a l => rw [decide_eq_false (fun q => by cases h.2 q)]; rfl
theorem slP {s : List UInt8} {h : Tr AB} {k : Nat} (hk : k ≤ s.length) : evSliceH T0 h 9 (.s s) none (some (.i .i64 (k : Nat))) none = some (.s (s.take k)) := by
  have b1 : bnd0 s.length s.length (some (.i .i64 (k : Nat))) = some k := by
    simp only [bnd0, bnd]; rw [if_pos ⟨by omega, by omega⟩]; simp
  have b2 : bnd0 k 0 none = some 0 := rfl
  have b : bounds3 s.length (some s.length) none (some (.i .i64 (k : Nat))) none = some (0, k, some s.length) := by
    simp only [bounds3, Option.getD_some, b1, b2]
  refine slH_of ?_
  unfold evSlice
  simp only [ty9, b, List.drop_zero, Nat.sub_zero]
/-- The end of a round of Parse. -/
theorem par_next {s : List UInt8} {acc : List XStep} {x : XStep} {t r : List UInt8} (hl : t.length ≤ 140737488351232) (hs : stL acc.isEmpty t = some (x, r)) (hp : parA t.length acc t = paL s) (hok : ∀ y ∈ acc, okXStep y) (hb : acc.length + t.length ≤ s.length) :
    r.length < t.length ∧ (∀ y ∈ acc ++ [x], okXStep y) ∧ parA r.length (acc ++ [x]) r = paL s ∧ (acc ++ [x]).length + r.length ≤ s.length := by
  have h1 := stL_ok hl hs
  refine ⟨h1.1, fun y hy => ?_, by rw [← par_some hl hs]; exact hp, by rw [List.length_append]; simp only [List.length_cons, List.length_nil]; omega⟩
  rcases List.mem_append.1 hy with hy | hy
  · exact hok y hy
  · rw [List.mem_singleton.1 hy]; exact h1.2
theorem is1 (l : List XStep) : decide ((0 : Int) < (l.length : Nat)) = !l.isEmpty := by
  cases l with
  | nil => rfl
  | cons a l => rw [decide_eq_true (by rw [List.length_cons]; omega)]; rfl
theorem c17 (s : List UInt8) (hl : s.length ≤ 50000) : R T0 17 [.s s] (paR s) := by
  refine r17 _ rfl rfl ?_
  unfold w17
  dsimp only [prims]
  by_cases hL : 20000 < s.length
  · rw [show paR s = .tup [.lst [], .i .i64 4] from if_pos hL]
    simp (disch := first | first | omega | assumption | exact scell | exact clen_XStep | (simp only [clen_XStep]; omega) | exact cg4 | exact cg5 | (simp only [List.length_append, List.length_cons, List.length_nil]; omega)) only [Nat.zero_add, oV_some', oN_eq, oM_some, oH_some, oD_some, oE_some, oS_eq, oT_true, oI_true, oI_false, pick_t, pick_f, un_not, oI_not, decide_not, toNat_sub1, toNat_add1, decide_true, decide_false, not_true, not_false_eq_true, Bool.not_true, Bool.not_false, Bool.not_not, oZ_b, oZ_i, oZ_s, oZ_l, slen_map, wr64, Int.toNat_natCast, Int.toNat_zero, ne_eq, bin_gt, b_sgt, bin_eq, b_snil, beq_4, bin_ne, b_snnil, bne_4, load_get, loadB_some, get_put_same, get_put_ne, ofc_s, load_i, ext_t, List.getElem?_cons_zero, List.getElem?_cons_succ, len_9, idx_9, ofc_encXStep, ofc0_encXStep, st_XStep, fld_XStep_kind_, fld_XStep_name_, fld_XStep_index_, fld_XStep_value_, prt_XStep_kind_, prt_XStep_name_, prt_XStep_index_, prt_XStep_value_, len_22, join2_eq, decT, ozn]
  · simp (disch := first | first | omega | assumption | exact scell | exact clen_XStep | (simp only [clen_XStep]; omega) | exact cg4 | exact cg5 | (simp only [List.length_append, List.length_cons, List.length_nil]; omega)) only [len_9, oV_some', bin_gt, decF, oI_false]
    refine loop2 (X := List XStep × List UInt8 × Option Nat) (fun x => vOf x.2.2 x.1.length) (fun x => .s x.2.1) (fun x σ => x.1.length + x.2.1.length ≤ s.length ∧ (∀ y ∈ x.1, okXStep y) ∧ OwnX σ.h σ.n x.1 x.2.2 ∧ parA x.2.1.length x.1 x.2.1 = paL s) (fun x => x.2.1.length) ?_ ([], s, none) _
      ⟨by simp, fun y hy => (by cases hy), rfl, rfl⟩
    rintro R ⟨acc, t, o⟩ ⟨h, n⟩ ⟨ha, hok, ho, hp⟩ hR
    dsimp only at ha hok ho hp hR ⊢
    have nz : ∀ c (l : List UInt8), decide (¬ (c :: l : List UInt8).length = 0) = true := fun c l => by rw [List.length_cons]; rfl
    cases t with
    | nil =>
      rw [List.length_nil] at ha
      rw [parA_nil] at hp
      have hpr := paR_some (by omega) hp.symm
      have hal : acc.length ≤ 140737488351232 := by omega
      have r13 := own_call (σ := ⟨h, n⟩) ho (by kernel_rfl) (by kernel_rfl) (by kernel_rfl) rfl (c13 acc hal hok)
      rw [hpr]
      cases hb : pathB acc
      · rw [hb] at r13
        simp (disch := first | first | omega | assumption | exact scell | exact clen_XStep | (simp only [clen_XStep]; omega) | exact cg4 | exact cg5 | (simp only [List.length_append, List.length_cons, List.length_nil]; omega)) only [Nat.zero_add, oV_some', oN_eq, oM_some, oH_some, oD_some, oE_some, oS_eq, oT_true, oI_true, oI_false, pick_t, pick_f, un_not, oI_not, decide_not, toNat_sub1, toNat_add1, decide_true, decide_false, not_true, not_false_eq_true, Bool.not_true, Bool.not_false, Bool.not_not, oZ_b, oZ_i, oZ_s, oZ_l, slen_map, wr64, Int.toNat_natCast, Int.toNat_zero, ne_eq, bin_gt, b_sgt, bin_eq, b_snil, beq_4, bin_ne, b_snnil, bne_4, load_get, loadB_some, get_put_same, get_put_ne, ofc_s, load_i, ext_t, List.getElem?_cons_zero, List.getElem?_cons_succ, len_9, idx_9, ofc_encXStep, ofc0_encXStep, st_XStep, fld_XStep_kind_, fld_XStep_name_, fld_XStep_index_, fld_XStep_value_, prt_XStep_kind_, prt_XStep_name_, prt_XStep_index_, prt_XStep_value_, len_22, join2_eq, nl0, r13.eq, ozn, Bool.false_eq_true, if_false]
      · rw [hb] at r13
        simp (disch := first | first | omega | assumption | exact scell | exact clen_XStep | (simp only [clen_XStep]; omega) | exact cg4 | exact cg5 | (simp only [List.length_append, List.length_cons, List.length_nil]; omega)) only [Nat.zero_add, oV_some', oN_eq, oM_some, oH_some, oD_some, oE_some, oS_eq, oT_true, oI_true, oI_false, pick_t, pick_f, un_not, oI_not, decide_not, toNat_sub1, toNat_add1, decide_true, decide_false, not_true, not_false_eq_true, Bool.not_true, Bool.not_false, Bool.not_not, oZ_b, oZ_i, oZ_s, oZ_l, slen_map, wr64, Int.toNat_natCast, Int.toNat_zero, ne_eq, bin_gt, b_sgt, bin_eq, b_snil, beq_4, bin_ne, b_snnil, bne_4, load_get, loadB_some, get_put_same, get_put_ne, ofc_s, load_i, ext_t, List.getElem?_cons_zero, List.getElem?_cons_succ, len_9, idx_9, ofc_encXStep, ofc0_encXStep, st_XStep, fld_XStep_kind_, fld_XStep_name_, fld_XStep_index_, fld_XStep_value_, prt_XStep_kind_, prt_XStep_name_, prt_XStep_index_, prt_XStep_value_, len_22, join2_eq, nl0, r13.eq, if_true]
        exact oz_own2 (σ := ⟨h, n⟩) ho rfl
    | cons c t =>
      have hlt : (c :: t).length ≤ 140737488351232 := by omega
      have lc : (c :: t).length = t.length + 1 := List.length_cons
      by_cases h1 : c.toNat = 91
      · have hst : stL acc.isEmpty (c :: t) = brL t := by rw [stL_c, if_pos h1]
        obtain ⟨x, r, b, hb, hr⟩ := c38 c t (by omega)
        cases hs : brL t with
        | none =>
          rw [hs] at hb
          obtain rfl : b = false := hb
          rw [par_none (by simp) (hst.trans hs)] at hp
          rw [paR_none (by omega) hp.symm]
          simp (disch := first | first | omega | assumption | exact scell | exact clen_XStep | (simp only [clen_XStep]; omega) | exact cg4 | exact cg5 | (simp only [List.length_append, List.length_cons, List.length_nil]; omega)) only [Nat.zero_add, oV_some', oN_eq, oM_some, oH_some, oD_some, oE_some, oS_eq, oT_true, oI_true, oI_false, pick_t, pick_f, un_not, oI_not, decide_not, toNat_sub1, toNat_add1, decide_true, decide_false, not_true, not_false_eq_true, Bool.not_true, Bool.not_false, Bool.not_not, oZ_b, oZ_i, oZ_s, oZ_l, slen_map, wr64, Int.toNat_natCast, Int.toNat_zero, ne_eq, bin_gt, b_sgt, bin_eq, b_snil, beq_4, bin_ne, b_snnil, bne_4, load_get, loadB_some, get_put_same, get_put_ne, ofc_s, load_i, ext_t, List.getElem?_cons_zero, List.getElem?_cons_succ, len_9, idx_9, ofc_encXStep, ofc0_encXStep, st_XStep, fld_XStep_kind_, fld_XStep_name_, fld_XStep_index_, fld_XStep_value_, prt_XStep_kind_, prt_XStep_name_, prt_XStep_index_, prt_XStep_value_, len_22, join2_eq, cl0, gd0, decT, hr.eq, ex0, ex1, ex2, enc_x0, st50n, ozn]
        | some p =>
          obtain ⟨y, r'⟩ := p
          rw [hs] at hb
          obtain ⟨rfl, rfl, rfl⟩ := hb
          obtain ⟨g1, g2, g3, g4⟩ := par_next hlt (hst.trans hs) hp hok ha
          have hR' := hR (acc ++ [x], r, some (n + 1))
          dsimp only at hR'
          simp (disch := first | first | omega | assumption | exact scell | exact clen_XStep | (simp only [clen_XStep]; omega) | exact cg4 | exact cg5 | (simp only [List.length_append, List.length_cons, List.length_nil]; omega)) only [Nat.zero_add, oV_some', oN_eq, oM_some, oH_some, oD_some, oE_some, oS_eq, oT_true, oI_true, oI_false, pick_t, pick_f, un_not, oI_not, decide_not, toNat_sub1, toNat_add1, decide_true, decide_false, not_true, not_false_eq_true, Bool.not_true, Bool.not_false, Bool.not_not, oZ_b, oZ_i, oZ_s, oZ_l, slen_map, wr64, Int.toNat_natCast, Int.toNat_zero, ne_eq, bin_gt, b_sgt, bin_eq, b_snil, beq_4, bin_ne, b_snnil, bne_4, load_get, loadB_some, get_put_same, get_put_ne, ofc_s, load_i, ext_t, List.getElem?_cons_zero, List.getElem?_cons_succ, len_9, idx_9, ofc_encXStep, ofc0_encXStep, st_XStep, fld_XStep_kind_, fld_XStep_name_, fld_XStep_index_, fld_XStep_value_, prt_XStep_kind_, prt_XStep_name_, prt_XStep_index_, prt_XStep_value_, len_22, join2_eq, cl0, gd0, decT, hr.eq, ex0, ex1, ex2, enc_x0, st50n, ice22]
          rw [appX x (ho.same (fun k hk hlt => by simp (disch := omega) only [get_put_ne]) (Nat.le_succ n)) (by omega), oM_some]
          exact hR' ⟨_, _⟩ ⟨g4, g2, appX_own x, g3⟩ g1
      · by_cases ha0 : acc = []
        · have hst : stL acc.isEmpty (c :: t) = fdL (c :: t) := by rw [stL_c, if_neg h1, ha0]; rfl
          have dl : decide ((0 : Int) < (acc.length : Nat)) = false := by rw [is1, ha0]; rfl
          have hu := nmL_le (c :: t)
          have e39' := fun (d : Nat) (σ : AS) (K : AV → AS → Prop) => e39 (s := c :: t) (by omega) (d := d) (σ := σ) (K := K)
          by_cases hk : nmL (c :: t) = 0
          · have hf : fdL (c :: t) = none := by unfold fdL; rw [if_pos hk]
            rw [par_none (by simp) (hst.trans hf)] at hp
            rw [paR_none (by omega) hp.symm]
            simp (disch := first | first | omega | assumption | exact scell | exact clen_XStep | (simp only [clen_XStep]; omega) | exact cg4 | exact cg5 | (simp only [List.length_append, List.length_cons, List.length_nil]; omega)) only [Nat.zero_add, oV_some', oN_eq, oM_some, oH_some, oD_some, oE_some, oS_eq, oT_true, oI_true, oI_false, pick_t, pick_f, un_not, oI_not, decide_not, toNat_sub1, toNat_add1, decide_true, decide_false, not_true, not_false_eq_true, Bool.not_true, Bool.not_false, Bool.not_not, oZ_b, oZ_i, oZ_s, oZ_l, slen_map, wr64, Int.toNat_natCast, Int.toNat_zero, ne_eq, bin_gt, b_sgt, bin_eq, b_snil, beq_4, bin_ne, b_snnil, bne_4, load_get, loadB_some, get_put_same, get_put_ne, ofc_s, load_i, ext_t, List.getElem?_cons_zero, List.getElem?_cons_succ, len_9, idx_9, ofc_encXStep, ofc0_encXStep, st_XStep, fld_XStep_kind_, fld_XStep_name_, fld_XStep_index_, fld_XStep_value_, prt_XStep_kind_, prt_XStep_name_, prt_XStep_index_, prt_XStep_value_, len_22, join2_eq, cl0, gd0, decT, decF, lenX ho, dl, sl_c, e39', ozn]
          · have hf : fdL (c :: t) = some (⟨1, (c :: t).take (nmL (c :: t)), 0, []⟩, (c :: t).drop (nmL (c :: t))) := by unfold fdL; rw [if_neg hk]
            obtain ⟨g1, g2, g3, g4⟩ := par_next hlt (hst.trans hf) hp hok ha
            have hR' := hR (acc ++ [⟨1, (c :: t).take (nmL (c :: t)), 0, []⟩], (c :: t).drop (nmL (c :: t)), some n)
            dsimp only at hR'
            simp (disch := first | first | omega | assumption | exact scell | exact clen_XStep | (simp only [clen_XStep]; omega) | exact cg4 | exact cg5 | (simp only [List.length_append, List.length_cons, List.length_nil]; omega)) only [Nat.zero_add, oV_some', oN_eq, oM_some, oH_some, oD_some, oE_some, oS_eq, oT_true, oI_true, oI_false, pick_t, pick_f, un_not, oI_not, decide_not, toNat_sub1, toNat_add1, decide_true, decide_false, not_true, not_false_eq_true, Bool.not_true, Bool.not_false, Bool.not_not, oZ_b, oZ_i, oZ_s, oZ_l, slen_map, wr64, Int.toNat_natCast, Int.toNat_zero, ne_eq, bin_gt, b_sgt, bin_eq, b_snil, beq_4, bin_ne, b_snnil, bne_4, load_get, loadB_some, get_put_same, get_put_ne, ofc_s, load_i, ext_t, List.getElem?_cons_zero, List.getElem?_cons_succ, len_9, idx_9, ofc_encXStep, ofc0_encXStep, st_XStep, fld_XStep_kind_, fld_XStep_name_, fld_XStep_index_, fld_XStep_value_, prt_XStep_kind_, prt_XStep_name_, prt_XStep_index_, prt_XStep_value_, len_22, join2_eq, cl0, gd0, decT, decF, lenX ho, dl, sl_c, e39', pl_s, pl_i, pl_o, pl_n, slE, slP, bld_50f, ice22]
            rw [appX _ ho (by omega), oM_some]
            exact hR' ⟨_, _⟩ ⟨g4, g2, appX_own _, g3⟩ g1
        · have hae : acc.isEmpty = false := by cases acc with | nil => exact absurd rfl ha0 | cons a l => rfl
          have dl : decide ((0 : Int) < (acc.length : Nat)) = true := by rw [is1, hae]; rfl
          by_cases h2 : c.toNat = 46
          · have hst : stL acc.isEmpty (c :: t) = fdL t := by rw [stL_c, if_neg h1, hae, if_neg Bool.false_ne_true, if_pos h2]
            have hu := nmL_le (t)
            have e39' := fun (d : Nat) (σ : AS) (K : AV → AS → Prop) => e39 (s := t) (by omega) (d := d) (σ := σ) (K := K)
            by_cases hk : nmL (t) = 0
            · have hf : fdL (t) = none := by unfold fdL; rw [if_pos hk]
              rw [par_none (by simp) (hst.trans hf)] at hp
              rw [paR_none (by omega) hp.symm]
              simp (disch := first | first | omega | assumption | exact scell | exact clen_XStep | (simp only [clen_XStep]; omega) | exact cg4 | exact cg5 | (simp only [List.length_append, List.length_cons, List.length_nil]; omega)) only [Nat.zero_add, oV_some', oN_eq, oM_some, oH_some, oD_some, oE_some, oS_eq, oT_true, oI_true, oI_false, pick_t, pick_f, un_not, oI_not, decide_not, toNat_sub1, toNat_add1, decide_true, decide_false, not_true, not_false_eq_true, Bool.not_true, Bool.not_false, Bool.not_not, oZ_b, oZ_i, oZ_s, oZ_l, slen_map, wr64, Int.toNat_natCast, Int.toNat_zero, ne_eq, bin_gt, b_sgt, bin_eq, b_snil, beq_4, bin_ne, b_snnil, bne_4, load_get, loadB_some, get_put_same, get_put_ne, ofc_s, load_i, ext_t, List.getElem?_cons_zero, List.getElem?_cons_succ, len_9, idx_9, ofc_encXStep, ofc0_encXStep, st_XStep, fld_XStep_kind_, fld_XStep_name_, fld_XStep_index_, fld_XStep_value_, prt_XStep_kind_, prt_XStep_name_, prt_XStep_index_, prt_XStep_value_, len_22, join2_eq, cl0, gd0, decT, decF, lenX ho, dl, sl_c, e39', ozn]
            · have hf : fdL (t) = some (⟨1, (t).take (nmL (t)), 0, []⟩, (t).drop (nmL (t))) := by unfold fdL; rw [if_neg hk]
              obtain ⟨g1, g2, g3, g4⟩ := par_next hlt (hst.trans hf) hp hok ha
              have hR' := hR (acc ++ [⟨1, (t).take (nmL (t)), 0, []⟩], (t).drop (nmL (t)), some n)
              dsimp only at hR'
              simp (disch := first | first | omega | assumption | exact scell | exact clen_XStep | (simp only [clen_XStep]; omega) | exact cg4 | exact cg5 | (simp only [List.length_append, List.length_cons, List.length_nil]; omega)) only [Nat.zero_add, oV_some', oN_eq, oM_some, oH_some, oD_some, oE_some, oS_eq, oT_true, oI_true, oI_false, pick_t, pick_f, un_not, oI_not, decide_not, toNat_sub1, toNat_add1, decide_true, decide_false, not_true, not_false_eq_true, Bool.not_true, Bool.not_false, Bool.not_not, oZ_b, oZ_i, oZ_s, oZ_l, slen_map, wr64, Int.toNat_natCast, Int.toNat_zero, ne_eq, bin_gt, b_sgt, bin_eq, b_snil, beq_4, bin_ne, b_snnil, bne_4, load_get, loadB_some, get_put_same, get_put_ne, ofc_s, load_i, ext_t, List.getElem?_cons_zero, List.getElem?_cons_succ, len_9, idx_9, ofc_encXStep, ofc0_encXStep, st_XStep, fld_XStep_kind_, fld_XStep_name_, fld_XStep_index_, fld_XStep_value_, prt_XStep_kind_, prt_XStep_name_, prt_XStep_index_, prt_XStep_value_, len_22, join2_eq, cl0, gd0, decT, decF, lenX ho, dl, sl_c, e39', pl_s, pl_i, pl_o, pl_n, slE, slP, bld_50f, ice22]
              rw [appX _ ho (by omega), oM_some]
              exact hR' ⟨_, _⟩ ⟨g4, g2, appX_own _, g3⟩ g1
          · have hst : stL acc.isEmpty (c :: t) = none := by rw [stL_c, if_neg h1, hae, if_neg Bool.false_ne_true, if_neg h2]
            rw [par_none (by simp) hst] at hp
            rw [paR_none (by omega) hp.symm]
            simp (disch := first | first | omega | assumption | exact scell | exact clen_XStep | (simp only [clen_XStep]; omega) | exact cg4 | exact cg5 | (simp only [List.length_append, List.length_cons, List.length_nil]; omega)) only [Nat.zero_add, oV_some', oN_eq, oM_some, oH_some, oD_some, oE_some, oS_eq, oT_true, oI_true, oI_false, pick_t, pick_f, un_not, oI_not, decide_not, toNat_sub1, toNat_add1, decide_true, decide_false, not_true, not_false_eq_true, Bool.not_true, Bool.not_false, Bool.not_not, oZ_b, oZ_i, oZ_s, oZ_l, slen_map, wr64, Int.toNat_natCast, Int.toNat_zero, ne_eq, bin_gt, b_sgt, bin_eq, b_snil, beq_4, bin_ne, b_snnil, bne_4, load_get, loadB_some, get_put_same, get_put_ne, ofc_s, load_i, ext_t, List.getElem?_cons_zero, List.getElem?_cons_succ, len_9, idx_9, ofc_encXStep, ofc0_encXStep, st_XStep, fld_XStep_kind_, fld_XStep_name_, fld_XStep_index_, fld_XStep_value_, prt_XStep_kind_, prt_XStep_name_, prt_XStep_index_, prt_XStep_value_, len_22, join2_eq, cl0, gd0, decT, decF, lenX ho, dl, ozn]
theorem e17 {s : List UInt8} (hl : s.length ≤ 50000) {d : Nat} {σ : AS} {K : AV → AS → Prop} : oC T0 d 17 [.s s] σ K = K (paR s) σ := (c17 s hl).eq d σ K
end Go.Proofs.YtmfhmlhaofpeiaaGreatDoor.Ev
/- Same; the law PathParses. -/
namespace Go.Proofs.YtmfhmlhaofpeiaaGreatDoor.Ev
open Go Go.RowKit
set_option linter.unusedSimpArgs false
set_option linter.unusedVariables false
set_option maxRecDepth 100000

theorem c19 (p q : List XStep) (hp : p.length ≤ 140737488351232) (hq : q.length ≤ 140737488351232) : R T0 19 [.lst (p.map encXStep), .lst (q.map encXStep)] (.b (decide (p = q))) := by
  refine r19 _ _ rfl rfl ?_
  unfold w19
  dsimp only [prims]
  by_cases hl : p.length = q.length
  · have e : hpB p q = decide (p = q) := by
      unfold hpB
      rw [decide_eq_true (by omega), Bool.true_and, ← hl, List.take_length]
    simp (disch := first | first | omega | assumption | exact scell | exact clen_XStep | (simp only [clen_XStep]; omega) | (simp only [List.length_append, List.length_cons, List.length_nil]; omega)) only [Nat.zero_add, oV_some', oN_eq, oM_some, oH_some, oD_some, oE_some, oS_eq, oT_true, oI_true, oI_false, pick_t, pick_f, un_not, oI_not, decide_not, toNat_sub1, toNat_add1, decide_true, decide_false, not_true, not_false_eq_true, Bool.not_true, Bool.not_false, Bool.not_not, oZ_b, oZ_i, oZ_s, oZ_l, slen_map, wr64, Int.toNat_natCast, Int.toNat_zero, ne_eq, bin_eq, b_snil, beq_4, ofc_encXStep, ofc0_encXStep, st_XStep, fld_XStep_kind_, fld_XStep_name_, fld_XStep_index_, fld_XStep_value_, prt_XStep_kind_, prt_XStep_name_, prt_XStep_index_, prt_XStep_value_, len_22, gtt_3, gff_3, gtf_3, gft_3, gvv_3, gnt_3, gnf_3, slen_map, decT, decF, e16 hp hq, e]
  · simp (disch := first | first | omega | assumption | exact scell | exact clen_XStep | (simp only [clen_XStep]; omega) | (simp only [List.length_append, List.length_cons, List.length_nil]; omega)) only [Nat.zero_add, oV_some', oN_eq, oM_some, oH_some, oD_some, oE_some, oS_eq, oT_true, oI_true, oI_false, pick_t, pick_f, un_not, oI_not, decide_not, toNat_sub1, toNat_add1, decide_true, decide_false, not_true, not_false_eq_true, Bool.not_true, Bool.not_false, Bool.not_not, oZ_b, oZ_i, oZ_s, oZ_l, slen_map, wr64, Int.toNat_natCast, Int.toNat_zero, ne_eq, bin_eq, b_snil, beq_4, ofc_encXStep, ofc0_encXStep, st_XStep, fld_XStep_kind_, fld_XStep_name_, fld_XStep_index_, fld_XStep_value_, prt_XStep_kind_, prt_XStep_name_, prt_XStep_index_, prt_XStep_value_, len_22, gtt_3, gff_3, gtf_3, gft_3, gvv_3, gnt_3, gnf_3, slen_map, decT, decF]
    rw [decide_eq_false (fun q => hl (by rw [q]))]
theorem e19 {p q : List XStep} (hp : p.length ≤ 140737488351232) (hq : q.length ≤ 140737488351232) {d : Nat} {σ : AS} {K : AV → AS → Prop} : oC T0 d 19 [.lst (p.map encXStep), .lst (q.map encXStep)] σ K = K (.b (decide (p = q))) σ := (c19 p q hp hq).eq d σ K
theorem parA_len (n : Nat) : ∀ (acc : List XStep) (t : List UInt8) (l : List XStep), t.length ≤ 140737488351232 → (∀ y ∈ acc, okXStep y) → parA n acc t = some l → l.length ≤ acc.length + t.length ∧ (∀ y ∈ l, okXStep y) := by
  induction n with
  | zero =>
    intro acc t l hl ha h
    cases t with
    | nil => rw [parA_nil] at h; injection h with h; subst h; exact ⟨by omega, ha⟩
    | cons c t => cases h
  | succ n ih =>
    intro acc t l hl ha h
    cases t with
    | nil => rw [parA_nil] at h; injection h with h; subst h; exact ⟨by omega, ha⟩
    | cons c t =>
      rw [parA_c] at h
      cases hs : stL acc.isEmpty (c :: t) with
      | none => rw [hs] at h; cases h
      | some p =>
        rw [hs] at h
        have h1 := stL_ok (x := p.1) (r := p.2) hl hs
        have := ih _ _ _ (by omega) (fun y hy => by
          rcases List.mem_append.1 hy with hy | hy
          · exact ha y hy
          · rw [List.mem_singleton.1 hy]; exact h1.2) h
        rw [List.length_append] at this
        simp only [List.length_cons, List.length_nil] at this ⊢
        simp only [List.length_cons] at h1
        exact ⟨by omega, this.2⟩
theorem paL_ok {s : List UInt8} {l : List XStep} (hs : s.length ≤ 140737488351232) (h : paL s = some l) : l.length ≤ s.length ∧ (∀ y ∈ l, okXStep y) := by
  have := parA_len s.length [] s l hs (fun y hy => by cases hy) h
  simpa using this
end Go.Proofs.YtmfhmlhaofpeiaaGreatDoor.Ev
/- Parse undoes Print; Print undoes Parse: the plain law. -/
namespace Go.Proofs.YtmfhmlhaofpeiaaGreatDoor.Ev
open Go Go.RowKit
set_option linter.unusedSimpArgs false
set_option linter.unusedVariables false
set_option maxRecDepth 100000

/-- The text of steps from the i-th on. -/
def txL : Nat → List XStep → List UInt8
  | _, [] => []
  | i, x :: l => stP i x ++ txL (i + 1) l
theorem txL_app : ∀ (l : List XStep) (i : Nat) (x : XStep), txL i (l ++ [x]) = txL i l ++ stP (i + l.length) x
  | [], i, x => by simp [txL]
  | y :: l, i, x => by
    rw [List.cons_append, txL, txL, txL_app l (i + 1) x, List.append_assoc, List.length_cons, show i + 1 + l.length = i + (l.length + 1) by omega]
theorem prT_tx (p : List XStep) : ∀ j, j ≤ p.length → prT p j = txL 0 (p.take j)
  | 0, _ => by rw [List.take_zero]; rfl
  | j + 1, h => by
    rw [prT, prT_tx p j (by omega), take_snoc (show j < p.length by omega), txL_app, List.length_take, Nat.zero_add, Nat.min_eq_left (by omega)]
theorem prT_all (p : List XStep) : prT p p.length = txL 0 p := by rw [prT_tx p _ (Nat.le_refl _), List.take_length]
/-- Where a name ends. -/
def stops (r : List UInt8) : Prop := ∀ c l, r = c :: l → nmC c = false
theorem nmL_app {nm r : List UInt8} (h : nm.all nmC = true) (hr : stops r) : nmL (nm ++ r) = nm.length := by
  unfold nmL
  induction nm with
  | nil =>
    cases r with
    | nil => rfl
    | cons c l => rw [List.nil_append, List.takeWhile_cons_of_neg (by rw [hr c l rfl]; exact Bool.false_ne_true)]
  | cons c nm ih =>
    simp only [List.all_cons, Bool.and_eq_true] at h
    rw [List.cons_append, List.takeWhile_cons_of_pos h.1, List.length_cons, ih h.2, List.length_cons]
theorem nm_all {s : List UInt8} (h : nmB s = true) : s.all nmC = true ∧ 0 < s.length := by
  unfold nmB at h
  simp only [Bool.and_eq_true, decide_eq_true_eq] at h
  exact ⟨h.1.1, h.1.2⟩
theorem take_left {a b : List UInt8} : (a ++ b).take a.length = a := List.take_left' rfl
theorem drop_left' {a b : List UInt8} : (a ++ b).drop a.length = b := List.drop_left' rfl
theorem nmC_no {c : UInt8} (h : c.toNat = 91 ∨ c.toNat = 46 ∨ c.toNat = 61 ∨ c.toNat = 93) : nmC c = false := decide_eq_false (by omega)
theorem dec_facts : ∀ n, n ≤ 64 → (dec n).all nmC = true ∧ canB (dec n) = true ∧ valD 0 (dec n) = n ∧ 0 < (dec n).length := by decide
theorem unq_app (v : List UInt8) : ∀ (acc r : List UInt8), (∀ c ∈ v, c.toNat = 10 ∨ (32 ≤ c.toNat ∧ c.toNat ≤ 126)) → unqL acc (v.flatMap quC ++ 34 :: r) = .ok (acc ++ v) r := by
  induction v with
  | nil =>
    intro acc r _
    rw [List.flatMap_nil, List.nil_append, List.append_nil, unqL.eq_def]
    simp only []; rw [if_pos (by decide)]
  | cons c v ih =>
    intro acc r hv
    have hc := hv c (List.mem_cons_self ..)
    have ih' := ih (acc ++ [c]) r (fun d hd => hv d (List.mem_cons_of_mem _ hd))
    rw [List.append_assoc, List.singleton_append] at ih'
    rw [List.flatMap_cons]
    by_cases h1 : c.toNat = 10
    · rw [show quC c = [92, 110] from if_pos h1]
      have e : c = 10 := UInt8.toNat_inj.1 h1
      subst e
      rw [show ([92, 110] : List UInt8) ++ v.flatMap quC ++ 34 :: r = 92 :: 110 :: (v.flatMap quC ++ 34 :: r) from rfl, unqL.eq_def]
      simp only []
      rw [if_neg (by decide), if_neg (by decide), if_neg (by decide)]
      rw [if_neg (by decide), if_pos (by decide)]
      exact ih'
    · by_cases h2 : c.toNat = 34 ∨ c.toNat = 92
      · rw [show quC c = [92, c] by unfold quC; rw [if_neg h1, if_pos h2], show [92, c] ++ v.flatMap quC ++ 34 :: r = 92 :: c :: (v.flatMap quC ++ 34 :: r) from rfl, unqL.eq_def]
        simp only []
        rw [if_neg (by decide), if_neg (by decide), if_neg (by decide), if_pos h2]
        exact ih'
      · rw [show quC c = [c] by unfold quC; rw [if_neg h1, if_neg h2], show [c] ++ v.flatMap quC ++ 34 :: r = c :: (v.flatMap quC ++ 34 :: r) from rfl, unqL.eq_def]
        simp only []
        rw [if_neg (by omega), if_neg (by omega), if_pos (by omega)]
        exact ih'
theorem unq_inv (n : Nat) : ∀ (acc t a r : List UInt8), t.length ≤ n → unqL acc t = .ok a r → ∃ v, a = acc ++ v ∧ t = v.flatMap quC ++ 34 :: r := by
  induction n with
  | zero =>
    intro acc t a r ht h
    obtain rfl : t = [] := List.eq_nil_of_length_eq_zero (by omega)
    rw [unqL] at h; cases h
  | succ n ih =>
    intro acc t a r ht h
    cases t with
    | nil => rw [unqL] at h; cases h
    | cons c t =>
      rw [List.length_cons] at ht
      rw [unqL.eq_def] at h
      simp only [] at h
      split at h
      · rename_i hc
        have e : c = 34 := UInt8.toNat_inj.1 hc
        injection h with h1 h2; subst h1; subst h2
        exact ⟨[], (List.append_nil _).symm, by rw [e]; rfl⟩
      · rename_i h34
        split at h
        · cases h
        · rename_i hrng
          split at h
          · rename_i h92
            obtain ⟨v, h1, h2⟩ := ih _ t a r (by omega) h
            refine ⟨c :: v, by rw [h1, List.append_assoc]; rfl, ?_⟩
            rw [List.flatMap_cons, show quC c = [c] by unfold quC; rw [if_neg (by omega), if_neg (by omega)]]
            rw [h2]; rfl
          · rename_i h92
            have e92 : c = 92 := UInt8.toNat_inj.1 (by show c.toNat = 92; omega)
            cases t with
            | nil => simp only [] at h; cases h
            | cons d t =>
              rw [List.length_cons] at ht
              simp only [] at h
              split at h
              · rename_i hd
                obtain ⟨v, h1, h2⟩ := ih _ t a r (by omega) h
                refine ⟨d :: v, by rw [h1, List.append_assoc]; rfl, ?_⟩
                rw [List.flatMap_cons, show quC d = [92, d] by unfold quC; rw [if_neg (by omega), if_pos hd]]
                rw [h2, e92]; rfl
              · split at h
                · rename_i hd
                  have e110 : d = 110 := UInt8.toNat_inj.1 hd
                  obtain ⟨v, h1, h2⟩ := ih _ t a r (by omega) h
                  refine ⟨10 :: v, by rw [h1, List.append_assoc]; rfl, ?_⟩
                  rw [List.flatMap_cons, show quC 10 = [92, 110] from rfl]
                  rw [h2, e92, e110]; rfl
                · cases h
theorem tx_stops (i : Nat) (hi : 0 < i) (l : List XStep) : stops (txL i l) := by
  intro c r h
  cases l with
  | nil => cases h
  | cons x l =>
    rw [txL] at h
    unfold stP at h
    split at h
    · injection h with h1 h2; exact nmC_no (.inl (by rw [← h1]; rfl))
    · split at h
      · injection h with h1 h2; exact nmC_no (.inl (by rw [← h1]; rfl))
      · rw [if_neg (by omega)] at h
        injection h with h1 h2; exact nmC_no (.inr (.inl (by rw [← h1]; rfl)))
theorem step_more {x : XStep} (h : stepB x = true) : (x.kind_ = 1 → nmB x.name_ = true ∧ x.index_ = 0 ∧ x.value_ = []) ∧ (x.kind_ = 2 → x.name_ = [] ∧ x.value_ = []) ∧ (x.kind_ = 3 → nmB x.name_ = true ∧ x.index_ = 0 ∧ txB x.value_ = true) := by
  unfold stepB at h
  split at h
  · rename_i k
    simp only [Bool.and_eq_true, decide_eq_true_eq] at h
    exact ⟨fun _ => ⟨h.1.1, h.1.2, List.length_eq_zero_iff.mp h.2⟩, fun q => by omega, fun q => by omega⟩
  · split at h
    · simp only [Bool.and_eq_true, decide_eq_true_eq] at h
      exact ⟨fun q => by omega, fun _ => ⟨List.length_eq_zero_iff.mp h.1.2, List.length_eq_zero_iff.mp h.2⟩, fun q => by omega⟩
    · split at h
      · simp only [Bool.and_eq_true, decide_eq_true_eq] at h
        exact ⟨fun q => by omega, fun q => by omega, fun _ => ⟨h.1.1, h.1.2, h.2⟩⟩
      · cases h
theorem tx_chars {s : List UInt8} (h : txB s = true) : ∀ c ∈ s, c.toNat = 10 ∨ (32 ≤ c.toNat ∧ c.toNat ≤ 126) := by
  intro c hc
  unfold txB at h
  simp only [Bool.and_eq_true, List.all_eq_true] at h
  have := h.1 c hc
  unfold textI at this
  have := of_decide_eq_true this
  omega
theorem fdL_app {nm r : List UInt8} (h : nmB nm = true) (hr : stops r) : fdL (nm ++ r) = some (⟨1, nm, 0, []⟩, r) := by
  obtain ⟨h1, h2⟩ := nm_all h
  unfold fdL
  rw [nmL_app h1 hr, if_neg (by omega), take_left, drop_left']
/-- One step is read back. -/
theorem st_app {x : XStep} {i : Nat} {r : List UInt8} (h : stepB x = true) (hr : stops r) : stL (decide (i = 0)) (stP i x ++ r) = some (x, r) := by
  obtain ⟨hk, -, -, -, hi⟩ := step_facts h
  obtain ⟨m1, m2, m3⟩ := step_more h
  obtain ⟨k, nm, ix, v⟩ := x
  dsimp only at hk hi m1 m2 m3
  rcases hk with rfl | rfl | rfl
  · obtain ⟨g1, rfl, rfl⟩ := m1 rfl
    obtain ⟨q1, q2⟩ := nm_all g1
    unfold stP
    dsimp only
    rw [if_neg (by decide), if_neg (by decide)]
    by_cases h0 : i = 0
    · rw [if_pos h0]
      cases nm with
      | nil => cases q2
      | cons c nm =>
        have hc : c.toNat ≠ 91 := fun e => by
          simp only [List.all_cons, Bool.and_eq_true] at q1
          rw [nmC_no (.inl e)] at q1; cases q1.1
        rw [List.cons_append, stL_c, if_neg hc, if_pos (decide_eq_true h0)]
        exact fdL_app g1 hr
    · rw [if_neg h0, List.append_assoc, List.singleton_append, stL_c, if_neg (by decide), if_neg (by rw [decide_eq_false h0]; exact Bool.false_ne_true), if_pos (by rfl)]
      exact fdL_app g1 hr
  · obtain ⟨rfl, rfl⟩ := m2 rfl
    have hi' := hi rfl
    obtain ⟨d1, d2, d3, d4⟩ := dec_facts ix.toNat (by omega)
    unfold stP
    dsimp only
    rw [if_pos rfl, List.append_assoc, List.append_assoc, List.singleton_append, List.singleton_append, stL_c, if_pos (by rfl)]
    have hn : nmL (dec ix.toNat ++ 93 :: r) = (dec ix.toNat).length := nmL_app d1 (fun c l e => by injection e with e1 e2; exact nmC_no (.inr (.inr (.inr (by rw [← e1]; rfl)))))
    rw [brL_i (d := 93) (r := r) (by rw [hn]; omega) (by rw [hn]; exact drop_left') rfl, hn, take_left, if_pos d2, d3]
    congr 3
    omega
  · obtain ⟨g1, rfl, g3⟩ := m3 rfl
    obtain ⟨q1, q2⟩ := nm_all g1
    unfold stP
    dsimp only
    rw [if_neg (by decide), if_pos rfl]
    rw [show [91] ++ nm ++ [61] ++ quS v ++ [93] ++ r = 91 :: (nm ++ 61 :: (quS v ++ 93 :: r)) by simp only [List.append_assoc, List.singleton_append, List.cons_append, List.nil_append]]
    rw [stL_c, if_pos (by rfl)]
    have hn : nmL (nm ++ 61 :: (quS v ++ 93 :: r)) = nm.length := nmL_app q1 (fun c l e => by injection e with e1 e2; exact nmC_no (.inr (.inr (.inl (by rw [← e1]; rfl)))))
    have hq : quL (quS v ++ 93 :: r) = .ok v (93 :: r) := by
      unfold quS
      rw [List.append_assoc, List.append_assoc, List.singleton_append, List.singleton_append, quL_c, if_pos (by rfl), unq_app v [] _ (tx_chars g3), List.nil_append]
    rw [brL_q (d := 61) (r := quS v ++ 93 :: r) (by rw [hn]; omega) (by rw [hn]; exact drop_left') (by decide) rfl, hq, hn, take_left]
    simp only []
    rw [if_pos (by rfl)]
theorem par_tx : ∀ (l : List XStep) (acc : List XStep), (∀ x ∈ l, stepB x = true) → (txL acc.length l).length ≤ 140737488351232 → parA (txL acc.length l).length acc (txL acc.length l) = some (acc ++ l)
  | [], acc, _, _ => by rw [txL, parA_nil, List.append_nil]
  | x :: l, acc, h, hl => by
    have hx := h x (List.mem_cons_self ..)
    rw [txL] at hl ⊢
    have hst := st_app (i := acc.length) hx (tx_stops (acc.length + 1) (Nat.succ_pos _) l)
    rw [← isE acc acc.length ⟨fun q => by rw [q]; rfl, fun q => List.length_eq_zero_iff.mp q⟩] at hst
    rw [par_some hl hst]
    have ih := par_tx l (acc ++ [x]) (fun y hy => h y (List.mem_cons_of_mem _ hy))
    rw [List.length_append] at hl
    rw [show (acc ++ [x]).length = acc.length + 1 by rw [List.length_append]; rfl] at ih
    rw [ih (by omega), List.append_assoc]; rfl
theorem parse_print {p : List XStep} (h : pathB p = true) : paL (prT p p.length) = some p := by
  obtain ⟨h1, h2⟩ := path_facts h
  have hl := prT_len h2 p.length (Nat.le_refl _)
  rw [prT_all] at hl ⊢
  exact par_tx p [] h2 (by show (txL 0 p).length ≤ _; omega)
theorem dec_canon {w : List UInt8} (h : canB w = true) (hv : valD 0 w ≤ 64) : dec (valD 0 w) = w := by
  unfold canB at h
  simp only [Bool.and_eq_true, Bool.or_eq_true, decide_eq_true_eq, Bool.not_eq_true', decide_eq_false_iff_not] at h
  obtain ⟨hd, hc⟩ := h
  have dg : ∀ c ∈ w, 48 ≤ c.toNat ∧ c.toNat ≤ 57 := fun c hc' => of_decide_eq_true (List.all_eq_true.1 hd c hc')
  have u8 : ∀ (c : UInt8) (n : Nat), c.toNat = n → UInt8.ofNat n = c := fun c n e => by subst e; exact UInt8.ofNat_toNat
  match w, hc, dg, hv with
  | [], hc, _, _ => simp at hc
  | [a], _, dg, _ =>
    have ha := dg a (List.mem_cons_self ..)
    show dec (0 * 10 + (a.toNat - 48)) = [a]
    unfold dec
    rw [if_pos (by omega), u8 a _ (by omega)]
  | [a, b], hc, dg, _ =>
    have ha := dg a (List.mem_cons_self ..)
    have hb := dg b (List.mem_cons_of_mem _ (List.mem_cons_self ..))
    have h0 : ¬ a.toNat = 48 := by
      rcases hc with hc | hc
      · simp at hc
      · exact hc.2
    show dec ((0 * 10 + (a.toNat - 48)) * 10 + (b.toNat - 48)) = [a, b]
    unfold dec
    rw [if_neg (by omega), u8 a _ (by omega), u8 b _ (by omega)]
  | a :: b :: c :: r, hc, dg, hv =>
    have ha := dg a (List.mem_cons_self ..)
    have h0 : ¬ a.toNat = 48 := by
      rcases hc with hc | hc
      · simp at hc
      · exact hc.2
    have hge := valD_ge r (valF (valF (valF 0 a) b) c)
    have e : valD 0 (a :: b :: c :: r) = valD (valF (valF (valF 0 a) b) c) r := rfl
    rw [e] at hv
    simp only [valF_eq] at hge hv
    omega
theorem take_app_drop {s r : List UInt8} {d : UInt8} {k : Nat} (h : s.drop k = d :: r) : s = s.take k ++ d :: r := by rw [← h, List.take_append_drop]
/-- What is read is printed back. -/
theorem st_inv {t r : List UInt8} {i : Nat} {x : XStep} (h : stL (decide (i = 0)) t = some (x, r)) (hx : stepB x = true) : t = stP i x ++ r := by
  have fd : ∀ {u r : List UInt8} {x : XStep}, fdL u = some (x, r) → u = x.name_ ++ r ∧ x.kind_ = 1 := fun {u r x} h => by
    unfold fdL at h
    split at h
    · cases h
    · injection h with h; injection h with h1 h2; subst h1; subst h2
      exact ⟨(List.take_append_drop _ _).symm, rfl⟩
  cases t with
  | nil => cases h
  | cons c t =>
    rw [stL_c] at h
    split at h
    · rename_i h91
      have ec : c = 91 := UInt8.toNat_inj.1 h91
      by_cases h0 : nmL t = 0
      · rw [brL_0 h0] at h; cases h
      · cases hd : t.drop (nmL t) with
        | nil => rw [brL_b h0 hd] at h; cases h
        | cons d r1 =>
          have ht := take_app_drop hd
          by_cases h1 : d.toNat = 93
          · have ed : d = 93 := UInt8.toNat_inj.1 h1
            rw [brL_i h0 hd h1] at h
            split at h
            · rename_i hc
              injection h with h; injection h with h2 h3; subst h2; subst h3
              have hi := (step_facts hx).2.2.2.2 rfl
              dsimp only at hi
              have hv : valD 0 (t.take (nmL t)) ≤ 64 := by omega
              unfold stP
              rw [if_pos rfl]
              show c :: t = [91] ++ dec ((min (valD 0 (t.take (nmL t))) 65 : Nat) : Int).toNat ++ [93] ++ r1
              rw [Int.toNat_natCast, Nat.min_eq_left (by omega), dec_canon hc hv, ec]
              conv => lhs; rw [ht, ed]
              simp only [List.append_assoc, List.singleton_append, List.cons_append, List.nil_append]
            · cases h
          · by_cases h2 : d.toNat = 61
            · have ed : d = 61 := UInt8.toNat_inj.1 h2
              rw [brL_q h0 hd h1 h2] at h
              cases hq : quL r1 with
              | bad => rw [hq] at h; cases h
              | op a => rw [hq] at h; cases h
              | ok a r' =>
                rw [hq] at h
                cases r' with
                | nil => cases h
                | cons c3 r2 =>
                  simp only [] at h
                  split at h
                  · rename_i h93
                    have e93 : c3 = 93 := UInt8.toNat_inj.1 h93
                    injection h with h; injection h with h3 h4; subst h3; subst h4
                    have hr1 : r1 = quS a ++ 93 :: r2 := by
                      cases r1 with
                      | nil => unfold quL at hq; cases hq
                      | cons q r1 =>
                        rw [quL_c] at hq
                        split at hq
                        · rename_i h34
                          have e34 : q = 34 := UInt8.toNat_inj.1 h34
                          obtain ⟨v, g1, g2⟩ := unq_inv r1.length [] r1 a _ (Nat.le_refl _) hq
                          rw [List.nil_append] at g1; subst g1
                          unfold quS
                          rw [e34, g2, e93]
                          simp only [List.append_assoc, List.singleton_append, List.cons_append, List.nil_append]
                        · cases hq
                    unfold stP
                    rw [if_neg (by show ¬ (3 : Int) = 2; decide), if_pos rfl]
                    show c :: t = [91] ++ t.take (nmL t) ++ [61] ++ quS a ++ [93] ++ r2
                    conv => lhs; rw [ht, ec, ed, hr1]
                    simp only [List.append_assoc, List.singleton_append, List.cons_append, List.nil_append]
                  · cases h
            · rw [brL_e h0 hd h1 h2] at h; cases h
    · split at h
      · rename_i h0
        obtain ⟨f1, f2⟩ := fd h
        unfold stP
        rw [if_neg (by omega), if_neg (by omega), if_pos (of_decide_eq_true h0)]; exact f1
      · rename_i h0
        split at h
        · rename_i h46
          have ec : c = 46 := UInt8.toNat_inj.1 h46
          obtain ⟨f1, f2⟩ := fd h
          unfold stP
          rw [if_neg (by omega), if_neg (by omega), if_neg (fun q => h0 (decide_eq_true q)), ec, f1]; rfl
        · cases h
theorem par_inv (n : Nat) : ∀ (acc : List XStep) (t : List UInt8) (q : List XStep), t.length ≤ 140737488351232 → parA n acc t = some q → (∀ x ∈ q, stepB x = true) → ∃ l, q = acc ++ l ∧ t = txL acc.length l := by
  induction n with
  | zero =>
    intro acc t q hl h hq
    cases t with
    | nil => rw [parA_nil] at h; injection h with h; exact ⟨[], by rw [List.append_nil]; exact h.symm, rfl⟩
    | cons c t => cases h
  | succ n ih =>
    intro acc t q hl h hq
    cases t with
    | nil => rw [parA_nil] at h; injection h with h; exact ⟨[], by rw [List.append_nil]; exact h.symm, rfl⟩
    | cons c t =>
      rw [parA_c] at h
      cases hs : stL acc.isEmpty (c :: t) with
      | none => rw [hs] at h; cases h
      | some p =>
        obtain ⟨x, r⟩ := p
        rw [hs] at h
        dsimp only at h
        have h1 := stL_ok hl hs
        obtain ⟨l, g1, g2⟩ := ih _ _ _ (by omega) h hq
        rw [show (acc ++ [x]).length = acc.length + 1 by rw [List.length_append]; rfl] at g2
        refine ⟨x :: l, by rw [g1, List.append_assoc]; rfl, ?_⟩
        rw [isE acc acc.length ⟨fun q => by rw [q]; rfl, fun q => List.length_eq_zero_iff.mp q⟩] at hs
        rw [st_inv hs (hq x (by rw [g1]; simp)), txL, g2]
theorem print_parse {s : List UInt8} {q : List XStep} (hs : s.length ≤ 140737488351232) (h : paL s = some q) (hq : pathB q = true) : prT q q.length = s := by
  obtain ⟨l, h1, h2⟩ := par_inv s.length [] s q hs h (path_facts hq).2
  rw [List.nil_append] at h1; subst h1
  rw [prT_all]; exact h2.symm
end Go.Proofs.YtmfhmlhaofpeiaaGreatDoor.Ev
/- The law PathRoundTrip. -/
namespace Go.Proofs.YtmfhmlhaofpeiaaGreatDoor.Ev
open Go Go.RowKit
set_option linter.unusedSimpArgs false
set_option linter.unusedVariables false
set_option maxRecDepth 100000

theorem law_PathRoundTrip (p : List XStep) (s : List UInt8) (op : p.length * 48 ≤ 140737488351232 ∧ ∀ x ∈ p, okXStep x) (os : s.length ≤ 140737488351232) : R T0 9 [.lst (p.map encXStep), .s s] (.b true) := by
  have hp : p.length ≤ 140737488351232 := by have := op.1; omega
  have dd : ∀ p : List XStep, decide (p = p) = true := fun p => decide_eq_true rfl
  have eb : ∀ (a : List UInt8) (c : Bool), evBin T0 .neq 9 c (.s a) (.s a) = some (.b false) := fun a c => by rw [bin_sne]; simp
  refine r9 _ _ rfl rfl ?_
  unfold w9
  dsimp only [prims]
  cases h1 : fewB p
  · simp (disch := first | first | omega | assumption | exact scell | exact clen_XStep | (simp only [clen_XStep]; omega) | (simp only [List.length_append, List.length_cons, List.length_nil]; omega)) only [Nat.zero_add, oV_some', oN_eq, oM_some, oH_some, oD_some, oE_some, oS_eq, oT_true, oI_true, oI_false, pick_t, pick_f, un_not, oI_not, decide_not, toNat_sub1, toNat_add1, decide_true, decide_false, not_true, not_false_eq_true, Bool.not_true, Bool.not_false, Bool.not_not, oZ_b, oZ_i, oZ_s, oZ_l, slen_map, wr64, Int.toNat_natCast, Int.toNat_zero, ne_eq, bin_lt, bin_slt, bin_le, b_sle, bin_gt, b_sgt, bin_ge, bin_sge, bin_eq, b_snil, beq_4, bin_ne, b_snnil, bne_4, bin_add, bin_sub, min5, load_get, loadB_some, get_put_same, get_put_ne, ofc_s, load_i, off_i, off_p, part_a, nilc_p, nilc_i, nilc_f, ext_t, List.getElem?_cons_zero, List.getElem?_cons_succ, len_9, idx_9, ofc_encXStep, ofc0_encXStep, st_XStep, fld_XStep_kind_, fld_XStep_name_, fld_XStep_index_, fld_XStep_value_, prt_XStep_kind_, prt_XStep_name_, prt_XStep_index_, prt_XStep_value_, join0_eq, join1_eq, join2_eq, join3_eq, join4_eq, join5_eq, join6_eq, join7_eq, join8_eq, gtt_0, gff_0, gtf_0, gft_0, gvv_0, gnt_0, gnf_0, gtt_1, gff_1, gtf_1, gft_1, gvv_1, gnt_1, gnf_1, gtt_2, gff_2, gtf_2, gft_2, gvv_2, gnt_2, gnf_2, gtt_3, gff_3, gtf_3, gft_3, gvv_3, gnt_3, gnf_3, gtt_4, gff_4, gtf_4, gft_4, gvv_4, gnt_4, gnf_4, gtt_5, gff_5, gtf_5, gft_5, gvv_5, gnt_5, gnf_5, gtt_6, gff_6, gtf_6, gft_6, gvv_6, gnt_6, gnf_6, gtt_7, gff_7, gtf_7, gft_7, gvv_7, gnt_7, gnf_7, gtt_8, gff_8, gtf_8, gft_8, gvv_8, gnt_8, gnf_8, gtt_9, gff_9, gtf_9, gft_9, gvv_9, gnt_9, gnf_9, gtt_10, gff_10, gtf_10, gft_10, gvv_10, gnt_10, gnf_10, gtt_11, gff_11, gtf_11, gft_11, gvv_11, gnt_11, gnf_11, gtt_12, gff_12, gtf_12, gft_12, gvv_12, gnt_12, gnf_12, gtt_13, gff_13, gtf_13, gft_13, gvv_13, gnt_13, gnf_13, gtt_14, gff_14, gtf_14, gft_14, gvv_14, gnt_14, gnf_14, gtt_15, gff_15, gtf_15, gft_15, gvv_15, gnt_15, gnf_15, e11 hp op.2, h1, e12]
  · by_cases hs : s.length ≤ 3000
    · have first : ∀ (P : Prop), (pathB p = true → ∀ t, prR p = .tup [.s t, .i .i64 0] → t.length ≤ 50000 → paR t = .tup [.lst (p.map encXStep), .i .i64 0] → P) → (prR p = .tup [.s [], .i .i64 1] → P) → P := fun P k1 k2 => by
        by_cases hb : pathB p = true
        · have hl := prT_len (path_facts hb).2 p.length (Nat.le_refl _)
          have h16 := (path_facts hb).1
          refine k1 hb (prT p p.length) (if_pos hb) (by omega) ?_
          rw [paR_some (by omega) (parse_print hb), if_pos hb]
        · exact k2 (if_neg hb)
      have second : ∀ (P : Prop), (∀ q : List XStep, paR s = .tup [.lst (q.map encXStep), .i .i64 0] → pathB q = true → q.length ≤ 140737488351232 → (∀ x ∈ q, okXStep x) → prR q = .tup [.s s, .i .i64 0] → P) → (∀ e, ¬ e = 0 → paR s = .tup [.lst [], .i .i64 e] → P) → P := fun P k1 k2 => by
        cases h : paL s with
        | none => exact k2 2 (by decide) (paR_none (by omega) h)
        | some q =>
          have e := paR_some (by omega) h
          by_cases hq : pathB q = true
          · rw [if_pos hq] at e
            have ok := paL_ok os h
            refine k1 q e hq (by omega) ok.2 ?_
            rw [show prR q = .tup [.s (prT q q.length), .i .i64 0] from if_pos hq, print_parse os h hq]
          · rw [if_neg hq] at e
            exact k2 1 (by decide) e
      refine first _ (fun hb t r1 ht r2 => ?_) (fun r1 => ?_)
      · refine second _ (fun q r3 hq hl hok r4 => ?_) (fun e he r3 => ?_)
        · simp (disch := first | first | omega | assumption | exact scell | exact clen_XStep | (simp only [clen_XStep]; omega) | (simp only [List.length_append, List.length_cons, List.length_nil]; omega)) only [Nat.zero_add, oV_some', oN_eq, oM_some, oH_some, oD_some, oE_some, oS_eq, oT_true, oI_true, oI_false, pick_t, pick_f, un_not, oI_not, decide_not, toNat_sub1, toNat_add1, decide_true, decide_false, not_true, not_false_eq_true, Bool.not_true, Bool.not_false, Bool.not_not, oZ_b, oZ_i, oZ_s, oZ_l, slen_map, wr64, Int.toNat_natCast, Int.toNat_zero, ne_eq, bin_lt, bin_slt, bin_le, b_sle, bin_gt, b_sgt, bin_ge, bin_sge, bin_eq, b_snil, beq_4, bin_ne, b_snnil, bne_4, bin_add, bin_sub, min5, load_get, loadB_some, get_put_same, get_put_ne, ofc_s, load_i, off_i, off_p, part_a, nilc_p, nilc_i, nilc_f, ext_t, List.getElem?_cons_zero, List.getElem?_cons_succ, len_9, idx_9, ofc_encXStep, ofc0_encXStep, st_XStep, fld_XStep_kind_, fld_XStep_name_, fld_XStep_index_, fld_XStep_value_, prt_XStep_kind_, prt_XStep_name_, prt_XStep_index_, prt_XStep_value_, join0_eq, join1_eq, join2_eq, join3_eq, join4_eq, join5_eq, join6_eq, join7_eq, join8_eq, gtt_0, gff_0, gtf_0, gft_0, gvv_0, gnt_0, gnf_0, gtt_1, gff_1, gtf_1, gft_1, gvv_1, gnt_1, gnf_1, gtt_2, gff_2, gtf_2, gft_2, gvv_2, gnt_2, gnf_2, gtt_3, gff_3, gtf_3, gft_3, gvv_3, gnt_3, gnf_3, gtt_4, gff_4, gtf_4, gft_4, gvv_4, gnt_4, gnf_4, gtt_5, gff_5, gtf_5, gft_5, gvv_5, gnt_5, gnf_5, gtt_6, gff_6, gtf_6, gft_6, gvv_6, gnt_6, gnf_6, gtt_7, gff_7, gtf_7, gft_7, gvv_7, gnt_7, gnf_7, gtt_8, gff_8, gtf_8, gft_8, gvv_8, gnt_8, gnf_8, gtt_9, gff_9, gtf_9, gft_9, gvv_9, gnt_9, gnf_9, gtt_10, gff_10, gtf_10, gft_10, gvv_10, gnt_10, gnf_10, gtt_11, gff_11, gtf_11, gft_11, gvv_11, gnt_11, gnf_11, gtt_12, gff_12, gtf_12, gft_12, gvv_12, gnt_12, gnf_12, gtt_13, gff_13, gtf_13, gft_13, gvv_13, gnt_13, gnf_13, gtt_14, gff_14, gtf_14, gft_14, gvv_14, gnt_14, gnf_14, gtt_15, gff_15, gtf_15, gft_15, gvv_15, gnt_15, gnf_15, e11 hp op.2, h1, decT, decF, e12, e20 hp op.2, r1, ex0, ex1, e17 ht, r2, e19 hp hp, dd, e17, r3, e20 hl hok, r4, eb, e13 hl hok, hq]
        · simp (disch := first | first | omega | assumption | exact scell | exact clen_XStep | (simp only [clen_XStep]; omega) | (simp only [List.length_append, List.length_cons, List.length_nil]; omega)) only [Nat.zero_add, oV_some', oN_eq, oM_some, oH_some, oD_some, oE_some, oS_eq, oT_true, oI_true, oI_false, pick_t, pick_f, un_not, oI_not, decide_not, toNat_sub1, toNat_add1, decide_true, decide_false, not_true, not_false_eq_true, Bool.not_true, Bool.not_false, Bool.not_not, oZ_b, oZ_i, oZ_s, oZ_l, slen_map, wr64, Int.toNat_natCast, Int.toNat_zero, ne_eq, bin_lt, bin_slt, bin_le, b_sle, bin_gt, b_sgt, bin_ge, bin_sge, bin_eq, b_snil, beq_4, bin_ne, b_snnil, bne_4, bin_add, bin_sub, min5, load_get, loadB_some, get_put_same, get_put_ne, ofc_s, load_i, off_i, off_p, part_a, nilc_p, nilc_i, nilc_f, ext_t, List.getElem?_cons_zero, List.getElem?_cons_succ, len_9, idx_9, ofc_encXStep, ofc0_encXStep, st_XStep, fld_XStep_kind_, fld_XStep_name_, fld_XStep_index_, fld_XStep_value_, prt_XStep_kind_, prt_XStep_name_, prt_XStep_index_, prt_XStep_value_, join0_eq, join1_eq, join2_eq, join3_eq, join4_eq, join5_eq, join6_eq, join7_eq, join8_eq, gtt_0, gff_0, gtf_0, gft_0, gvv_0, gnt_0, gnf_0, gtt_1, gff_1, gtf_1, gft_1, gvv_1, gnt_1, gnf_1, gtt_2, gff_2, gtf_2, gft_2, gvv_2, gnt_2, gnf_2, gtt_3, gff_3, gtf_3, gft_3, gvv_3, gnt_3, gnf_3, gtt_4, gff_4, gtf_4, gft_4, gvv_4, gnt_4, gnf_4, gtt_5, gff_5, gtf_5, gft_5, gvv_5, gnt_5, gnf_5, gtt_6, gff_6, gtf_6, gft_6, gvv_6, gnt_6, gnf_6, gtt_7, gff_7, gtf_7, gft_7, gvv_7, gnt_7, gnf_7, gtt_8, gff_8, gtf_8, gft_8, gvv_8, gnt_8, gnf_8, gtt_9, gff_9, gtf_9, gft_9, gvv_9, gnt_9, gnf_9, gtt_10, gff_10, gtf_10, gft_10, gvv_10, gnt_10, gnf_10, gtt_11, gff_11, gtf_11, gft_11, gvv_11, gnt_11, gnf_11, gtt_12, gff_12, gtf_12, gft_12, gvv_12, gnt_12, gnf_12, gtt_13, gff_13, gtf_13, gft_13, gvv_13, gnt_13, gnf_13, gtt_14, gff_14, gtf_14, gft_14, gvv_14, gnt_14, gnf_14, gtt_15, gff_15, gtf_15, gft_15, gvv_15, gnt_15, gnf_15, e11 hp op.2, h1, decT, decF, e12, e20 hp op.2, r1, ex0, ex1, e17 ht, r2, e19 hp hp, dd, e17, r3]
      · refine second _ (fun q r3 hq hl hok r4 => ?_) (fun e he r3 => ?_)
        · simp (disch := first | first | omega | assumption | exact scell | exact clen_XStep | (simp only [clen_XStep]; omega) | (simp only [List.length_append, List.length_cons, List.length_nil]; omega)) only [Nat.zero_add, oV_some', oN_eq, oM_some, oH_some, oD_some, oE_some, oS_eq, oT_true, oI_true, oI_false, pick_t, pick_f, un_not, oI_not, decide_not, toNat_sub1, toNat_add1, decide_true, decide_false, not_true, not_false_eq_true, Bool.not_true, Bool.not_false, Bool.not_not, oZ_b, oZ_i, oZ_s, oZ_l, slen_map, wr64, Int.toNat_natCast, Int.toNat_zero, ne_eq, bin_lt, bin_slt, bin_le, b_sle, bin_gt, b_sgt, bin_ge, bin_sge, bin_eq, b_snil, beq_4, bin_ne, b_snnil, bne_4, bin_add, bin_sub, min5, load_get, loadB_some, get_put_same, get_put_ne, ofc_s, load_i, off_i, off_p, part_a, nilc_p, nilc_i, nilc_f, ext_t, List.getElem?_cons_zero, List.getElem?_cons_succ, len_9, idx_9, ofc_encXStep, ofc0_encXStep, st_XStep, fld_XStep_kind_, fld_XStep_name_, fld_XStep_index_, fld_XStep_value_, prt_XStep_kind_, prt_XStep_name_, prt_XStep_index_, prt_XStep_value_, join0_eq, join1_eq, join2_eq, join3_eq, join4_eq, join5_eq, join6_eq, join7_eq, join8_eq, gtt_0, gff_0, gtf_0, gft_0, gvv_0, gnt_0, gnf_0, gtt_1, gff_1, gtf_1, gft_1, gvv_1, gnt_1, gnf_1, gtt_2, gff_2, gtf_2, gft_2, gvv_2, gnt_2, gnf_2, gtt_3, gff_3, gtf_3, gft_3, gvv_3, gnt_3, gnf_3, gtt_4, gff_4, gtf_4, gft_4, gvv_4, gnt_4, gnf_4, gtt_5, gff_5, gtf_5, gft_5, gvv_5, gnt_5, gnf_5, gtt_6, gff_6, gtf_6, gft_6, gvv_6, gnt_6, gnf_6, gtt_7, gff_7, gtf_7, gft_7, gvv_7, gnt_7, gnf_7, gtt_8, gff_8, gtf_8, gft_8, gvv_8, gnt_8, gnf_8, gtt_9, gff_9, gtf_9, gft_9, gvv_9, gnt_9, gnf_9, gtt_10, gff_10, gtf_10, gft_10, gvv_10, gnt_10, gnf_10, gtt_11, gff_11, gtf_11, gft_11, gvv_11, gnt_11, gnf_11, gtt_12, gff_12, gtf_12, gft_12, gvv_12, gnt_12, gnf_12, gtt_13, gff_13, gtf_13, gft_13, gvv_13, gnt_13, gnf_13, gtt_14, gff_14, gtf_14, gft_14, gvv_14, gnt_14, gnf_14, gtt_15, gff_15, gtf_15, gft_15, gvv_15, gnt_15, gnf_15, e11 hp op.2, h1, decT, decF, e12, e20 hp op.2, r1, ex0, ex1, e17, r3, e20 hl hok, r4, eb, e13 hl hok, hq]
        · simp (disch := first | first | omega | assumption | exact scell | exact clen_XStep | (simp only [clen_XStep]; omega) | (simp only [List.length_append, List.length_cons, List.length_nil]; omega)) only [Nat.zero_add, oV_some', oN_eq, oM_some, oH_some, oD_some, oE_some, oS_eq, oT_true, oI_true, oI_false, pick_t, pick_f, un_not, oI_not, decide_not, toNat_sub1, toNat_add1, decide_true, decide_false, not_true, not_false_eq_true, Bool.not_true, Bool.not_false, Bool.not_not, oZ_b, oZ_i, oZ_s, oZ_l, slen_map, wr64, Int.toNat_natCast, Int.toNat_zero, ne_eq, bin_lt, bin_slt, bin_le, b_sle, bin_gt, b_sgt, bin_ge, bin_sge, bin_eq, b_snil, beq_4, bin_ne, b_snnil, bne_4, bin_add, bin_sub, min5, load_get, loadB_some, get_put_same, get_put_ne, ofc_s, load_i, off_i, off_p, part_a, nilc_p, nilc_i, nilc_f, ext_t, List.getElem?_cons_zero, List.getElem?_cons_succ, len_9, idx_9, ofc_encXStep, ofc0_encXStep, st_XStep, fld_XStep_kind_, fld_XStep_name_, fld_XStep_index_, fld_XStep_value_, prt_XStep_kind_, prt_XStep_name_, prt_XStep_index_, prt_XStep_value_, join0_eq, join1_eq, join2_eq, join3_eq, join4_eq, join5_eq, join6_eq, join7_eq, join8_eq, gtt_0, gff_0, gtf_0, gft_0, gvv_0, gnt_0, gnf_0, gtt_1, gff_1, gtf_1, gft_1, gvv_1, gnt_1, gnf_1, gtt_2, gff_2, gtf_2, gft_2, gvv_2, gnt_2, gnf_2, gtt_3, gff_3, gtf_3, gft_3, gvv_3, gnt_3, gnf_3, gtt_4, gff_4, gtf_4, gft_4, gvv_4, gnt_4, gnf_4, gtt_5, gff_5, gtf_5, gft_5, gvv_5, gnt_5, gnf_5, gtt_6, gff_6, gtf_6, gft_6, gvv_6, gnt_6, gnf_6, gtt_7, gff_7, gtf_7, gft_7, gvv_7, gnt_7, gnf_7, gtt_8, gff_8, gtf_8, gft_8, gvv_8, gnt_8, gnf_8, gtt_9, gff_9, gtf_9, gft_9, gvv_9, gnt_9, gnf_9, gtt_10, gff_10, gtf_10, gft_10, gvv_10, gnt_10, gnf_10, gtt_11, gff_11, gtf_11, gft_11, gvv_11, gnt_11, gnf_11, gtt_12, gff_12, gtf_12, gft_12, gvv_12, gnt_12, gnf_12, gtt_13, gff_13, gtf_13, gft_13, gvv_13, gnt_13, gnf_13, gtt_14, gff_14, gtf_14, gft_14, gvv_14, gnt_14, gnf_14, gtt_15, gff_15, gtf_15, gft_15, gvv_15, gnt_15, gnf_15, e11 hp op.2, h1, decT, decF, e12, e20 hp op.2, r1, ex0, ex1, e17, r3]
    · simp (disch := first | first | omega | assumption | exact scell | exact clen_XStep | (simp only [clen_XStep]; omega) | (simp only [List.length_append, List.length_cons, List.length_nil]; omega)) only [Nat.zero_add, oV_some', oN_eq, oM_some, oH_some, oD_some, oE_some, oS_eq, oT_true, oI_true, oI_false, pick_t, pick_f, un_not, oI_not, decide_not, toNat_sub1, toNat_add1, decide_true, decide_false, not_true, not_false_eq_true, Bool.not_true, Bool.not_false, Bool.not_not, oZ_b, oZ_i, oZ_s, oZ_l, slen_map, wr64, Int.toNat_natCast, Int.toNat_zero, ne_eq, bin_lt, bin_slt, bin_le, b_sle, bin_gt, b_sgt, bin_ge, bin_sge, bin_eq, b_snil, beq_4, bin_ne, b_snnil, bne_4, bin_add, bin_sub, min5, load_get, loadB_some, get_put_same, get_put_ne, ofc_s, load_i, off_i, off_p, part_a, nilc_p, nilc_i, nilc_f, ext_t, List.getElem?_cons_zero, List.getElem?_cons_succ, len_9, idx_9, ofc_encXStep, ofc0_encXStep, st_XStep, fld_XStep_kind_, fld_XStep_name_, fld_XStep_index_, fld_XStep_value_, prt_XStep_kind_, prt_XStep_name_, prt_XStep_index_, prt_XStep_value_, join0_eq, join1_eq, join2_eq, join3_eq, join4_eq, join5_eq, join6_eq, join7_eq, join8_eq, gtt_0, gff_0, gtf_0, gft_0, gvv_0, gnt_0, gnf_0, gtt_1, gff_1, gtf_1, gft_1, gvv_1, gnt_1, gnf_1, gtt_2, gff_2, gtf_2, gft_2, gvv_2, gnt_2, gnf_2, gtt_3, gff_3, gtf_3, gft_3, gvv_3, gnt_3, gnf_3, gtt_4, gff_4, gtf_4, gft_4, gvv_4, gnt_4, gnf_4, gtt_5, gff_5, gtf_5, gft_5, gvv_5, gnt_5, gnf_5, gtt_6, gff_6, gtf_6, gft_6, gvv_6, gnt_6, gnf_6, gtt_7, gff_7, gtf_7, gft_7, gvv_7, gnt_7, gnf_7, gtt_8, gff_8, gtf_8, gft_8, gvv_8, gnt_8, gnf_8, gtt_9, gff_9, gtf_9, gft_9, gvv_9, gnt_9, gnf_9, gtt_10, gff_10, gtf_10, gft_10, gvv_10, gnt_10, gnf_10, gtt_11, gff_11, gtf_11, gft_11, gvv_11, gnt_11, gnf_11, gtt_12, gff_12, gtf_12, gft_12, gvv_12, gnt_12, gnf_12, gtt_13, gff_13, gtf_13, gft_13, gvv_13, gnt_13, gnf_13, gtt_14, gff_14, gtf_14, gft_14, gvv_14, gnt_14, gnf_14, gtt_15, gff_15, gtf_15, gft_15, gvv_15, gnt_15, gnf_15, e11 hp op.2, h1, decT, decF, e12]
end Go.Proofs.YtmfhmlhaofpeiaaGreatDoor.Ev
