/- The small comparisons under Compare, both sides; Small. -/
import Derived.Test.YtpnoongjaehmlaaDoorV15
import Derived.Test.YtpnoongjaehmlaaDoorV7
namespace Go.Proofs.YtpnoongjaehmlaaDoor.Ev
open Go Go.RowKit
set_option linter.unusedSimpArgs false
set_option linter.unusedVariables false
set_option maxRecDepth 100000

def ordI (x y : Bool) : Int := if x = true then -1 else if y = true then 1 else 0
def cmpI (a b : Int) : Int := ordI (decide (a < b)) (decide (b < a))
def cmpB (a b : List UInt8) : Int := ordI (Op.bytesLess a b) (Op.bytesLess b a)
theorem c75 (x y : Bool) : R T0 75 [.b x, .b y] (.i .i64 (ordI x y)) := by
  refine r75 _ _ rfl rfl ?_
  unfold w75
  dsimp only [prims]
  cases x <;> cases y <;> simp only [oI_true, oI_false, oZ_i] <;> rfl
theorem e75 {x y : Bool} {d : Nat} {σ : AS} {K : AV → AS → Prop} : oC T0 d 75 [.b x, .b y] σ K = K (.i .i64 (ordI x y)) σ := (c75 x y).eq d σ K
theorem c81 (a : Int) : R T0 81 [.i .i64 a] (.b false) := by
  refine r81 _ rfl rfl ?_
  unfold w81
  dsimp only [prims]
  simp only [bin_ne, oV_some', oZ_b]
  simp
theorem e81 {a : Int} {d : Nat} {σ : AS} {K : AV → AS → Prop} : oC T0 d 81 [.i .i64 a] σ K = K (.b false) σ := (c81 a).eq d σ K
theorem c69 (a b : Int) : R T0 69 [.i .i64 a, .i .i64 b] (.i .i64 (cmpI a b)) := by
  refine r69 _ _ rfl rfl ?_
  unfold w69
  dsimp only [prims]
  simp (disch := first | omega | exact hk _ | exact hv _ | exact hn _ | exact hf _ | assumption | exact clen_V | exact clen_F | exact clen_Lb | exact clen_Ow | exact clen_Mg | exact clen_Mt | exact scell | (simp only [clen_Lb, clen_Ow, clen_Mg, clen_Mt]; omega) | (simp only [clen_V, clen_F]; omega)) only [Nat.zero_add, oV_some', oN_eq, oM_some, oH_some, oD_some, oE_some, oS_eq, oT_true, oI_true, oI_false, pick_t, pick_f, un_not, oI_not, decide_not, toNat_sub1, toNat_add1, decide_true, decide_false, not_true, not_false_eq_true, Bool.not_true, Bool.not_false, Bool.not_not, oZ_b, oZ_i, oZ_s, oZ_l, slen_map, wr64, Int.toNat_natCast, Int.toNat_zero, ne_eq, bin_lt, bin_slt, bin_gt, b_sgt, e81]
  repeat' ((first | with_reducible refine oI_decd (fun h => ?_) (fun h => ?_)  | with_reducible refine oI_bool (fun h => ?_) (fun h => ?_)) <;> try simp (disch := first | omega | exact hk _ | exact hv _ | exact hn _ | exact hf _ | assumption | exact clen_V | exact clen_F | exact clen_Lb | exact clen_Ow | exact clen_Mg | exact clen_Mt | exact scell | (simp only [clen_Lb, clen_Ow, clen_Mg, clen_Mt]; omega) | (simp only [clen_V, clen_F]; omega)) only [h, Nat.zero_add, oV_some', oN_eq, oM_some, oH_some, oD_some, oE_some, oS_eq, oT_true, oI_true, oI_false, pick_t, pick_f, un_not, oI_not, decide_not, toNat_sub1, toNat_add1, decide_true, decide_false, not_true, not_false_eq_true, Bool.not_true, Bool.not_false, Bool.not_not, oZ_b, oZ_i, oZ_s, oZ_l, slen_map, wr64, Int.toNat_natCast, Int.toNat_zero, ne_eq, bin_lt, bin_slt, bin_gt, b_sgt, e81])
  all_goals (unfold cmpI ordI; simp only [*, decide_true, decide_false, if_true, if_false, Bool.false_eq_true])
theorem e69 {a b : Int} {d : Nat} {σ : AS} {K : AV → AS → Prop} : oC T0 d 69 [.i .i64 a, .i .i64 b] σ K = K (.i .i64 (cmpI a b)) σ := (c69 a b).eq d σ K
theorem bl_irr : ∀ (a : List UInt8), Op.bytesLess a a = false
  | [] => rfl
  | x :: a => by
    have : ¬ x < x := fun h => absurd (show x.toNat < x.toNat from h) (by omega)
    simp [Op.bytesLess, this, bl_irr a]
theorem cmpB_eq : ∀ (a b : List UInt8), Lib.compareBytes a b = cmpB a b
  | [], [] => rfl
  | [], _ :: _ => rfl
  | _ :: _, [] => rfl
  | x :: a, y :: b => by
    have ih := cmpB_eq a b
    unfold Lib.compareBytes
    unfold cmpB ordI at ih ⊢
    simp only [Op.bytesLess]
    rcases Nat.lt_trichotomy x.toNat y.toNat with q | q | q
    · have h1 : x < y := q
      simp [h1]
    · obtain rfl : x = y := UInt8.toNat_inj.1 q
      have h2 : ¬ x < x := fun h => absurd (show x.toNat < x.toNat from h) (by omega)
      simp [h2, ih]
    · have h1 : y < x := q
      have h2 : ¬ x < y := fun h => absurd (show x.toNat < y.toNat from h) (by omega)
      have h3 : (x == y) = false := by simp; rintro rfl; omega
      simp [h1, h2, h3]
theorem c92 (a b : List UInt8) : R T0 92 [.s a, .s b] (.i .i64 (cmpB a b)) := by
  rw [← cmpB_eq]; exact R.prim (g := primCmp) (by kernel_rfl) rfl
theorem e92 {a b : List UInt8} {d : Nat} {σ : AS} {K : AV → AS → Prop} : oC T0 d 92 [.s a, .s b] σ K = K (.i .i64 (cmpB a b)) σ := (c92 a b).eq d σ K
theorem c82 (a b : List UInt8) : R T0 82 [.s a, .s b] (.i .i64 (cmpB a b)) := by
  refine r82 _ _ rfl rfl ?_
  unfold w82
  dsimp only [prims]
  simp only [e92, oZ_i]
theorem e82 {a b : List UInt8} {d : Nat} {σ : AS} {K : AV → AS → Prop} : oC T0 d 82 [.s a, .s b] σ K = K (.i .i64 (cmpB a b)) σ := (c82 a b).eq d σ K
theorem c70 (a b : List UInt8) : R T0 70 [.s a, .s b] (.i .i64 (cmpB a b)) := by
  refine r70 _ _ rfl rfl ?_
  unfold w70
  dsimp only [prims]
  simp only [e82, oZ_i]
theorem e70 {a b : List UInt8} {d : Nat} {σ : AS} {K : AV → AS → Prop} : oC T0 d 70 [.s a, .s b] σ K = K (.i .i64 (cmpB a b)) σ := (c70 a b).eq d σ K
end Go.Proofs.YtpnoongjaehmlaaDoor.Ev
