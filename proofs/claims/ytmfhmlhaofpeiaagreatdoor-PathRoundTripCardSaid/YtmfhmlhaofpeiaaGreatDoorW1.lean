/- Texts of this session's, one behind the other. -/
import Derived.Test.YtmfhmlhaofpeiaaGreatDoorV0
import Derived.Test.YtmfhmlhaofpeiaaGreatDoorEvG
import Derived.Test.YtmfhmlhaofpeiaaGreatDoorV6
import Derived.Test.YtmfhmlhaofpeiaaGreatDoorEvFb
import Derived.Test.YtmfhmlhaofpeiaaGreatDoorEvFc
import Derived.Test.YtmfhmlhaofpeiaaGreatDoorEv1
import Derived.Test.YtmfhmlhaofpeiaaGreatDoorEv2
import Derived.Test.YtmfhmlhaofpeiaaGreatDoorEv3
import Derived.Test.YtmfhmlhaofpeiaaGreatDoorEv4
import Derived.Test.YtmfhmlhaofpeiaaGreatDoorSh
import Derived.Test.YtmfhmlhaofpeiaaGreatDoorEvX
import Derived.Test.YtmfhmlhaofpeiaaGreatDoorEvT
import Derived.Test.YtmfhmlhaofpeiaaGreatDoorEvTy
import Derived.Test.YtmfhmlhaofpeiaaGreatDoorEvF
import Derived.Test.YtmfhmlhaofpeiaaGreatDoorOp
import Derived.Test.YtmfhmlhaofpeiaaGreatDoorEvLg
/- Names and texts. -/
namespace Go.Proofs.YtmfhmlhaofpeiaaGreatDoor.Ev
open Go Go.RowKit
set_option linter.unusedSimpArgs false
set_option linter.unusedVariables false
set_option maxRecDepth 100000

theorem all_take_succ {α : Type} {p : α → Bool} {l : List α} {d : α} {j : Nat} (h : (l.take j).all p = true) (hj : j < l.length) (hp : p (l.getD j d) = true) : (l.take (j + 1)).all p = true := by
  rw [List.take_add_one, List.all_append, h]
  rw [List.getD_eq_getElem?_getD, List.getElem?_eq_getElem hj] at hp
  rw [List.getElem?_eq_getElem hj]
  simpa using hp
theorem all_false_at {α : Type} {p : α → Bool} {l : List α} {d : α} {j : Nat} (hj : j < l.length) (hp : p (l.getD j d) = false) : l.all p = false := by
  rw [List.getD_eq_getElem?_getD, List.getElem?_eq_getElem hj] at hp
  rw [List.all_eq_false]
  exact ⟨l[j], List.getElem_mem hj, by simpa using hp⟩
theorem all_end {α : Type} {p : α → Bool} {l : List α} {j : Nat} (h : (l.take j).all p = true) (hj : l.length ≤ j) : l.all p = true := by
  rwa [List.take_of_length_le hj] at h
theorem getD_mem {α : Type} [Inhabited α] {l : List α} {j : Nat} (h : j < l.length) : l.getD j default ∈ l := by
  rw [List.getD_eq_getElem?_getD, List.getElem?_eq_getElem h]; exact List.getElem_mem h
/-- A character of a name; of a text. -/
def nameI (r : Int) : Bool := decide ((97 ≤ r ∧ r ≤ 122) ∨ (65 ≤ r ∧ r ≤ 90) ∨ (48 ≤ r ∧ r ≤ 57) ∨ r = 45 ∨ r = 95 ∨ r = 47)
def textI (r : Int) : Bool := decide (r = 10 ∨ (32 ≤ r ∧ r ≤ 126))
def nmB (s : List UInt8) : Bool := s.all (fun c => nameI c.toNat) && decide (0 < s.length) && decide (s.length ≤ 40)
def txB (s : List UInt8) : Bool := s.all (fun c => textI c.toNat) && decide (s.length ≤ 200)
theorem c66 (r : Int) : R T0 66 [.i .i32 r] (.b (nameI r)) := by
  refine r66 _ rfl rfl ?_
  unfold w66
  dsimp only [prims]
  simp (disch := first | omega | assumption | exact scell | exact clen_XStep | (simp only [clen_XStep]; omega)) only [Nat.zero_add, oV_some', oN_eq, oM_some, oH_some, oD_some, oE_some, oS_eq, oT_true, oI_true, oI_false, pick_t, pick_f, un_not, oI_not, decide_not, toNat_sub1, toNat_add1, decide_true, decide_false, not_true, not_false_eq_true, Bool.not_true, Bool.not_false, Bool.not_not, oZ_b, oZ_i, oZ_s, oZ_l, slen_map, wr64, Int.toNat_natCast, Int.toNat_zero, ne_eq, bin_le, b_sle, bin_ge, bin_sge, bin_eq, b_snil, beq_4, ofc_encXStep, ofc0_encXStep, st_XStep, fld_XStep_kind_, fld_XStep_name_, fld_XStep_index_, fld_XStep_value_, prt_XStep_kind_, prt_XStep_name_, prt_XStep_index_, prt_XStep_value_, gtt_1, gff_1, gtf_1, gft_1, gvv_1, gnt_1, gnf_1, gtt_2, gff_2, gtf_2, gft_2, gvv_2, gnt_2, gnf_2, gtt_3, gff_3, gtf_3, gft_3, gvv_3, gnt_3, gnf_3]
  repeat' ((first | with_reducible refine oI_decd (fun h => ?_) (fun h => ?_) | with_reducible refine gdt_1 (fun h => ?_) (fun h => ?_) | with_reducible refine gdt_2 (fun h => ?_) (fun h => ?_) | with_reducible refine gdt_3 (fun h => ?_) (fun h => ?_) | with_reducible refine gdf_1 (fun h => ?_) (fun h => ?_) | with_reducible refine gdf_2 (fun h => ?_) (fun h => ?_) | with_reducible refine gdf_3 (fun h => ?_) (fun h => ?_) | with_reducible refine gbt_1 (fun h => ?_) (fun h => ?_) | with_reducible refine gbt_2 (fun h => ?_) (fun h => ?_) | with_reducible refine gbt_3 (fun h => ?_) (fun h => ?_) | with_reducible refine gbf_1 (fun h => ?_) (fun h => ?_) | with_reducible refine gbf_2 (fun h => ?_) (fun h => ?_) | with_reducible refine gbf_3 (fun h => ?_) (fun h => ?_) | with_reducible refine oI_bool (fun h => ?_) (fun h => ?_)) <;> try simp (disch := first | omega | assumption | exact scell | exact clen_XStep | (simp only [clen_XStep]; omega)) only [h, Nat.zero_add, oV_some', oN_eq, oM_some, oH_some, oD_some, oE_some, oS_eq, oT_true, oI_true, oI_false, pick_t, pick_f, un_not, oI_not, decide_not, toNat_sub1, toNat_add1, decide_true, decide_false, not_true, not_false_eq_true, Bool.not_true, Bool.not_false, Bool.not_not, oZ_b, oZ_i, oZ_s, oZ_l, slen_map, wr64, Int.toNat_natCast, Int.toNat_zero, ne_eq, bin_le, b_sle, bin_ge, bin_sge, bin_eq, b_snil, beq_4, ofc_encXStep, ofc0_encXStep, st_XStep, fld_XStep_kind_, fld_XStep_name_, fld_XStep_index_, fld_XStep_value_, prt_XStep_kind_, prt_XStep_name_, prt_XStep_index_, prt_XStep_value_, gtt_1, gff_1, gtf_1, gft_1, gvv_1, gnt_1, gnf_1, gtt_2, gff_2, gtf_2, gft_2, gvv_2, gnt_2, gnf_2, gtt_3, gff_3, gtf_3, gft_3, gvv_3, gnt_3, gnf_3])
  all_goals first
    | (unfold nameI; exact congrArg AV.b (decide_eq_true (by omega)).symm)
    | (unfold nameI; exact congrArg AV.b (decide_eq_false (by omega)).symm)
    | (unfold nameI; exact congrArg AV.b (decide_eq_decide.2 (by omega)))
theorem e66 {r : Int} {d : Nat} {σ : AS} {K : AV → AS → Prop} : oC T0 d 66 [.i .i32 r] σ K = K (.b (nameI r)) σ := (c66 r).eq d σ K
theorem c93 (r : Int) : R T0 93 [.i .u8 r] (.b (nameI r)) := by
  refine r93 _ rfl rfl ?_
  unfold w93
  dsimp only [prims]
  simp (disch := first | omega | assumption | exact scell | exact clen_XStep | (simp only [clen_XStep]; omega)) only [Nat.zero_add, oV_some', oN_eq, oM_some, oH_some, oD_some, oE_some, oS_eq, oT_true, oI_true, oI_false, pick_t, pick_f, un_not, oI_not, decide_not, toNat_sub1, toNat_add1, decide_true, decide_false, not_true, not_false_eq_true, Bool.not_true, Bool.not_false, Bool.not_not, oZ_b, oZ_i, oZ_s, oZ_l, slen_map, wr64, Int.toNat_natCast, Int.toNat_zero, ne_eq, bin_le, b_sle, bin_ge, bin_sge, bin_eq, b_snil, beq_4, ofc_encXStep, ofc0_encXStep, st_XStep, fld_XStep_kind_, fld_XStep_name_, fld_XStep_index_, fld_XStep_value_, prt_XStep_kind_, prt_XStep_name_, prt_XStep_index_, prt_XStep_value_, gtt_1, gff_1, gtf_1, gft_1, gvv_1, gnt_1, gnf_1, gtt_2, gff_2, gtf_2, gft_2, gvv_2, gnt_2, gnf_2, gtt_3, gff_3, gtf_3, gft_3, gvv_3, gnt_3, gnf_3]
  repeat' ((first | with_reducible refine oI_decd (fun h => ?_) (fun h => ?_) | with_reducible refine gdt_1 (fun h => ?_) (fun h => ?_) | with_reducible refine gdt_2 (fun h => ?_) (fun h => ?_) | with_reducible refine gdt_3 (fun h => ?_) (fun h => ?_) | with_reducible refine gdf_1 (fun h => ?_) (fun h => ?_) | with_reducible refine gdf_2 (fun h => ?_) (fun h => ?_) | with_reducible refine gdf_3 (fun h => ?_) (fun h => ?_) | with_reducible refine gbt_1 (fun h => ?_) (fun h => ?_) | with_reducible refine gbt_2 (fun h => ?_) (fun h => ?_) | with_reducible refine gbt_3 (fun h => ?_) (fun h => ?_) | with_reducible refine gbf_1 (fun h => ?_) (fun h => ?_) | with_reducible refine gbf_2 (fun h => ?_) (fun h => ?_) | with_reducible refine gbf_3 (fun h => ?_) (fun h => ?_) | with_reducible refine oI_bool (fun h => ?_) (fun h => ?_)) <;> try simp (disch := first | omega | assumption | exact scell | exact clen_XStep | (simp only [clen_XStep]; omega)) only [h, Nat.zero_add, oV_some', oN_eq, oM_some, oH_some, oD_some, oE_some, oS_eq, oT_true, oI_true, oI_false, pick_t, pick_f, un_not, oI_not, decide_not, toNat_sub1, toNat_add1, decide_true, decide_false, not_true, not_false_eq_true, Bool.not_true, Bool.not_false, Bool.not_not, oZ_b, oZ_i, oZ_s, oZ_l, slen_map, wr64, Int.toNat_natCast, Int.toNat_zero, ne_eq, bin_le, b_sle, bin_ge, bin_sge, bin_eq, b_snil, beq_4, ofc_encXStep, ofc0_encXStep, st_XStep, fld_XStep_kind_, fld_XStep_name_, fld_XStep_index_, fld_XStep_value_, prt_XStep_kind_, prt_XStep_name_, prt_XStep_index_, prt_XStep_value_, gtt_1, gff_1, gtf_1, gft_1, gvv_1, gnt_1, gnf_1, gtt_2, gff_2, gtf_2, gft_2, gvv_2, gnt_2, gnf_2, gtt_3, gff_3, gtf_3, gft_3, gvv_3, gnt_3, gnf_3])
  all_goals first
    | (unfold nameI; exact congrArg AV.b (decide_eq_true (by omega)).symm)
    | (unfold nameI; exact congrArg AV.b (decide_eq_false (by omega)).symm)
    | (unfold nameI; exact congrArg AV.b (decide_eq_decide.2 (by omega)))
theorem e93 {r : Int} {d : Nat} {σ : AS} {K : AV → AS → Prop} : oC T0 d 93 [.i .u8 r] σ K = K (.b (nameI r)) σ := (c93 r).eq d σ K
/-- Runes out of bytes. -/
theorem dec_lt {s : List UInt8} {j : Nat} (hj : j < s.length) (h : (s.getD j 0).toNat < 128) : Utf8.decode ⟨⟨s⟩⟩ j = ((s.getD j 0).toNat, 1) := by
  have e : ((⟨⟨s⟩⟩ : ByteArray).get! (j + 0)) = s.getD j 0 := by
    show (⟨s⟩ : Array UInt8)[j + 0]! = _
    simp [List.getD_eq_getElem?_getD, getElem!_def]
    cases s[j]? <;> rfl
  unfold Utf8.decode
  simp only [e]
  rw [if_pos h]
theorem dec_ge {s : List UInt8} {j : Nat} (h : 128 ≤ (s.getD j 0).toNat) : 128 ≤ (Utf8.decode ⟨⟨s⟩⟩ j).1 := by
  have e : ((⟨⟨s⟩⟩ : ByteArray).get! (j + 0)) = s.getD j 0 := by
    show (⟨s⟩ : Array UInt8)[j + 0]! = _
    simp [List.getD_eq_getElem?_getD, getElem!_def]
    cases s[j]? <;> rfl
  unfold Utf8.decode
  simp only [e]
  rw [if_neg (by omega)]
  split
  · split
    · assumption
    · simp [Utf8.runeError]
  · split
    · split
      · rename_i hq; simp only [Bool.and_eq_true, decide_eq_true_eq, ge_iff_le] at hq; simp only; omega
      · simp [Utf8.runeError]
    · split
      · split
        · rename_i hq; simp only [Bool.and_eq_true, decide_eq_true_eq, ge_iff_le] at hq; simp only; omega
        · simp [Utf8.runeError]
      · simp [Utf8.runeError]
theorem nameI_ge {r : Int} (h : 128 ≤ r) : nameI r = false := decide_eq_false (by omega)
theorem next_lt {h : Tr AB} {n id j : Nat} {s : List UInt8} (hg : h.get id = some (.siter s j)) (hj : j < s.length) (hc : (s.getD j 0).toNat < 128) : evNext ⟨h, n⟩ (.ptr id 0) = some (.tup [.b true, .i .i64 (j : Nat), .i .i32 ((s.getD j 0).toNat : Nat)], ⟨h.put id (some (.siter s (j + 1))), n⟩) := by
  simp only [evNext, hg, Nat.ble_eq_true_of_le (show j + 1 ≤ s.length from hj), dec_lt hj hc]
theorem next_ge {h : Tr AB} {n id j : Nat} {s : List UInt8} (hg : h.get id = some (.siter s j)) (hj : j < s.length) (hc : 128 ≤ (s.getD j 0).toNat) : ∃ r w : Nat, 128 ≤ r ∧ evNext ⟨h, n⟩ (.ptr id 0) = some (.tup [.b true, .i .i64 (j : Nat), .i .i32 (r : Nat)], ⟨h.put id (some (.siter s w)), n⟩) := by
  refine ⟨(Utf8.decode ⟨⟨s⟩⟩ j).1, j + (Utf8.decode ⟨⟨s⟩⟩ j).2, dec_ge hc, ?_⟩
  simp only [evNext, hg, Nat.ble_eq_true_of_le (show j + 1 ≤ s.length from hj)]
theorem next_no {h : Tr AB} {n id j : Nat} {s : List UInt8} (hg : h.get id = some (.siter s j)) (hj : s.length ≤ j) : evNext ⟨h, n⟩ (.ptr id 0) = some (.tup [.b false], ⟨h, n⟩) := by
  have : Nat.ble (j + 1) s.length = false := by
    cases q : Nat.ble (j + 1) s.length
    · rfl
    · have := Nat.le_of_ble_eq_true q; omega
  simp only [evNext, hg, this]
theorem pick_orn (c y : Bool) : evPick (.b !c) (some (.b true)) (some (cnd c (.b y))) = some (.b (!c || y)) := by cases c <;> rfl
theorem pick_andn (c y : Bool) : evPick (.b !c) (some (cnd (!c) (.b y))) (some (.b false)) = some (.b (!c && y)) := by cases c <;> rfl
theorem nest_and {l d : Nat} {c x y : Bool} {σ : AS} {K : AV → AS → Prop} : oG [l] (.b c) false (fun k : AV → AS → Prop => oV d (evPick (cnd (!c) (.b x)) (some (cnd (!c && x) (.b y))) (some (.b false))) fun v => k v σ) σ K = K (cnd (!c) (.b (x && y))) σ := by
  cases c <;> cases x <;> cases y <;> first | rfl | (simp [oG, cnd, evPick, oV, voidC])
theorem nest_andn {l d : Nat} {c x y : Bool} {σ : AS} {K : AV → AS → Prop} : oG [l] (.b (!c)) false (fun k : AV → AS → Prop => oV d (evPick (cnd c (.b x)) (some (cnd (c && x) (.b y))) (some (.b false))) fun v => k v σ) σ K = K (cnd c (.b (x && y))) σ := by
  cases c <;> cases x <;> cases y <;> first | rfl | (simp [oG, cnd, evPick, oV, voidC])
theorem nest_or {l d : Nat} {c x y : Bool} {σ : AS} {K : AV → AS → Prop} : oG [l] (.b c) true (fun k : AV → AS → Prop => oV d (evPick (cnd c (.b x)) (some (.b true)) (some (cnd (c && !x) (.b y)))) fun v => k v σ) σ K = K (cnd c (.b (x || y))) σ := by
  cases c <;> cases x <;> cases y <;> first | rfl | (simp [oG, cnd, evPick, oV, voidC])
theorem nest_orn {l d : Nat} {c x y : Bool} {σ : AS} {K : AV → AS → Prop} : oG [l] (.b (!c)) true (fun k : AV → AS → Prop => oV d (evPick (cnd (!c) (.b x)) (some (.b true)) (some (cnd (!c && !x) (.b y)))) fun v => k v σ) σ K = K (cnd (!c) (.b (x || y))) σ := by
  cases c <;> cases x <;> cases y <;> first | rfl | (simp [oG, cnd, evPick, oV, voidC])
theorem gct_1 {l0 : Nat} {x y : Bool} {body : (AV → AS → Prop) → Prop} {σ : AS} {K : AV → AS → Prop} : oG [l0] (cnd x (.b y)) true body σ K = oG [l0] (.b (x && y)) true body σ K := oG_cnd_t
theorem gcf_1 {l0 : Nat} {x y : Bool} {body : (AV → AS → Prop) → Prop} {σ : AS} {K : AV → AS → Prop} : oG [l0] (cnd x (.b y)) false body σ K = oG [l0] (.b (x && !y)) true body σ K := oG_cnd_f
theorem gct_2 {l0 l1 : Nat} {x y : Bool} {body : (AV → AV → AS → Prop) → Prop} {σ : AS} {K : AV → AV → AS → Prop} : oG [l0, l1] (cnd x (.b y)) true body σ K = oG [l0, l1] (.b (x && y)) true body σ K := oG_cnd_t
theorem gcf_2 {l0 l1 : Nat} {x y : Bool} {body : (AV → AV → AS → Prop) → Prop} {σ : AS} {K : AV → AV → AS → Prop} : oG [l0, l1] (cnd x (.b y)) false body σ K = oG [l0, l1] (.b (x && !y)) true body σ K := oG_cnd_f
theorem gct_3 {l0 l1 l2 : Nat} {x y : Bool} {body : (AV → AV → AV → AS → Prop) → Prop} {σ : AS} {K : AV → AV → AV → AS → Prop} : oG [l0, l1, l2] (cnd x (.b y)) true body σ K = oG [l0, l1, l2] (.b (x && y)) true body σ K := oG_cnd_t
theorem gcf_3 {l0 l1 l2 : Nat} {x y : Bool} {body : (AV → AV → AV → AS → Prop) → Prop} {σ : AS} {K : AV → AV → AV → AS → Prop} : oG [l0, l1, l2] (cnd x (.b y)) false body σ K = oG [l0, l1, l2] (.b (x && !y)) true body σ K := oG_cnd_f
theorem gct_4 {l0 l1 l2 l3 : Nat} {x y : Bool} {body : (AV → AV → AV → AV → AS → Prop) → Prop} {σ : AS} {K : AV → AV → AV → AV → AS → Prop} : oG [l0, l1, l2, l3] (cnd x (.b y)) true body σ K = oG [l0, l1, l2, l3] (.b (x && y)) true body σ K := oG_cnd_t
theorem gcf_4 {l0 l1 l2 l3 : Nat} {x y : Bool} {body : (AV → AV → AV → AV → AS → Prop) → Prop} {σ : AS} {K : AV → AV → AV → AV → AS → Prop} : oG [l0, l1, l2, l3] (cnd x (.b y)) false body σ K = oG [l0, l1, l2, l3] (.b (x && !y)) true body σ K := oG_cnd_f
theorem gct_5 {l0 l1 l2 l3 l4 : Nat} {x y : Bool} {body : (AV → AV → AV → AV → AV → AS → Prop) → Prop} {σ : AS} {K : AV → AV → AV → AV → AV → AS → Prop} : oG [l0, l1, l2, l3, l4] (cnd x (.b y)) true body σ K = oG [l0, l1, l2, l3, l4] (.b (x && y)) true body σ K := oG_cnd_t
theorem gcf_5 {l0 l1 l2 l3 l4 : Nat} {x y : Bool} {body : (AV → AV → AV → AV → AV → AS → Prop) → Prop} {σ : AS} {K : AV → AV → AV → AV → AV → AS → Prop} : oG [l0, l1, l2, l3, l4] (cnd x (.b y)) false body σ K = oG [l0, l1, l2, l3, l4] (.b (x && !y)) true body σ K := oG_cnd_f
theorem gct_6 {l0 l1 l2 l3 l4 l5 : Nat} {x y : Bool} {body : (AV → AV → AV → AV → AV → AV → AS → Prop) → Prop} {σ : AS} {K : AV → AV → AV → AV → AV → AV → AS → Prop} : oG [l0, l1, l2, l3, l4, l5] (cnd x (.b y)) true body σ K = oG [l0, l1, l2, l3, l4, l5] (.b (x && y)) true body σ K := oG_cnd_t
theorem gcf_6 {l0 l1 l2 l3 l4 l5 : Nat} {x y : Bool} {body : (AV → AV → AV → AV → AV → AV → AS → Prop) → Prop} {σ : AS} {K : AV → AV → AV → AV → AV → AV → AS → Prop} : oG [l0, l1, l2, l3, l4, l5] (cnd x (.b y)) false body σ K = oG [l0, l1, l2, l3, l4, l5] (.b (x && !y)) true body σ K := oG_cnd_f
theorem gct_7 {l0 l1 l2 l3 l4 l5 l6 : Nat} {x y : Bool} {body : (AV → AV → AV → AV → AV → AV → AV → AS → Prop) → Prop} {σ : AS} {K : AV → AV → AV → AV → AV → AV → AV → AS → Prop} : oG [l0, l1, l2, l3, l4, l5, l6] (cnd x (.b y)) true body σ K = oG [l0, l1, l2, l3, l4, l5, l6] (.b (x && y)) true body σ K := oG_cnd_t
theorem gcf_7 {l0 l1 l2 l3 l4 l5 l6 : Nat} {x y : Bool} {body : (AV → AV → AV → AV → AV → AV → AV → AS → Prop) → Prop} {σ : AS} {K : AV → AV → AV → AV → AV → AV → AV → AS → Prop} : oG [l0, l1, l2, l3, l4, l5, l6] (cnd x (.b y)) false body σ K = oG [l0, l1, l2, l3, l4, l5, l6] (.b (x && !y)) true body σ K := oG_cnd_f
theorem gct_8 {l0 l1 l2 l3 l4 l5 l6 l7 : Nat} {x y : Bool} {body : (AV → AV → AV → AV → AV → AV → AV → AV → AS → Prop) → Prop} {σ : AS} {K : AV → AV → AV → AV → AV → AV → AV → AV → AS → Prop} : oG [l0, l1, l2, l3, l4, l5, l6, l7] (cnd x (.b y)) true body σ K = oG [l0, l1, l2, l3, l4, l5, l6, l7] (.b (x && y)) true body σ K := oG_cnd_t
theorem gcf_8 {l0 l1 l2 l3 l4 l5 l6 l7 : Nat} {x y : Bool} {body : (AV → AV → AV → AV → AV → AV → AV → AV → AS → Prop) → Prop} {σ : AS} {K : AV → AV → AV → AV → AV → AV → AV → AV → AS → Prop} : oG [l0, l1, l2, l3, l4, l5, l6, l7] (cnd x (.b y)) false body σ K = oG [l0, l1, l2, l3, l4, l5, l6, l7] (.b (x && !y)) true body σ K := oG_cnd_f
theorem gct_9 {l0 l1 l2 l3 l4 l5 l6 l7 l8 : Nat} {x y : Bool} {body : (AV → AV → AV → AV → AV → AV → AV → AV → AV → AS → Prop) → Prop} {σ : AS} {K : AV → AV → AV → AV → AV → AV → AV → AV → AV → AS → Prop} : oG [l0, l1, l2, l3, l4, l5, l6, l7, l8] (cnd x (.b y)) true body σ K = oG [l0, l1, l2, l3, l4, l5, l6, l7, l8] (.b (x && y)) true body σ K := oG_cnd_t
theorem gcf_9 {l0 l1 l2 l3 l4 l5 l6 l7 l8 : Nat} {x y : Bool} {body : (AV → AV → AV → AV → AV → AV → AV → AV → AV → AS → Prop) → Prop} {σ : AS} {K : AV → AV → AV → AV → AV → AV → AV → AV → AV → AS → Prop} : oG [l0, l1, l2, l3, l4, l5, l6, l7, l8] (cnd x (.b y)) false body σ K = oG [l0, l1, l2, l3, l4, l5, l6, l7, l8] (.b (x && !y)) true body σ K := oG_cnd_f
theorem gct_10 {l0 l1 l2 l3 l4 l5 l6 l7 l8 l9 : Nat} {x y : Bool} {body : (AV → AV → AV → AV → AV → AV → AV → AV → AV → AV → AS → Prop) → Prop} {σ : AS} {K : AV → AV → AV → AV → AV → AV → AV → AV → AV → AV → AS → Prop} : oG [l0, l1, l2, l3, l4, l5, l6, l7, l8, l9] (cnd x (.b y)) true body σ K = oG [l0, l1, l2, l3, l4, l5, l6, l7, l8, l9] (.b (x && y)) true body σ K := oG_cnd_t
theorem gcf_10 {l0 l1 l2 l3 l4 l5 l6 l7 l8 l9 : Nat} {x y : Bool} {body : (AV → AV → AV → AV → AV → AV → AV → AV → AV → AV → AS → Prop) → Prop} {σ : AS} {K : AV → AV → AV → AV → AV → AV → AV → AV → AV → AV → AS → Prop} : oG [l0, l1, l2, l3, l4, l5, l6, l7, l8, l9] (cnd x (.b y)) false body σ K = oG [l0, l1, l2, l3, l4, l5, l6, l7, l8, l9] (.b (x && !y)) true body σ K := oG_cnd_f
theorem gct_11 {l0 l1 l2 l3 l4 l5 l6 l7 l8 l9 l10 : Nat} {x y : Bool} {body : (AV → AV → AV → AV → AV → AV → AV → AV → AV → AV → AV → AS → Prop) → Prop} {σ : AS} {K : AV → AV → AV → AV → AV → AV → AV → AV → AV → AV → AV → AS → Prop} : oG [l0, l1, l2, l3, l4, l5, l6, l7, l8, l9, l10] (cnd x (.b y)) true body σ K = oG [l0, l1, l2, l3, l4, l5, l6, l7, l8, l9, l10] (.b (x && y)) true body σ K := oG_cnd_t
theorem gcf_11 {l0 l1 l2 l3 l4 l5 l6 l7 l8 l9 l10 : Nat} {x y : Bool} {body : (AV → AV → AV → AV → AV → AV → AV → AV → AV → AV → AV → AS → Prop) → Prop} {σ : AS} {K : AV → AV → AV → AV → AV → AV → AV → AV → AV → AV → AV → AS → Prop} : oG [l0, l1, l2, l3, l4, l5, l6, l7, l8, l9, l10] (cnd x (.b y)) false body σ K = oG [l0, l1, l2, l3, l4, l5, l6, l7, l8, l9, l10] (.b (x && !y)) true body σ K := oG_cnd_f
theorem gct_12 {l0 l1 l2 l3 l4 l5 l6 l7 l8 l9 l10 l11 : Nat} {x y : Bool} {body : (AV → AV → AV → AV → AV → AV → AV → AV → AV → AV → AV → AV → AS → Prop) → Prop} {σ : AS} {K : AV → AV → AV → AV → AV → AV → AV → AV → AV → AV → AV → AV → AS → Prop} : oG [l0, l1, l2, l3, l4, l5, l6, l7, l8, l9, l10, l11] (cnd x (.b y)) true body σ K = oG [l0, l1, l2, l3, l4, l5, l6, l7, l8, l9, l10, l11] (.b (x && y)) true body σ K := oG_cnd_t
theorem gcf_12 {l0 l1 l2 l3 l4 l5 l6 l7 l8 l9 l10 l11 : Nat} {x y : Bool} {body : (AV → AV → AV → AV → AV → AV → AV → AV → AV → AV → AV → AV → AS → Prop) → Prop} {σ : AS} {K : AV → AV → AV → AV → AV → AV → AV → AV → AV → AV → AV → AV → AS → Prop} : oG [l0, l1, l2, l3, l4, l5, l6, l7, l8, l9, l10, l11] (cnd x (.b y)) false body σ K = oG [l0, l1, l2, l3, l4, l5, l6, l7, l8, l9, l10, l11] (.b (x && !y)) true body σ K := oG_cnd_f
theorem gct_13 {l0 l1 l2 l3 l4 l5 l6 l7 l8 l9 l10 l11 l12 : Nat} {x y : Bool} {body : (AV → AV → AV → AV → AV → AV → AV → AV → AV → AV → AV → AV → AV → AS → Prop) → Prop} {σ : AS} {K : AV → AV → AV → AV → AV → AV → AV → AV → AV → AV → AV → AV → AV → AS → Prop} : oG [l0, l1, l2, l3, l4, l5, l6, l7, l8, l9, l10, l11, l12] (cnd x (.b y)) true body σ K = oG [l0, l1, l2, l3, l4, l5, l6, l7, l8, l9, l10, l11, l12] (.b (x && y)) true body σ K := oG_cnd_t
theorem gcf_13 {l0 l1 l2 l3 l4 l5 l6 l7 l8 l9 l10 l11 l12 : Nat} {x y : Bool} {body : (AV → AV → AV → AV → AV → AV → AV → AV → AV → AV → AV → AV → AV → AS → Prop) → Prop} {σ : AS} {K : AV → AV → AV → AV → AV → AV → AV → AV → AV → AV → AV → AV → AV → AS → Prop} : oG [l0, l1, l2, l3, l4, l5, l6, l7, l8, l9, l10, l11, l12] (cnd x (.b y)) false body σ K = oG [l0, l1, l2, l3, l4, l5, l6, l7, l8, l9, l10, l11, l12] (.b (x && !y)) true body σ K := oG_cnd_f
theorem gct_14 {l0 l1 l2 l3 l4 l5 l6 l7 l8 l9 l10 l11 l12 l13 : Nat} {x y : Bool} {body : (AV → AV → AV → AV → AV → AV → AV → AV → AV → AV → AV → AV → AV → AV → AS → Prop) → Prop} {σ : AS} {K : AV → AV → AV → AV → AV → AV → AV → AV → AV → AV → AV → AV → AV → AV → AS → Prop} : oG [l0, l1, l2, l3, l4, l5, l6, l7, l8, l9, l10, l11, l12, l13] (cnd x (.b y)) true body σ K = oG [l0, l1, l2, l3, l4, l5, l6, l7, l8, l9, l10, l11, l12, l13] (.b (x && y)) true body σ K := oG_cnd_t
theorem gcf_14 {l0 l1 l2 l3 l4 l5 l6 l7 l8 l9 l10 l11 l12 l13 : Nat} {x y : Bool} {body : (AV → AV → AV → AV → AV → AV → AV → AV → AV → AV → AV → AV → AV → AV → AS → Prop) → Prop} {σ : AS} {K : AV → AV → AV → AV → AV → AV → AV → AV → AV → AV → AV → AV → AV → AV → AS → Prop} : oG [l0, l1, l2, l3, l4, l5, l6, l7, l8, l9, l10, l11, l12, l13] (cnd x (.b y)) false body σ K = oG [l0, l1, l2, l3, l4, l5, l6, l7, l8, l9, l10, l11, l12, l13] (.b (x && !y)) true body σ K := oG_cnd_f
theorem nest_andt {l d : Nat} {c x y : Bool} {σ : AS} {K : AV → AS → Prop} : oG [l] (.b c) true (fun k : AV → AS → Prop => oV d (evPick (cnd c (.b x)) (some (cnd (c && x) (.b y))) (some (.b false))) fun v => k v σ) σ K = K (cnd c (.b (x && y))) σ := by
  cases c <;> cases x <;> cases y <;> first | rfl | (simp [oG, cnd, evPick, oV, voidC])
theorem nest_orf {l d : Nat} {c x y : Bool} {σ : AS} {K : AV → AS → Prop} : oG [l] (.b c) false (fun k : AV → AS → Prop => oV d (evPick (cnd (!c) (.b x)) (some (.b true)) (some (cnd (!c && !x) (.b y)))) fun v => k v σ) σ K = K (cnd (!c) (.b (x || y))) σ := by
  cases c <;> cases x <;> cases y <;> first | rfl | (simp [oG, cnd, evPick, oV, voidC])
theorem nest_orx {l d : Nat} {c x y : Bool} {σ : AS} {K : AV → AS → Prop} : oG [l] (.b c) true (fun k : AV → AS → Prop => oV d (evPick (cnd c (.b (!x))) (some (.b true)) (some (cnd (c && x) (.b y)))) fun v => k v σ) σ K = K (cnd c (.b (!x || y))) σ := by
  cases c <;> cases x <;> cases y <;> first | rfl | (simp [oG, cnd, evPick, oV, voidC])
theorem nest_orfx {l d : Nat} {c x y : Bool} {σ : AS} {K : AV → AS → Prop} : oG [l] (.b c) false (fun k : AV → AS → Prop => oV d (evPick (cnd (!c) (.b (!x))) (some (.b true)) (some (cnd (!c && x) (.b y)))) fun v => k v σ) σ K = K (cnd (!c) (.b (!x || y))) σ := by
  cases c <;> cases x <;> cases y <;> first | rfl | (simp [oG, cnd, evPick, oV, voidC])
theorem ex0 (a : AV) (l : List AV) : evExtract 0 (.tup (a :: l)) = some a := rfl
theorem ex1 (a b : AV) (l : List AV) : evExtract 1 (.tup (a :: b :: l)) = some b := rfl
theorem ex2 (a b c : AV) (l : List AV) : evExtract 2 (.tup (a :: b :: c :: l)) = some c := rfl
theorem rng_9 (s : List UInt8) : evRange T0 9 (.s s) = some (.siter s 0, fun id => .ptr id 0) := by
  have e : T0.ty 9 = some .string := by kernel_rfl
  simp only [evRange, e]
end Go.Proofs.YtmfhmlhaofpeiaaGreatDoor.Ev
/- Valid names and texts, of the program and of the reference. -/
namespace Go.Proofs.YtmfhmlhaofpeiaaGreatDoor.Ev
open Go Go.RowKit
set_option linter.unusedSimpArgs false
set_option linter.unusedVariables false
set_option maxRecDepth 100000

theorem nm_no {s : List UInt8} {j : Nat} (hj : j < s.length) (h : nameI (s.getD j 0).toNat = false) : nmB s = false := by
  unfold nmB; rw [all_false_at (p := fun c : UInt8 => nameI c.toNat) (d := 0) hj h]; rfl
theorem tx_no {s : List UInt8} {j : Nat} (hj : j < s.length) (h : textI (s.getD j 0).toNat = false) : txB s = false := by
  unfold txB; rw [all_false_at (p := fun c : UInt8 => textI c.toNat) (d := 0) hj h]; rfl
theorem c60 (s : List UInt8) (hl : s.length ≤ 140737488351232) : R T0 60 [.s s] (.b (nmB s)) := by
  refine r60 _ rfl rfl ?_
  unfold w60
  dsimp only [prims]
  rw [rng_9, oE_some, oN_eq]
  refine loop2 (X := Nat) (fun _ => .s s) (fun _ => .ptr 0 0) (fun j σ => j ≤ s.length ∧ σ.h.get 0 = some (.siter s j) ∧ (s.take j).all (fun c => nameI c.toNat) = true) (fun j => s.length - j) ?_ 0 _ ⟨Nat.zero_le _, rfl, rfl⟩
  rintro R j ⟨h, n⟩ ⟨hj, hg, ha⟩ hR
  dsimp only at hg
  by_cases hj' : j < s.length
  · rcases Nat.lt_or_ge (s.getD j 0).toNat 128 with hc | hc
    · rw [next_lt hg hj' hc, oM_some]
      cases hq : nameI ((s.getD j 0).toNat : Nat)
      · simp (disch := first | omega | assumption | exact scell | exact clen_XStep | (simp only [clen_XStep]; omega)) only [Nat.zero_add, oV_some', oN_eq, oM_some, oH_some, oD_some, oE_some, oS_eq, oT_true, oI_true, oI_false, pick_t, pick_f, un_not, oI_not, decide_not, toNat_sub1, toNat_add1, decide_true, decide_false, not_true, not_false_eq_true, Bool.not_true, Bool.not_false, Bool.not_not, oZ_b, oZ_i, oZ_s, oZ_l, slen_map, wr64, Int.toNat_natCast, Int.toNat_zero, ne_eq, bin_le, b_sle, bin_ne, b_snnil, bne_4, ext_t, List.getElem?_cons_zero, List.getElem?_cons_succ, len_9, gtt_3, gff_3, gtf_3, gft_3, gvv_3, gnt_3, gnf_3, e66, hq, nm_no hj' hq]
      · simp (disch := first | omega | assumption | exact scell | exact clen_XStep | (simp only [clen_XStep]; omega)) only [Nat.zero_add, oV_some', oN_eq, oM_some, oH_some, oD_some, oE_some, oS_eq, oT_true, oI_true, oI_false, pick_t, pick_f, un_not, oI_not, decide_not, toNat_sub1, toNat_add1, decide_true, decide_false, not_true, not_false_eq_true, Bool.not_true, Bool.not_false, Bool.not_not, oZ_b, oZ_i, oZ_s, oZ_l, slen_map, wr64, Int.toNat_natCast, Int.toNat_zero, ne_eq, bin_le, b_sle, bin_ne, b_snnil, bne_4, ext_t, List.getElem?_cons_zero, List.getElem?_cons_succ, len_9, gtt_3, gff_3, gtf_3, gft_3, gvv_3, gnt_3, gnf_3, e66, hq]
        exact hR (j + 1) _ ⟨by omega, get_put_same _ _ _, all_take_succ (d := 0) ha hj' hq⟩ (by omega)
    · obtain ⟨r, w, hr, he⟩ := next_ge (n := n) hg hj' hc
      rw [he, oM_some]
      simp (disch := first | omega | assumption | exact scell | exact clen_XStep | (simp only [clen_XStep]; omega)) only [Nat.zero_add, oV_some', oN_eq, oM_some, oH_some, oD_some, oE_some, oS_eq, oT_true, oI_true, oI_false, pick_t, pick_f, un_not, oI_not, decide_not, toNat_sub1, toNat_add1, decide_true, decide_false, not_true, not_false_eq_true, Bool.not_true, Bool.not_false, Bool.not_not, oZ_b, oZ_i, oZ_s, oZ_l, slen_map, wr64, Int.toNat_natCast, Int.toNat_zero, ne_eq, bin_le, b_sle, bin_ne, b_snnil, bne_4, ext_t, List.getElem?_cons_zero, List.getElem?_cons_succ, len_9, gtt_3, gff_3, gtf_3, gft_3, gvv_3, gnt_3, gnf_3, e66, nameI_ge (show (128 : Int) ≤ (r : Nat) by omega)]
      rw [nm_no hj' (nameI_ge (by omega))]
  · rw [next_no hg (by omega), oM_some]
    have hall := all_end ha (by omega)
    simp (disch := first | omega | assumption | exact scell | exact clen_XStep | (simp only [clen_XStep]; omega)) only [Nat.zero_add, oV_some', oN_eq, oM_some, oH_some, oD_some, oE_some, oS_eq, oT_true, oI_true, oI_false, pick_t, pick_f, un_not, oI_not, decide_not, toNat_sub1, toNat_add1, decide_true, decide_false, not_true, not_false_eq_true, Bool.not_true, Bool.not_false, Bool.not_not, oZ_b, oZ_i, oZ_s, oZ_l, slen_map, wr64, Int.toNat_natCast, Int.toNat_zero, ne_eq, bin_le, b_sle, bin_ne, b_snnil, bne_4, ext_t, List.getElem?_cons_zero, List.getElem?_cons_succ, len_9, gtt_3, gff_3, gtf_3, gft_3, gvv_3, gnt_3, gnf_3, b_snnil, guard3t, guard3f, pick_and, pick_andn]
    rw [nmB, hall]
    have : (!decide (s.length = 0)) = decide (0 < s.length) := by
      by_cases q : s.length = 0 <;> simp [q, Nat.pos_iff_ne_zero]
    have q2 : ((s.length : Nat) : Int) ≤ 40 ↔ s.length ≤ 40 := by omega
    simp only [this, Bool.true_and, q2]
theorem e60 {s : List UInt8} (hl : s.length ≤ 140737488351232) {d : Nat} {σ : AS} {K : AV → AS → Prop} : oC T0 d 60 [.s s] σ K = K (.b (nmB s)) σ := (c60 s hl).eq d σ K
theorem c62 (s : List UInt8) (hl : s.length ≤ 140737488351232) : R T0 62 [.s s] (.b (nmB s)) := by
  refine r62 _ rfl rfl ?_
  unfold w62
  dsimp only [prims]
  refine loop2 (X := Nat) (fun _ => .s s) (fun j => .i .i64 (j : Nat)) (fun j σ => j ≤ s.length ∧ (s.take j).all (fun c => nameI c.toNat) = true) (fun j => s.length - j) ?_ 0 _ ⟨Nat.zero_le _, rfl⟩
  rintro R j σ ⟨hj, ha⟩ hR
  simp (disch := first | omega | assumption | exact scell | exact clen_XStep | (simp only [clen_XStep]; omega)) only [oV_some', len_9, bin_lt]
  refine oI_decd (fun h => ?_) (fun h => ?_)
  · have hj' : j < s.length := by omega
    cases hq : nameI ((s.getD j 0).toNat : Nat)
    · simp (disch := first | omega | assumption | exact scell | exact clen_XStep | (simp only [clen_XStep]; omega)) only [Nat.zero_add, oV_some', oN_eq, oM_some, oH_some, oD_some, oE_some, oS_eq, oT_true, oI_true, oI_false, pick_t, pick_f, un_not, oI_not, decide_not, toNat_sub1, toNat_add1, decide_true, decide_false, not_true, not_false_eq_true, Bool.not_true, Bool.not_false, Bool.not_not, oZ_b, oZ_i, oZ_s, oZ_l, slen_map, wr64, Int.toNat_natCast, Int.toNat_zero, ne_eq, bin_lt, bin_slt, bin_le, b_sle, bin_gt, b_sgt, bin_add, len_9, idx_9, ofc_encXStep, ofc0_encXStep, st_XStep, fld_XStep_kind_, fld_XStep_name_, fld_XStep_index_, fld_XStep_value_, prt_XStep_kind_, prt_XStep_name_, prt_XStep_index_, prt_XStep_value_, gtt_3, gff_3, gtf_3, gft_3, gvv_3, gnt_3, gnf_3, e93, hq, nm_no hj' hq, Int.toNat_natCast]
    · simp (disch := first | omega | assumption | exact scell | exact clen_XStep | (simp only [clen_XStep]; omega)) only [Nat.zero_add, oV_some', oN_eq, oM_some, oH_some, oD_some, oE_some, oS_eq, oT_true, oI_true, oI_false, pick_t, pick_f, un_not, oI_not, decide_not, toNat_sub1, toNat_add1, decide_true, decide_false, not_true, not_false_eq_true, Bool.not_true, Bool.not_false, Bool.not_not, oZ_b, oZ_i, oZ_s, oZ_l, slen_map, wr64, Int.toNat_natCast, Int.toNat_zero, ne_eq, bin_lt, bin_slt, bin_le, b_sle, bin_gt, b_sgt, bin_add, len_9, idx_9, ofc_encXStep, ofc0_encXStep, st_XStep, fld_XStep_kind_, fld_XStep_name_, fld_XStep_index_, fld_XStep_value_, prt_XStep_kind_, prt_XStep_name_, prt_XStep_index_, prt_XStep_value_, gtt_3, gff_3, gtf_3, gft_3, gvv_3, gnt_3, gnf_3, e93, hq, Int.toNat_natCast]
      exact hR (j + 1) _ ⟨by omega, all_take_succ (d := 0) ha hj' hq⟩ (by omega)
  · have hall := all_end ha (by omega)
    simp (disch := first | omega | assumption | exact scell | exact clen_XStep | (simp only [clen_XStep]; omega)) only [Nat.zero_add, oV_some', oN_eq, oM_some, oH_some, oD_some, oE_some, oS_eq, oT_true, oI_true, oI_false, pick_t, pick_f, un_not, oI_not, decide_not, toNat_sub1, toNat_add1, decide_true, decide_false, not_true, not_false_eq_true, Bool.not_true, Bool.not_false, Bool.not_not, oZ_b, oZ_i, oZ_s, oZ_l, slen_map, wr64, Int.toNat_natCast, Int.toNat_zero, ne_eq, bin_lt, bin_slt, bin_le, b_sle, bin_gt, b_sgt, bin_add, len_9, idx_9, ofc_encXStep, ofc0_encXStep, st_XStep, fld_XStep_kind_, fld_XStep_name_, fld_XStep_index_, fld_XStep_value_, prt_XStep_kind_, prt_XStep_name_, prt_XStep_index_, prt_XStep_value_, gtt_3, gff_3, gtf_3, gft_3, gvv_3, gnt_3, gnf_3, guard3t, pick_and]
    rw [nmB, hall]
    have q1 : (0 : Int) < (s.length : Nat) ↔ 0 < s.length := by omega
    have q2 : ((s.length : Nat) : Int) ≤ 40 ↔ s.length ≤ 40 := by omega
    simp only [Bool.true_and, q1, q2]
theorem e62 {s : List UInt8} (hl : s.length ≤ 140737488351232) {d : Nat} {σ : AS} {K : AV → AS → Prop} : oC T0 d 62 [.s s] σ K = K (.b (nmB s)) σ := (c62 s hl).eq d σ K
theorem c63 (s : List UInt8) (hl : s.length ≤ 140737488351232) : R T0 63 [.s s] (.b (txB s)) := by
  refine r63 _ rfl rfl ?_
  unfold w63
  dsimp only [prims]
  refine loop2 (X := Nat) (fun _ => .s s) (fun j => .i .i64 (j : Nat)) (fun j σ => j ≤ s.length ∧ (s.take j).all (fun c => textI c.toNat) = true) (fun j => s.length - j) ?_ 0 _ ⟨Nat.zero_le _, rfl⟩
  rintro R j σ ⟨hj, ha⟩ hR
  simp (disch := first | omega | assumption | exact scell | exact clen_XStep | (simp only [clen_XStep]; omega)) only [oV_some', len_9, bin_lt]
  refine oI_decd (fun h => ?_) (fun h => ?_)
  · have hj' : j < s.length := by omega
    generalize hc : (s.getD j 0).toNat = c
    have no : textI (c : Nat) = false → txB s = false := fun q => tx_no hj' (by rw [hc]; exact q)
    have yes : textI (c : Nat) = true → (s.take (j + 1)).all (fun c => textI c.toNat) = true := fun q => all_take_succ (d := 0) ha hj' (by rw [hc]; exact q)
    simp (disch := first | omega | assumption | exact scell | exact clen_XStep | (simp only [clen_XStep]; omega)) only [Nat.zero_add, oV_some', oN_eq, oM_some, oH_some, oD_some, oE_some, oS_eq, oT_true, oI_true, oI_false, pick_t, pick_f, un_not, oI_not, decide_not, toNat_sub1, toNat_add1, decide_true, decide_false, not_true, not_false_eq_true, Bool.not_true, Bool.not_false, Bool.not_not, oZ_b, oZ_i, oZ_s, oZ_l, slen_map, wr64, Int.toNat_natCast, Int.toNat_zero, ne_eq, bin_lt, bin_slt, bin_le, b_sle, bin_gt, b_sgt, bin_ne, b_snnil, bne_4, bin_add, len_9, idx_9, ofc_encXStep, ofc0_encXStep, st_XStep, fld_XStep_kind_, fld_XStep_name_, fld_XStep_index_, fld_XStep_value_, prt_XStep_kind_, prt_XStep_name_, prt_XStep_index_, prt_XStep_value_, gtt_1, gff_1, gtf_1, gft_1, gvv_1, gnt_1, gnf_1, gtt_4, gff_4, gtf_4, gft_4, gvv_4, gnt_4, gnf_4, gtt_5, gff_5, gtf_5, gft_5, gvv_5, gnt_5, gnf_5, hc, Int.toNat_natCast]
    repeat' ((first | with_reducible refine oI_decd (fun h => ?_) (fun h => ?_) | with_reducible refine gdt_1 (fun h => ?_) (fun h => ?_) | with_reducible refine gdt_4 (fun h => ?_) (fun h => ?_) | with_reducible refine gdt_5 (fun h => ?_) (fun h => ?_) | with_reducible refine gdf_1 (fun h => ?_) (fun h => ?_) | with_reducible refine gdf_4 (fun h => ?_) (fun h => ?_) | with_reducible refine gdf_5 (fun h => ?_) (fun h => ?_) | with_reducible refine gbt_1 (fun h => ?_) (fun h => ?_) | with_reducible refine gbt_4 (fun h => ?_) (fun h => ?_) | with_reducible refine gbt_5 (fun h => ?_) (fun h => ?_) | with_reducible refine gbf_1 (fun h => ?_) (fun h => ?_) | with_reducible refine gbf_4 (fun h => ?_) (fun h => ?_) | with_reducible refine gbf_5 (fun h => ?_) (fun h => ?_) | with_reducible refine oI_bool (fun h => ?_) (fun h => ?_)) <;> try simp (disch := first | omega | assumption | exact scell | exact clen_XStep | (simp only [clen_XStep]; omega)) only [h, Nat.zero_add, oV_some', oN_eq, oM_some, oH_some, oD_some, oE_some, oS_eq, oT_true, oI_true, oI_false, pick_t, pick_f, un_not, oI_not, decide_not, toNat_sub1, toNat_add1, decide_true, decide_false, not_true, not_false_eq_true, Bool.not_true, Bool.not_false, Bool.not_not, oZ_b, oZ_i, oZ_s, oZ_l, slen_map, wr64, Int.toNat_natCast, Int.toNat_zero, ne_eq, bin_lt, bin_slt, bin_le, b_sle, bin_gt, b_sgt, bin_ne, b_snnil, bne_4, bin_add, len_9, idx_9, ofc_encXStep, ofc0_encXStep, st_XStep, fld_XStep_kind_, fld_XStep_name_, fld_XStep_index_, fld_XStep_value_, prt_XStep_kind_, prt_XStep_name_, prt_XStep_index_, prt_XStep_value_, gtt_1, gff_1, gtf_1, gft_1, gvv_1, gnt_1, gnf_1, gtt_4, gff_4, gtf_4, gft_4, gvv_4, gnt_4, gnf_4, gtt_5, gff_5, gtf_5, gft_5, gvv_5, gnt_5, gnf_5, hc, Int.toNat_natCast])
    all_goals first
      | exact hR (j + 1) _ ⟨by omega, yes (decide_eq_true (by omega))⟩ (by omega)
      | rw [no (decide_eq_false (by omega))]
  · have hall := all_end ha (by omega)
    simp (disch := first | omega | assumption | exact scell | exact clen_XStep | (simp only [clen_XStep]; omega)) only [Nat.zero_add, oV_some', oN_eq, oM_some, oH_some, oD_some, oE_some, oS_eq, oT_true, oI_true, oI_false, pick_t, pick_f, un_not, oI_not, decide_not, toNat_sub1, toNat_add1, decide_true, decide_false, not_true, not_false_eq_true, Bool.not_true, Bool.not_false, Bool.not_not, oZ_b, oZ_i, oZ_s, oZ_l, slen_map, wr64, Int.toNat_natCast, Int.toNat_zero, ne_eq, bin_lt, bin_slt, bin_le, b_sle, bin_gt, b_sgt, bin_ne, b_snnil, bne_4, bin_add, len_9, idx_9, ofc_encXStep, ofc0_encXStep, st_XStep, fld_XStep_kind_, fld_XStep_name_, fld_XStep_index_, fld_XStep_value_, prt_XStep_kind_, prt_XStep_name_, prt_XStep_index_, prt_XStep_value_, gtt_1, gff_1, gtf_1, gft_1, gvv_1, gnt_1, gnf_1, gtt_4, gff_4, gtf_4, gft_4, gvv_4, gnt_4, gnf_4, gtt_5, gff_5, gtf_5, gft_5, gvv_5, gnt_5, gnf_5]
    rw [txB, hall]
    have q2 : ((s.length : Nat) : Int) ≤ 200 ↔ s.length ≤ 200 := by omega
    simp only [Bool.true_and, q2]
theorem e63 {s : List UInt8} (hl : s.length ≤ 140737488351232) {d : Nat} {σ : AS} {K : AV → AS → Prop} : oC T0 d 63 [.s s] σ K = K (.b (txB s)) σ := (c63 s hl).eq d σ K
theorem c119 (s : List UInt8) (hl : s.length ≤ 140737488351232) : R T0 119 [.s s] (.b (txB s)) := by
  refine r119 _ rfl rfl ?_
  unfold w119
  dsimp only [prims]
  simp (disch := first | omega | assumption | exact scell | exact clen_XStep | (simp only [clen_XStep]; omega)) only [oV_some', len_9]
  refine loop3 (X := Nat) (fun _ => .s s) (fun _ => .i .i64 (s.length : Nat)) (fun j => .i .i64 (j : Nat)) (fun j σ => j ≤ s.length ∧ (s.take j).all (fun c => textI c.toNat) = true) (fun j => s.length - j) ?_ 0 _ ⟨Nat.zero_le _, rfl⟩
  rintro R j σ ⟨hj, ha⟩ hR
  simp (disch := first | omega | assumption | exact scell | exact clen_XStep | (simp only [clen_XStep]; omega)) only [oV_some', bin_lt]
  refine oI_decd (fun h => ?_) (fun h => ?_)
  · have hj' : j < s.length := by omega
    generalize hc : (s.getD j 0).toNat = c
    have no : textI (c : Nat) = false → txB s = false := fun q => tx_no hj' (by rw [hc]; exact q)
    have yes : textI (c : Nat) = true → (s.take (j + 1)).all (fun c => textI c.toNat) = true := fun q => all_take_succ (d := 0) ha hj' (by rw [hc]; exact q)
    simp (disch := first | omega | assumption | exact scell | exact clen_XStep | (simp only [clen_XStep]; omega)) only [Nat.zero_add, oV_some', oN_eq, oM_some, oH_some, oD_some, oE_some, oS_eq, oT_true, oI_true, oI_false, pick_t, pick_f, un_not, oI_not, decide_not, toNat_sub1, toNat_add1, decide_true, decide_false, not_true, not_false_eq_true, Bool.not_true, Bool.not_false, Bool.not_not, oZ_b, oZ_i, oZ_s, oZ_l, slen_map, wr64, Int.toNat_natCast, Int.toNat_zero, ne_eq, bin_lt, bin_slt, bin_le, b_sle, bin_gt, b_sgt, bin_ne, b_snnil, bne_4, bin_add, len_9, idx_9, ofc_encXStep, ofc0_encXStep, st_XStep, fld_XStep_kind_, fld_XStep_name_, fld_XStep_index_, fld_XStep_value_, prt_XStep_kind_, prt_XStep_name_, prt_XStep_index_, prt_XStep_value_, gtt_1, gff_1, gtf_1, gft_1, gvv_1, gnt_1, gnf_1, gtt_4, gff_4, gtf_4, gft_4, gvv_4, gnt_4, gnf_4, gtt_5, gff_5, gtf_5, gft_5, gvv_5, gnt_5, gnf_5, hc, Int.toNat_natCast]
    repeat' ((first | with_reducible refine oI_decd (fun h => ?_) (fun h => ?_) | with_reducible refine gdt_1 (fun h => ?_) (fun h => ?_) | with_reducible refine gdt_4 (fun h => ?_) (fun h => ?_) | with_reducible refine gdt_5 (fun h => ?_) (fun h => ?_) | with_reducible refine gdf_1 (fun h => ?_) (fun h => ?_) | with_reducible refine gdf_4 (fun h => ?_) (fun h => ?_) | with_reducible refine gdf_5 (fun h => ?_) (fun h => ?_) | with_reducible refine gbt_1 (fun h => ?_) (fun h => ?_) | with_reducible refine gbt_4 (fun h => ?_) (fun h => ?_) | with_reducible refine gbt_5 (fun h => ?_) (fun h => ?_) | with_reducible refine gbf_1 (fun h => ?_) (fun h => ?_) | with_reducible refine gbf_4 (fun h => ?_) (fun h => ?_) | with_reducible refine gbf_5 (fun h => ?_) (fun h => ?_) | with_reducible refine oI_bool (fun h => ?_) (fun h => ?_)) <;> try simp (disch := first | omega | assumption | exact scell | exact clen_XStep | (simp only [clen_XStep]; omega)) only [h, Nat.zero_add, oV_some', oN_eq, oM_some, oH_some, oD_some, oE_some, oS_eq, oT_true, oI_true, oI_false, pick_t, pick_f, un_not, oI_not, decide_not, toNat_sub1, toNat_add1, decide_true, decide_false, not_true, not_false_eq_true, Bool.not_true, Bool.not_false, Bool.not_not, oZ_b, oZ_i, oZ_s, oZ_l, slen_map, wr64, Int.toNat_natCast, Int.toNat_zero, ne_eq, bin_lt, bin_slt, bin_le, b_sle, bin_gt, b_sgt, bin_ne, b_snnil, bne_4, bin_add, len_9, idx_9, ofc_encXStep, ofc0_encXStep, st_XStep, fld_XStep_kind_, fld_XStep_name_, fld_XStep_index_, fld_XStep_value_, prt_XStep_kind_, prt_XStep_name_, prt_XStep_index_, prt_XStep_value_, gtt_1, gff_1, gtf_1, gft_1, gvv_1, gnt_1, gnf_1, gtt_4, gff_4, gtf_4, gft_4, gvv_4, gnt_4, gnf_4, gtt_5, gff_5, gtf_5, gft_5, gvv_5, gnt_5, gnf_5, hc, Int.toNat_natCast])
    all_goals first
      | exact hR (j + 1) _ ⟨by omega, yes (decide_eq_true (by omega))⟩ (by omega)
      | rw [no (decide_eq_false (by omega))]
  · have hall := all_end ha (by omega)
    simp (disch := first | omega | assumption | exact scell | exact clen_XStep | (simp only [clen_XStep]; omega)) only [Nat.zero_add, oV_some', oN_eq, oM_some, oH_some, oD_some, oE_some, oS_eq, oT_true, oI_true, oI_false, pick_t, pick_f, un_not, oI_not, decide_not, toNat_sub1, toNat_add1, decide_true, decide_false, not_true, not_false_eq_true, Bool.not_true, Bool.not_false, Bool.not_not, oZ_b, oZ_i, oZ_s, oZ_l, slen_map, wr64, Int.toNat_natCast, Int.toNat_zero, ne_eq, bin_lt, bin_slt, bin_le, b_sle, bin_gt, b_sgt, bin_ne, b_snnil, bne_4, bin_add, len_9, idx_9, ofc_encXStep, ofc0_encXStep, st_XStep, fld_XStep_kind_, fld_XStep_name_, fld_XStep_index_, fld_XStep_value_, prt_XStep_kind_, prt_XStep_name_, prt_XStep_index_, prt_XStep_value_, gtt_1, gff_1, gtf_1, gft_1, gvv_1, gnt_1, gnf_1, gtt_4, gff_4, gtf_4, gft_4, gvv_4, gnt_4, gnf_4, gtt_5, gff_5, gtf_5, gft_5, gvv_5, gnt_5, gnf_5]
    rw [txB, hall]
    have q2 : ((s.length : Nat) : Int) ≤ 200 ↔ s.length ≤ 200 := by omega
    simp only [Bool.true_and, q2]
theorem e119 {s : List UInt8} (hl : s.length ≤ 140737488351232) {d : Nat} {σ : AS} {K : AV → AS → Prop} : oC T0 d 119 [.s s] σ K = K (.b (txB s)) σ := (c119 s hl).eq d σ K
end Go.Proofs.YtmfhmlhaofpeiaaGreatDoor.Ev
/- Valid names and texts, further. -/
namespace Go.Proofs.YtmfhmlhaofpeiaaGreatDoor.Ev
open Go Go.RowKit
set_option linter.unusedSimpArgs false
set_option linter.unusedVariables false
set_option maxRecDepth 100000

theorem c103 (s : List UInt8) (hl : s.length ≤ 140737488351232) : R T0 103 [.s s] (.b (nmB s)) := by
  refine r103 _ rfl rfl ?_
  unfold w103
  dsimp only [prims]
  simp (disch := first | omega | assumption | exact scell | exact clen_XStep | (simp only [clen_XStep]; omega)) only [oV_some', len_9]
  refine loop3 (X := Nat) (fun _ => .s s) (fun _ => .i .i64 (s.length : Nat)) (fun j => .i .i64 (j : Nat)) (fun j σ => j ≤ s.length ∧ (s.take j).all (fun c => nameI c.toNat) = true) (fun j => s.length - j) ?_ 0 _ ⟨Nat.zero_le _, rfl⟩
  rintro R j σ ⟨hj, ha⟩ hR
  simp (disch := first | omega | assumption | exact scell | exact clen_XStep | (simp only [clen_XStep]; omega)) only [oV_some', bin_lt]
  refine oI_decd (fun h => ?_) (fun h => ?_)
  · have hj' : j < s.length := by omega
    generalize hc : (s.getD j 0).toNat = c
    have no : nameI (c : Nat) = false → nmB s = false := fun q => nm_no hj' (by rw [hc]; exact q)
    have yes : nameI (c : Nat) = true → (s.take (j + 1)).all (fun c => nameI c.toNat) = true := fun q => all_take_succ (d := 0) ha hj' (by rw [hc]; exact q)
    simp (disch := first | omega | assumption | exact scell | exact clen_XStep | (simp only [clen_XStep]; omega)) only [Nat.zero_add, oV_some', oN_eq, oM_some, oH_some, oD_some, oE_some, oS_eq, oT_true, oI_true, oI_false, pick_t, pick_f, un_not, oI_not, decide_not, toNat_sub1, toNat_add1, decide_true, decide_false, not_true, not_false_eq_true, Bool.not_true, Bool.not_false, Bool.not_not, oZ_b, oZ_i, oZ_s, oZ_l, slen_map, wr64, Int.toNat_natCast, Int.toNat_zero, ne_eq, bin_lt, bin_slt, bin_le, b_sle, bin_ge, bin_sge, bin_eq, b_snil, beq_4, bin_add, len_9, idx_9, ofc_encXStep, ofc0_encXStep, st_XStep, fld_XStep_kind_, fld_XStep_name_, fld_XStep_index_, fld_XStep_value_, prt_XStep_kind_, prt_XStep_name_, prt_XStep_index_, prt_XStep_value_, gtt_1, gff_1, gtf_1, gft_1, gvv_1, gnt_1, gnf_1, gtt_2, gff_2, gtf_2, gft_2, gvv_2, gnt_2, gnf_2, gtt_3, gff_3, gtf_3, gft_3, gvv_3, gnt_3, gnf_3, hc, Int.toNat_natCast]
    repeat' ((first | with_reducible refine oI_decd (fun h => ?_) (fun h => ?_) | with_reducible refine gdt_1 (fun h => ?_) (fun h => ?_) | with_reducible refine gdt_2 (fun h => ?_) (fun h => ?_) | with_reducible refine gdt_3 (fun h => ?_) (fun h => ?_) | with_reducible refine gdf_1 (fun h => ?_) (fun h => ?_) | with_reducible refine gdf_2 (fun h => ?_) (fun h => ?_) | with_reducible refine gdf_3 (fun h => ?_) (fun h => ?_) | with_reducible refine gbt_1 (fun h => ?_) (fun h => ?_) | with_reducible refine gbt_2 (fun h => ?_) (fun h => ?_) | with_reducible refine gbt_3 (fun h => ?_) (fun h => ?_) | with_reducible refine gbf_1 (fun h => ?_) (fun h => ?_) | with_reducible refine gbf_2 (fun h => ?_) (fun h => ?_) | with_reducible refine gbf_3 (fun h => ?_) (fun h => ?_) | with_reducible refine oI_bool (fun h => ?_) (fun h => ?_)) <;> try simp (disch := first | omega | assumption | exact scell | exact clen_XStep | (simp only [clen_XStep]; omega)) only [h, Nat.zero_add, oV_some', oN_eq, oM_some, oH_some, oD_some, oE_some, oS_eq, oT_true, oI_true, oI_false, pick_t, pick_f, un_not, oI_not, decide_not, toNat_sub1, toNat_add1, decide_true, decide_false, not_true, not_false_eq_true, Bool.not_true, Bool.not_false, Bool.not_not, oZ_b, oZ_i, oZ_s, oZ_l, slen_map, wr64, Int.toNat_natCast, Int.toNat_zero, ne_eq, bin_lt, bin_slt, bin_le, b_sle, bin_ge, bin_sge, bin_eq, b_snil, beq_4, bin_add, len_9, idx_9, ofc_encXStep, ofc0_encXStep, st_XStep, fld_XStep_kind_, fld_XStep_name_, fld_XStep_index_, fld_XStep_value_, prt_XStep_kind_, prt_XStep_name_, prt_XStep_index_, prt_XStep_value_, gtt_1, gff_1, gtf_1, gft_1, gvv_1, gnt_1, gnf_1, gtt_2, gff_2, gtf_2, gft_2, gvv_2, gnt_2, gnf_2, gtt_3, gff_3, gtf_3, gft_3, gvv_3, gnt_3, gnf_3, hc, Int.toNat_natCast])
    all_goals first
      | exact hR (j + 1) _ ⟨by omega, yes (decide_eq_true (by omega))⟩ (by omega)
      | rw [no (decide_eq_false (by omega))]
  · have hall := all_end ha (by omega)
    simp (disch := first | omega | assumption | exact scell | exact clen_XStep | (simp only [clen_XStep]; omega)) only [Nat.zero_add, oV_some', oN_eq, oM_some, oH_some, oD_some, oE_some, oS_eq, oT_true, oI_true, oI_false, pick_t, pick_f, un_not, oI_not, decide_not, toNat_sub1, toNat_add1, decide_true, decide_false, not_true, not_false_eq_true, Bool.not_true, Bool.not_false, Bool.not_not, oZ_b, oZ_i, oZ_s, oZ_l, slen_map, wr64, Int.toNat_natCast, Int.toNat_zero, ne_eq, bin_lt, bin_slt, bin_le, b_sle, bin_ge, bin_sge, bin_eq, b_snil, beq_4, bin_add, len_9, idx_9, ofc_encXStep, ofc0_encXStep, st_XStep, fld_XStep_kind_, fld_XStep_name_, fld_XStep_index_, fld_XStep_value_, prt_XStep_kind_, prt_XStep_name_, prt_XStep_index_, prt_XStep_value_, gtt_1, gff_1, gtf_1, gft_1, gvv_1, gnt_1, gnf_1, gtt_2, gff_2, gtf_2, gft_2, gvv_2, gnt_2, gnf_2, gtt_3, gff_3, gtf_3, gft_3, gvv_3, gnt_3, gnf_3, guard3t, guard2t, guard3f, pick_and]
    rw [nmB, hall]
    have q1 : (1 : Int) ≤ (s.length : Nat) ↔ 0 < s.length := by omega
    have q2 : ((s.length : Nat) : Int) ≤ 40 ↔ s.length ≤ 40 := by omega
    simp only [Bool.true_and, q1, q2]
theorem e103 {s : List UInt8} (hl : s.length ≤ 140737488351232) {d : Nat} {σ : AS} {K : AV → AS → Prop} : oC T0 d 103 [.s s] σ K = K (.b (nmB s)) σ := (c103 s hl).eq d σ K
theorem c92 (s : List UInt8) (hl : s.length ≤ 140737488351232) : R T0 92 [.s s] (.b (nmB s)) := by
  refine r92 _ rfl rfl ?_
  unfold w92
  dsimp only [prims]
  refine loop2 (X := Nat) (fun _ => .s s) (fun j => .i .i64 (j : Nat)) (fun j σ => j ≤ s.length ∧ (s.take j).all (fun c => nameI c.toNat) = true) (fun j => s.length - j) ?_ 0 _ ⟨Nat.zero_le _, rfl⟩
  rintro R j σ ⟨hj, ha⟩ hR
  simp (disch := first | omega | assumption | exact scell | exact clen_XStep | (simp only [clen_XStep]; omega)) only [oV_some', len_9, bin_lt]
  refine oI_decd (fun h => ?_) (fun h => ?_)
  · have hj' : j < s.length := by omega
    generalize hc : (s.getD j 0).toNat = c
    have no : nameI (c : Nat) = false → nmB s = false := fun q => nm_no hj' (by rw [hc]; exact q)
    have yes : nameI (c : Nat) = true → (s.take (j + 1)).all (fun c => nameI c.toNat) = true := fun q => all_take_succ (d := 0) ha hj' (by rw [hc]; exact q)
    simp (disch := first | omega | assumption | exact scell | exact clen_XStep | (simp only [clen_XStep]; omega)) only [Nat.zero_add, oV_some', oN_eq, oM_some, oH_some, oD_some, oE_some, oS_eq, oT_true, oI_true, oI_false, pick_t, pick_f, un_not, oI_not, decide_not, toNat_sub1, toNat_add1, decide_true, decide_false, not_true, not_false_eq_true, Bool.not_true, Bool.not_false, Bool.not_not, oZ_b, oZ_i, oZ_s, oZ_l, slen_map, wr64, Int.toNat_natCast, Int.toNat_zero, ne_eq, bin_lt, bin_slt, bin_le, b_sle, bin_ge, bin_sge, bin_ne, b_snnil, bne_4, bin_add, len_9, idx_9, ofc_encXStep, ofc0_encXStep, st_XStep, fld_XStep_kind_, fld_XStep_name_, fld_XStep_index_, fld_XStep_value_, prt_XStep_kind_, prt_XStep_name_, prt_XStep_index_, prt_XStep_value_, gtt_1, gff_1, gtf_1, gft_1, gvv_1, gnt_1, gnf_1, gtt_2, gff_2, gtf_2, gft_2, gvv_2, gnt_2, gnf_2, gtt_3, gff_3, gtf_3, gft_3, gvv_3, gnt_3, gnf_3, hc, Int.toNat_natCast]
    repeat' ((first | with_reducible refine oI_decd (fun h => ?_) (fun h => ?_) | with_reducible refine gdt_1 (fun h => ?_) (fun h => ?_) | with_reducible refine gdt_2 (fun h => ?_) (fun h => ?_) | with_reducible refine gdt_3 (fun h => ?_) (fun h => ?_) | with_reducible refine gdf_1 (fun h => ?_) (fun h => ?_) | with_reducible refine gdf_2 (fun h => ?_) (fun h => ?_) | with_reducible refine gdf_3 (fun h => ?_) (fun h => ?_) | with_reducible refine gbt_1 (fun h => ?_) (fun h => ?_) | with_reducible refine gbt_2 (fun h => ?_) (fun h => ?_) | with_reducible refine gbt_3 (fun h => ?_) (fun h => ?_) | with_reducible refine gbf_1 (fun h => ?_) (fun h => ?_) | with_reducible refine gbf_2 (fun h => ?_) (fun h => ?_) | with_reducible refine gbf_3 (fun h => ?_) (fun h => ?_) | with_reducible refine oI_bool (fun h => ?_) (fun h => ?_)) <;> try simp (disch := first | omega | assumption | exact scell | exact clen_XStep | (simp only [clen_XStep]; omega)) only [h, Nat.zero_add, oV_some', oN_eq, oM_some, oH_some, oD_some, oE_some, oS_eq, oT_true, oI_true, oI_false, pick_t, pick_f, un_not, oI_not, decide_not, toNat_sub1, toNat_add1, decide_true, decide_false, not_true, not_false_eq_true, Bool.not_true, Bool.not_false, Bool.not_not, oZ_b, oZ_i, oZ_s, oZ_l, slen_map, wr64, Int.toNat_natCast, Int.toNat_zero, ne_eq, bin_lt, bin_slt, bin_le, b_sle, bin_ge, bin_sge, bin_ne, b_snnil, bne_4, bin_add, len_9, idx_9, ofc_encXStep, ofc0_encXStep, st_XStep, fld_XStep_kind_, fld_XStep_name_, fld_XStep_index_, fld_XStep_value_, prt_XStep_kind_, prt_XStep_name_, prt_XStep_index_, prt_XStep_value_, gtt_1, gff_1, gtf_1, gft_1, gvv_1, gnt_1, gnf_1, gtt_2, gff_2, gtf_2, gft_2, gvv_2, gnt_2, gnf_2, gtt_3, gff_3, gtf_3, gft_3, gvv_3, gnt_3, gnf_3, hc, Int.toNat_natCast])
    all_goals first
      | exact hR (j + 1) _ ⟨by omega, yes (decide_eq_true (by omega))⟩ (by omega)
      | rw [no (decide_eq_false (by omega))]
  · have hall := all_end ha (by omega)
    simp (disch := first | omega | assumption | exact scell | exact clen_XStep | (simp only [clen_XStep]; omega)) only [Nat.zero_add, oV_some', oN_eq, oM_some, oH_some, oD_some, oE_some, oS_eq, oT_true, oI_true, oI_false, pick_t, pick_f, un_not, oI_not, decide_not, toNat_sub1, toNat_add1, decide_true, decide_false, not_true, not_false_eq_true, Bool.not_true, Bool.not_false, Bool.not_not, oZ_b, oZ_i, oZ_s, oZ_l, slen_map, wr64, Int.toNat_natCast, Int.toNat_zero, ne_eq, bin_lt, bin_slt, bin_le, b_sle, bin_ge, bin_sge, bin_ne, b_snnil, bne_4, bin_add, len_9, idx_9, ofc_encXStep, ofc0_encXStep, st_XStep, fld_XStep_kind_, fld_XStep_name_, fld_XStep_index_, fld_XStep_value_, prt_XStep_kind_, prt_XStep_name_, prt_XStep_index_, prt_XStep_value_, gtt_1, gff_1, gtf_1, gft_1, gvv_1, gnt_1, gnf_1, gtt_2, gff_2, gtf_2, gft_2, gvv_2, gnt_2, gnf_2, gtt_3, gff_3, gtf_3, gft_3, gvv_3, gnt_3, gnf_3, guard3t, guard2t, guard3f, pick_and]
    rw [nmB, hall]
    have q1 : (1 : Int) ≤ (s.length : Nat) ↔ 0 < s.length := by omega
    have q2 : ((s.length : Nat) : Int) ≤ 40 ↔ s.length ≤ 40 := by omega
    simp only [Bool.true_and, q1, q2]
theorem e92 {s : List UInt8} (hl : s.length ≤ 140737488351232) {d : Nat} {σ : AS} {K : AV → AS → Prop} : oC T0 d 92 [.s s] σ K = K (.b (nmB s)) σ := (c92 s hl).eq d σ K
end Go.Proofs.YtmfhmlhaofpeiaaGreatDoor.Ev
/- The tree of values: how the evaluator sees it, and its reading. -/
namespace Go.Proofs.YtmfhmlhaofpeiaaGreatDoor.Ev
open Go Go.RowKit
set_option linter.unusedSimpArgs false
set_option linter.unusedVariables false
set_option maxRecDepth 100000

mutual
inductive Val where
  | mk (kind n : Int) (s : List UInt8) (list : List Val) (fields : List Fld)
inductive Fld where
  | mk (name : List UInt8) (v : Val)
end
def Val.kind : Val → Int | .mk k _ _ _ _ => k
def Val.n : Val → Int | .mk _ n _ _ _ => n
def Val.s : Val → List UInt8 | .mk _ _ s _ _ => s
def Val.list : Val → List Val | .mk _ _ _ l _ => l
def Val.fields : Val → List Fld | .mk _ _ _ _ f => f
def Fld.name : Fld → List UInt8 | .mk n _ => n
def Fld.v : Fld → Val | .mk _ v => v
instance : Inhabited Val := ⟨.mk 0 0 [] [] []⟩
instance : Inhabited Fld := ⟨.mk [] default⟩
mutual
def encV : Val → AV
  | .mk k n s l fs => .agg [.i .i64 k, .i .i64 n, .s s, .lst (encVs l), .lst (encFs fs)]
def encF : Fld → AV
  | .mk nm v => .agg (.s nm :: (encV v).cells)
def encVs : List Val → List AV
  | [] => []
  | v :: vs => encV v :: encVs vs
def encFs : List Fld → List AV
  | [] => []
  | f :: fs => encF f :: encFs fs
end
theorem encVs_eq (l : List Val) : encVs l = l.map encV := by
  induction l with
  | nil => rw [encVs]; rfl
  | cons v vs ih => rw [encVs, ih]; rfl
theorem encFs_eq (l : List Fld) : encFs l = l.map encF := by
  induction l with
  | nil => rw [encFs]; rfl
  | cons v vs ih => rw [encFs, ih]; rfl
theorem encV_eq (v : Val) : encV v = .agg [.i .i64 v.kind, .i .i64 v.n, .s v.s, .lst (v.list.map encV), .lst (v.fields.map encF)] := by
  cases v; rw [encV, encVs_eq, encFs_eq]; rfl
theorem encF_eq (f : Fld) : encF f = .agg (.s f.name :: (encV f.v).cells) := by
  cases f; rw [encF]; rfl
mutual
inductive okV : Val → Prop where
  | mk {k n : Int} {s : List UInt8} {l : List Val} {fs : List Fld} : (Lit.int .i64 k).wf = true → (Lit.int .i64 n).wf = true → s.length ≤ 140737488351232 → l.length ≤ 140737488351232 → fs.length ≤ 140737488351232 → (∀ x ∈ l, okV x) → (∀ f ∈ fs, okF f) → okV (.mk k n s l fs)
inductive okF : Fld → Prop where
  | mk {nm : List UInt8} {v : Val} : nm.length ≤ 140737488351232 → okV v → okF (.mk nm v)
end
theorem clen_V (v : Val) : (encV v).cells.length = 5 := by rw [encV_eq]; rfl
theorem clen_F (f : Fld) : (encF f).cells.length = 6 := by rw [encF_eq, encV_eq]; rfl
theorem fld_V_kind (v : Val) : ofCells T0 3 ((encV v).cells.drop 0) = some (.i .i64 v.kind) := by rw [encV_eq]; exact ofc_3 _ _
theorem fld_V_n (v : Val) : ofCells T0 3 ((encV v).cells.drop 1) = some (.i .i64 v.n) := by rw [encV_eq]; exact ofc_3 _ _
theorem fld_V_s (v : Val) : ofCells T0 9 ((encV v).cells.drop 2) = some (.s v.s) := by rw [encV_eq]; exact ofc_9 _ _
theorem fld_V_list (v : Val) : ofCells T0 32 ((encV v).cells.drop 3) = some (.lst (v.list.map encV)) := by rw [encV_eq]; exact ofc_32 _ _
theorem fld_V_fields (v : Val) : ofCells T0 33 ((encV v).cells.drop 4) = some (.lst (v.fields.map encF)) := by rw [encV_eq]; exact ofc_33 _ _
theorem ofc_encV (v : Val) : ofCells T0 35 (encV v).cells = some (encV v) := by rw [encV_eq, ofc_35]; rfl
theorem ofc0_encV (v : Val) : ofCells T0 35 ((encV v).cells.drop 0) = some (encV v) := ofc_encV v
theorem fld_F_name (f : Fld) : ofCells T0 9 ((encF f).cells.drop 0) = some (.s f.name) := by rw [encF_eq]; exact ofc_9 _ _
theorem fld_F_v (f : Fld) : ofCells T0 35 ((encF f).cells.drop 1) = some (encV f.v) := by rw [encF_eq]; exact ofc_encV f.v
theorem size_list (v : Val) {x : Val} (h : x ∈ v.list) : SizeOf.sizeOf x < SizeOf.sizeOf v := by
  obtain ⟨k, n, s, l, fs⟩ := v
  have := List.sizeOf_lt_of_mem (show x ∈ l from h)
  simp only [Val.mk.sizeOf_spec]; omega
theorem size_fields (v : Val) {f : Fld} (h : f ∈ v.fields) : SizeOf.sizeOf f.v < SizeOf.sizeOf v := by
  obtain ⟨k, n, s, l, fs⟩ := v
  have := List.sizeOf_lt_of_mem (show f ∈ fs from h)
  obtain ⟨nm, w⟩ := f
  simp only [Val.mk.sizeOf_spec, Fld.mk.sizeOf_spec, Fld.v] at this ⊢; omega
theorem okV_list {v : Val} (h : okV v) : v.s.length ≤ 140737488351232 ∧ v.list.length ≤ 140737488351232 ∧ v.fields.length ≤ 140737488351232 ∧ (∀ x ∈ v.list, okV x) ∧ (∀ f ∈ v.fields, okF f) := by
  cases h with
  | mk h1 h2 h3 h4 h5 h6 h7 => exact ⟨h3, h4, h5, h6, h7⟩
theorem okF_v {f : Fld} (h : okF f) : f.name.length ≤ 140737488351232 ∧ okV f.v := by
  cases h with
  | mk h1 h2 => exact ⟨h1, h2⟩
theorem leafs_V (v : Val) : allLeaf (encV v).cells = true := by rw [encV_eq]; rfl
theorem leafs_F (f : Fld) : allLeaf (encF f).cells = true := by rw [encF_eq, encV_eq]; rfl
theorem free_V (v : Val) : (encV v).idfree = true := by rw [encV_eq]; rfl
theorem norm_V (v : Val) : (encV v).norm = encV v := by rw [encV_eq]; rfl
theorem ofc_encF (f : Fld) : ofCells T0 52 (encF f).cells = some (encF f) := by rw [encF_eq, encV_eq, ofc_52]; rfl
theorem ofc0_encF (f : Fld) : ofCells T0 52 ((encF f).cells.drop 0) = some (encF f) := ofc_encF f
theorem st_V {h : Tr AB} {id e : Nat} {g : Bool} {cs : List AV} (v : Val) (hc : cs.length = 5) : evStore T0 (h.put id (some (.cells cs e g))) 35 (.ptr id 0) (encV v) = some ((h.put id (some (.cells cs e g))).put id (some (.cells (encV v).cells e g))) := store_all sz_35 (clen_V v) hc (leafs_V v)
theorem st_F {h : Tr AB} {id e : Nat} {g : Bool} {cs : List AV} (v : Fld) (hc : cs.length = 6) : evStore T0 (h.put id (some (.cells cs e g))) 52 (.ptr id 0) (encF v) = some ((h.put id (some (.cells cs e g))).put id (some (.cells (encF v).cells e g))) := store_all sz_52 (clen_F v) hc (leafs_F v)
theorem st_V0 {h : Tr AB} {id e : Nat} {g : Bool} (v : Val) : evStore T0 (h.put id (some (.cells [.i .i64 0, .i .i64 0, .s [], .nilz true, .nilz true] e g))) 35 (.ptr id 0) (encV v) = some ((h.put id (some (.cells [.i .i64 0, .i .i64 0, .s [], .nilz true, .nilz true] e g))).put id (some (.cells (encV v).cells e g))) := st_V v rfl
theorem st_F0 {h : Tr AB} {id e : Nat} {g : Bool} (v : Fld) : evStore T0 (h.put id (some (.cells [.s [], .i .i64 0, .i .i64 0, .s [], .nilz true, .nilz true] e g))) 52 (.ptr id 0) (encF v) = some ((h.put id (some (.cells [.s [], .i .i64 0, .i .i64 0, .s [], .nilz true, .nilz true] e g))).put id (some (.cells (encF v).cells e g))) := st_F v rfl
theorem oZ_V {v : Val} {σ : AS} {K : AV → Prop} : oZ T0 σ (encV v) K = K (encV v) := by rw [oZ_free (free_V v), norm_V]
end Go.Proofs.YtmfhmlhaofpeiaaGreatDoor.Ev
/- Valid values. -/
namespace Go.Proofs.YtmfhmlhaofpeiaaGreatDoor.Ev
open Go Go.RowKit
set_option linter.unusedSimpArgs false
set_option linter.unusedVariables false
set_option maxRecDepth 100000

def scB (v : Val) : Bool := if v.kind = 1 then decide (v.s.length = 0) && (decide (v.n = 0) || decide (v.n = 1)) else if v.kind = 2 then decide (v.s.length = 0) && decide (-1000000000000000 ≤ v.n) && decide (v.n ≤ 1000000000000000)
  else if v.kind = 3 then decide (v.n = 0) && txB v.s else if v.kind = 0 ∨ v.kind = 4 ∨ v.kind = 5 then decide (v.n = 0) && decide (v.s.length = 0) else false
theorem idf_V1 (v : Val) : AV.idfree.idfrees [encV v] = true := by rw [encV_eq]; rfl
theorem nrm_V1 (v : Val) : AV.norm.norms [encV v] = [encV v] := by rw [encV_eq]; rfl
theorem idf_V2 (v : Val) (n : Int) : AV.idfree.idfrees [encV v, .i .i64 n] = true := by rw [encV_eq]; rfl
theorem nrm_V2 (v : Val) (n : Int) : AV.norm.norms [encV v, .i .i64 n] = [encV v, .i .i64 n] := by rw [encV_eq]; rfl
theorem c102 (v : Val) (ov : okV v) : R T0 102 [encV v] (.b (scB v)) := by
  have hs := (okV_list ov).1
  refine r102 _ (idf_V1 v) (nrm_V1 v) ?_
  unfold w102
  dsimp only [prims]
  simp (disch := first | assumption | exact clen_V | exact clen_F | (simp only [clen_V, clen_F]; omega) | omega | assumption | exact scell | exact clen_XStep | (simp only [clen_XStep]; omega)) only [Nat.zero_add, oV_some', oN_eq, oM_some, oH_some, oD_some, oE_some, oS_eq, oT_true, oI_true, oI_false, pick_t, pick_f, un_not, oI_not, decide_not, toNat_sub1, toNat_add1, decide_true, decide_false, not_true, not_false_eq_true, Bool.not_true, Bool.not_false, Bool.not_not, oZ_b, oZ_i, oZ_s, oZ_l, slen_map, wr64, Int.toNat_natCast, Int.toNat_zero, ne_eq, bin_le, b_sle, bin_ge, bin_sge, bin_eq, b_snil, beq_4, load_get, loadB_some, get_put_same, get_put_ne, ofc_s, load_i, off_i, off_p, ofc_encXStep, ofc0_encXStep, st_XStep, fld_XStep_kind_, fld_XStep_name_, fld_XStep_index_, fld_XStep_value_, prt_XStep_kind_, prt_XStep_name_, prt_XStep_index_, prt_XStep_value_, join2_eq, gtt_1, gff_1, gtf_1, gft_1, gvv_1, gnt_1, gnf_1, gtt_3, gff_3, gtf_3, gft_3, gvv_3, gnt_3, gnf_3, gtt_4, gff_4, gtf_4, gft_4, gvv_4, gnt_4, gnf_4, fld_V_kind, fld_V_n, fld_V_s, fld_V_list, fld_V_fields, ofc_encV, ofc0_encV, fld_F_name, fld_F_v, ofc_encF, ofc0_encF, st_V0, st_F0, len_32, len_33, ia_32, ia_33, e119 hs]
  repeat' ((first | with_reducible refine oI_decd (fun h => ?_) (fun h => ?_) | with_reducible refine gdt_1 (fun h => ?_) (fun h => ?_) | with_reducible refine gdt_3 (fun h => ?_) (fun h => ?_) | with_reducible refine gdt_4 (fun h => ?_) (fun h => ?_) | with_reducible refine gdf_1 (fun h => ?_) (fun h => ?_) | with_reducible refine gdf_3 (fun h => ?_) (fun h => ?_) | with_reducible refine gdf_4 (fun h => ?_) (fun h => ?_) | with_reducible refine gbt_1 (fun h => ?_) (fun h => ?_) | with_reducible refine gbt_3 (fun h => ?_) (fun h => ?_) | with_reducible refine gbt_4 (fun h => ?_) (fun h => ?_) | with_reducible refine gbf_1 (fun h => ?_) (fun h => ?_) | with_reducible refine gbf_3 (fun h => ?_) (fun h => ?_) | with_reducible refine gbf_4 (fun h => ?_) (fun h => ?_) | with_reducible refine oI_bool (fun h => ?_) (fun h => ?_)) <;> try simp (disch := first | assumption | exact clen_V | exact clen_F | (simp only [clen_V, clen_F]; omega) | omega | assumption | exact scell | exact clen_XStep | (simp only [clen_XStep]; omega)) only [h, Nat.zero_add, oV_some', oN_eq, oM_some, oH_some, oD_some, oE_some, oS_eq, oT_true, oI_true, oI_false, pick_t, pick_f, un_not, oI_not, decide_not, toNat_sub1, toNat_add1, decide_true, decide_false, not_true, not_false_eq_true, Bool.not_true, Bool.not_false, Bool.not_not, oZ_b, oZ_i, oZ_s, oZ_l, slen_map, wr64, Int.toNat_natCast, Int.toNat_zero, ne_eq, bin_le, b_sle, bin_ge, bin_sge, bin_eq, b_snil, beq_4, load_get, loadB_some, get_put_same, get_put_ne, ofc_s, load_i, off_i, off_p, ofc_encXStep, ofc0_encXStep, st_XStep, fld_XStep_kind_, fld_XStep_name_, fld_XStep_index_, fld_XStep_value_, prt_XStep_kind_, prt_XStep_name_, prt_XStep_index_, prt_XStep_value_, join2_eq, gtt_1, gff_1, gtf_1, gft_1, gvv_1, gnt_1, gnf_1, gtt_3, gff_3, gtf_3, gft_3, gvv_3, gnt_3, gnf_3, gtt_4, gff_4, gtf_4, gft_4, gvv_4, gnt_4, gnf_4, fld_V_kind, fld_V_n, fld_V_s, fld_V_list, fld_V_fields, ofc_encV, ofc0_encV, fld_F_name, fld_F_v, ofc_encF, ofc0_encF, st_V0, st_F0, len_32, len_33, ia_32, ia_33, e119 hs])
  all_goals first | (simp_all [scB]; done) | (simp_all [scB]; omega)
theorem e102 {v : Val} (ov : okV v) {d : Nat} {σ : AS} {K : AV → AS → Prop} : oC T0 d 102 [encV v] σ K = K (.b (scB v)) σ := (c102 v ov).eq d σ K
/-- The fields' names are in order. -/
def ordB (fs : List Fld) (i : Nat) : Bool := decide (i = 0) || Op.bytesLess (fs.getD (i - 1) default).name (fs.getD i default).name
def headB (v : Val) : Bool := scB v && !(!decide (v.kind = 4) && decide (0 < v.list.length)) && !(!decide (v.kind = 5) && decide (0 < v.fields.length)) && decide (v.list.length ≤ 64) && decide (v.fields.length ≤ 64)
def validL : Nat → Val → Bool
  | 0, _ => false
  | k + 1, v => headB v && v.list.all (validL k) && (List.range v.fields.length).all (fun i => nmB (v.fields.getD i default).name && ordB v.fields i && validL k (v.fields.getD i default).v)
theorem range_succ_all {p : Nat → Bool} {j : Nat} (h : (List.range j).all p = true) (hp : p j = true) : (List.range (j + 1)).all p = true := by
  rw [List.range_succ, List.all_append, h]; simpa using hp
theorem range_false {p : Nat → Bool} {n j : Nat} (hj : j < n) (hp : p j = false) : (List.range n).all p = false := by
  rw [List.all_eq_false]
  exact ⟨j, List.mem_range.2 hj, by simpa using hp⟩
theorem head_eq (v : Val) : (!scB v || !decide (v.kind = 4) && decide ((0 : Int) < (v.list.length : Nat)) || !decide (v.kind = 5) && decide ((0 : Int) < (v.fields.length : Nat)) || decide ((64 : Int) < (v.list.length : Nat)) || decide ((64 : Int) < (v.fields.length : Nat))) = !headB v := by
  have q1 : (0 : Int) < (v.list.length : Nat) ↔ 0 < v.list.length := by omega
  have q2 : (0 : Int) < (v.fields.length : Nat) ↔ 0 < v.fields.length := by omega
  have q3 : (64 : Int) < (v.list.length : Nat) ↔ ¬ v.list.length ≤ 64 := by omega
  have q4 : (64 : Int) < (v.fields.length : Nat) ↔ ¬ v.fields.length ≤ 64 := by omega
  unfold headB
  simp only [q1, q2, q3, q4, decide_not, Bool.not_and, Bool.not_not]
  cases scB v <;> cases decide (v.kind = 4) <;> cases decide (v.kind = 5) <;> cases decide (0 < v.list.length) <;> cases decide (0 < v.fields.length) <;> rfl
theorem valid_head {k : Nat} {v : Val} (h : headB v = false) : validL (k + 1) v = false := by
  unfold validL; rw [h]; rfl
theorem valid_list {k j : Nat} {v : Val} (hj : j < v.list.length) (h : validL k (v.list.getD j default) = false) : validL (k + 1) v = false := by
  unfold validL; rw [all_false_at (d := default) hj h]; simp
theorem valid_field {k j : Nat} {v : Val} (hj : j < v.fields.length) (h : (nmB (v.fields.getD j default).name && ordB v.fields j && validL k (v.fields.getD j default).v) = false) : validL (k + 1) v = false := by
  unfold validL; rw [range_false (p := fun i => nmB (v.fields.getD i default).name && ordB v.fields i && validL k (v.fields.getD i default).v) hj h]; simp
theorem c83 : ∀ (k : Nat) (v : Val), okV v → k ≤ 1000 → R T0 83 [encV v, .i .i64 (k : Nat)] (.b (validL k v)) := by
  intro k
  induction k with
  | zero =>
    intro v ov _
    refine r83 _ _ (idf_V2 v _) (nrm_V2 v _) ?_
    unfold w83
    dsimp only [prims]
    simp (disch := first | assumption | exact clen_V | exact clen_F | (simp only [clen_V, clen_F]; omega) | omega | assumption | exact scell | exact clen_XStep | (simp only [clen_XStep]; omega)) only [Nat.zero_add, oV_some', oN_eq, oM_some, oH_some, oD_some, oE_some, oS_eq, oT_true, oI_true, oI_false, pick_t, pick_f, un_not, oI_not, decide_not, toNat_sub1, toNat_add1, decide_true, decide_false, not_true, not_false_eq_true, Bool.not_true, Bool.not_false, Bool.not_not, oZ_b, oZ_i, oZ_s, oZ_l, slen_map, wr64, Int.toNat_natCast, Int.toNat_zero, ne_eq, bin_lt, bin_slt, bin_gt, b_sgt, bin_ge, bin_sge, bin_eq, b_snil, beq_4, bin_ne, b_snnil, bne_4, bin_add, bin_sub, load_get, loadB_some, get_put_same, get_put_ne, ofc_s, load_i, off_i, off_p, ofc_encXStep, ofc0_encXStep, st_XStep, fld_XStep_kind_, fld_XStep_name_, fld_XStep_index_, fld_XStep_value_, prt_XStep_kind_, prt_XStep_name_, prt_XStep_index_, prt_XStep_value_, len_32, len_33, ia_32, ia_33, gtt_1, gff_1, gtf_1, gft_1, gvv_1, gnt_1, gnf_1, gtt_3, gff_3, gtf_3, gft_3, gvv_3, gnt_3, gnf_3, gtt_4, gff_4, gtf_4, gft_4, gvv_4, gnt_4, gnf_4, gtt_6, gff_6, gtf_6, gft_6, gvv_6, gnt_6, gnf_6, gtt_10, gff_10, gtf_10, gft_10, gvv_10, gnt_10, gnf_10, fld_V_kind, fld_V_n, fld_V_s, fld_V_list, fld_V_fields, ofc_encV, ofc0_encV, fld_F_name, fld_F_v, ofc_encF, ofc0_encF, st_V0, st_F0, len_32, len_33, ia_32, ia_33, cnd_true, cnd_false, Bool.true_and, guard1t, guard1f, guard2t, guard2f, guard3t, guard3f, guard4t, guard4f, guard5t, guard5f, guard6t, guard6f, guard7t, guard7f, guard8t, guard8f, guard9t, guard9f, guard10t, guard10f, guard11t, guard11f, guard12t, guard12f, gct_1, gcf_1, gct_2, gcf_2, gct_3, gcf_3, gct_4, gcf_4, gct_5, gcf_5, gct_6, gcf_6, gct_7, gcf_7, gct_8, gcf_8, gct_9, gcf_9, gct_10, gcf_10, gct_11, gcf_11, gct_12, gcf_12, gct_13, gcf_13, gct_14, gcf_14, pick_and, pick_or, pick_andn, pick_orn, nest_and, nest_or, nest_andn, nest_orn, nest_andt, nest_orf, nest_orx, nest_orfx, oZ_V, Int.ofNat_zero, Int.natCast_zero]
    rfl
  | succ k ih =>
    intro v ov hk
    obtain ⟨ls, ll, lf, ol, of_⟩ := okV_list ov
    have er : ∀ x, okV x → ∀ (d : Nat) (σ : AS) (K : AV → AS → Prop), oC T0 d 83 [encV x, .i .i64 (k : Nat)] σ K = K (.b (validL k x)) σ := fun x hx d σ K => (ih x hx (by omega)).eq d σ K
    have z0 : decide (((k + 1 : Nat) : Int) = 0) = false := decide_eq_false (by omega)
    refine r83 _ _ (idf_V2 v _) (nrm_V2 v _) ?_
    unfold w83
    dsimp only [prims]
    simp (config := { maxSteps := 1000000 }) (disch := first | assumption | exact clen_V | exact clen_F | (simp only [clen_V, clen_F]; omega) | omega | assumption | exact scell | exact clen_XStep | (simp only [clen_XStep]; omega)) only [Nat.zero_add, oV_some', oN_eq, oM_some, oH_some, oD_some, oE_some, oS_eq, oT_true, oI_true, oI_false, pick_t, pick_f, un_not, oI_not, decide_not, toNat_sub1, toNat_add1, decide_true, decide_false, not_true, not_false_eq_true, Bool.not_true, Bool.not_false, Bool.not_not, oZ_b, oZ_i, oZ_s, oZ_l, slen_map, wr64, Int.toNat_natCast, Int.toNat_zero, ne_eq, bin_lt, bin_slt, bin_gt, b_sgt, bin_ge, bin_sge, bin_eq, b_snil, beq_4, bin_ne, b_snnil, bne_4, bin_add, bin_sub, load_get, loadB_some, get_put_same, get_put_ne, ofc_s, load_i, off_i, off_p, ofc_encXStep, ofc0_encXStep, st_XStep, fld_XStep_kind_, fld_XStep_name_, fld_XStep_index_, fld_XStep_value_, prt_XStep_kind_, prt_XStep_name_, prt_XStep_index_, prt_XStep_value_, len_32, len_33, ia_32, ia_33, gtt_1, gff_1, gtf_1, gft_1, gvv_1, gnt_1, gnf_1, gtt_3, gff_3, gtf_3, gft_3, gvv_3, gnt_3, gnf_3, gtt_4, gff_4, gtf_4, gft_4, gvv_4, gnt_4, gnf_4, gtt_6, gff_6, gtf_6, gft_6, gvv_6, gnt_6, gnf_6, gtt_10, gff_10, gtf_10, gft_10, gvv_10, gnt_10, gnf_10, fld_V_kind, fld_V_n, fld_V_s, fld_V_list, fld_V_fields, ofc_encV, ofc0_encV, fld_F_name, fld_F_v, ofc_encF, ofc0_encF, st_V0, st_F0, len_32, len_33, ia_32, ia_33, cnd_true, cnd_false, Bool.true_and, guard1t, guard1f, guard2t, guard2f, guard3t, guard3f, guard4t, guard4f, guard5t, guard5f, guard6t, guard6f, guard7t, guard7f, guard8t, guard8f, guard9t, guard9f, guard10t, guard10f, guard11t, guard11f, guard12t, guard12f, gct_1, gcf_1, gct_2, gcf_2, gct_3, gcf_3, gct_4, gcf_4, gct_5, gcf_5, gct_6, gcf_6, gct_7, gcf_7, gct_8, gcf_8, gct_9, gcf_9, gct_10, gcf_10, gct_11, gcf_11, gct_12, gcf_12, gct_13, gcf_13, gct_14, gcf_14, pick_and, pick_or, pick_andn, pick_orn, nest_and, nest_or, nest_andn, nest_orn, nest_andt, nest_orf, nest_orx, nest_orfx, oZ_V, z0, e102 ov]
    rw [head_eq]
    cases hd : headB v
    · rw [Bool.not_false, oI_true, valid_head hd]
    rw [Bool.not_true, oI_false]
    refine loop5 (X := Nat) (fun _ => .i .i64 ((k + 1 : Nat) : Int)) (fun _ => .ptr 0 0) (fun _ => .lst (v.list.map encV)) (fun _ => .i .i64 (v.list.length : Nat)) (fun j => .i .i64 (j : Nat))
      (fun j σ => j ≤ v.list.length ∧ 1 ≤ σ.n ∧ σ.h.get 0 = some (.cells (encV v).cells 35 false) ∧ (v.list.take j).all (validL k) = true) (fun j => v.list.length - j) ?_ 0 _ ⟨Nat.zero_le _, Nat.le_refl _, get_put_same _ _ _, rfl⟩
    rintro R j σ ⟨hj, hn, hg, ha⟩ hR
    simp only [oV_some', bin_lt]
    have kk : ((k + 1 : Nat) : Int) - 1 = (k : Nat) := by omega
    refine oI_decd (fun h => ?_) (fun h => ?_)
    · have hj' : j < v.list.length := by omega
      have hm := ol _ (getD_mem hj')
      have er' := er _ hm
      cases hv : validL k (v.list.getD j default)
      · simp (disch := first | assumption | exact clen_V | exact clen_F | (simp only [clen_V, clen_F]; omega) | omega | assumption | exact scell | exact clen_XStep | (simp only [clen_XStep]; omega)) only [Nat.zero_add, oV_some', oN_eq, oM_some, oH_some, oD_some, oE_some, oS_eq, oT_true, oI_true, oI_false, pick_t, pick_f, un_not, oI_not, decide_not, toNat_sub1, toNat_add1, decide_true, decide_false, not_true, not_false_eq_true, Bool.not_true, Bool.not_false, Bool.not_not, oZ_b, oZ_i, oZ_s, oZ_l, slen_map, wr64, Int.toNat_natCast, Int.toNat_zero, ne_eq, bin_lt, bin_slt, bin_gt, b_sgt, bin_ge, bin_sge, bin_eq, b_snil, beq_4, bin_ne, b_snnil, bne_4, bin_add, bin_sub, load_get, loadB_some, get_put_same, get_put_ne, ofc_s, load_i, off_i, off_p, ofc_encXStep, ofc0_encXStep, st_XStep, fld_XStep_kind_, fld_XStep_name_, fld_XStep_index_, fld_XStep_value_, prt_XStep_kind_, prt_XStep_name_, prt_XStep_index_, prt_XStep_value_, len_32, len_33, ia_32, ia_33, gtt_1, gff_1, gtf_1, gft_1, gvv_1, gnt_1, gnf_1, gtt_3, gff_3, gtf_3, gft_3, gvv_3, gnt_3, gnf_3, gtt_4, gff_4, gtf_4, gft_4, gvv_4, gnt_4, gnf_4, gtt_6, gff_6, gtf_6, gft_6, gvv_6, gnt_6, gnf_6, gtt_10, gff_10, gtf_10, gft_10, gvv_10, gnt_10, gnf_10, fld_V_kind, fld_V_n, fld_V_s, fld_V_list, fld_V_fields, ofc_encV, ofc0_encV, fld_F_name, fld_F_v, ofc_encF, ofc0_encF, st_V0, st_F0, len_32, len_33, ia_32, ia_33, Int.toNat_natCast, bin_sub, kk, er', hv, valid_list hj' hv]
      · simp (disch := first | assumption | exact clen_V | exact clen_F | (simp only [clen_V, clen_F]; omega) | omega | assumption | exact scell | exact clen_XStep | (simp only [clen_XStep]; omega)) only [Nat.zero_add, oV_some', oN_eq, oM_some, oH_some, oD_some, oE_some, oS_eq, oT_true, oI_true, oI_false, pick_t, pick_f, un_not, oI_not, decide_not, toNat_sub1, toNat_add1, decide_true, decide_false, not_true, not_false_eq_true, Bool.not_true, Bool.not_false, Bool.not_not, oZ_b, oZ_i, oZ_s, oZ_l, slen_map, wr64, Int.toNat_natCast, Int.toNat_zero, ne_eq, bin_lt, bin_slt, bin_gt, b_sgt, bin_ge, bin_sge, bin_eq, b_snil, beq_4, bin_ne, b_snnil, bne_4, bin_add, bin_sub, load_get, loadB_some, get_put_same, get_put_ne, ofc_s, load_i, off_i, off_p, ofc_encXStep, ofc0_encXStep, st_XStep, fld_XStep_kind_, fld_XStep_name_, fld_XStep_index_, fld_XStep_value_, prt_XStep_kind_, prt_XStep_name_, prt_XStep_index_, prt_XStep_value_, len_32, len_33, ia_32, ia_33, gtt_1, gff_1, gtf_1, gft_1, gvv_1, gnt_1, gnf_1, gtt_3, gff_3, gtf_3, gft_3, gvv_3, gnt_3, gnf_3, gtt_4, gff_4, gtf_4, gft_4, gvv_4, gnt_4, gnf_4, gtt_6, gff_6, gtf_6, gft_6, gvv_6, gnt_6, gnf_6, gtt_10, gff_10, gtf_10, gft_10, gvv_10, gnt_10, gnf_10, fld_V_kind, fld_V_n, fld_V_s, fld_V_list, fld_V_fields, ofc_encV, ofc0_encV, fld_F_name, fld_F_v, ofc_encF, ofc0_encF, st_V0, st_F0, len_32, len_33, ia_32, ia_33, Int.toNat_natCast, bin_sub, kk, er', hv]
        refine hR (j + 1) _ ⟨by omega, Nat.le_succ_of_le hn, ?_, all_take_succ (d := default) ha hj' hv⟩ (by omega)
        dsimp only
        rw [get_put_ne _ _ (by omega), get_put_ne _ _ (by omega)]; exact hg
    · have hall := all_end ha (by omega)
      clear hR ha
      simp (disch := first | assumption | exact clen_V | exact clen_F | (simp only [clen_V, clen_F]; omega) | omega | assumption | exact scell | exact clen_XStep | (simp only [clen_XStep]; omega)) only [Nat.zero_add, oV_some', oN_eq, oM_some, oH_some, oD_some, oE_some, oS_eq, oT_true, oI_true, oI_false, pick_t, pick_f, un_not, oI_not, decide_not, toNat_sub1, toNat_add1, decide_true, decide_false, not_true, not_false_eq_true, Bool.not_true, Bool.not_false, Bool.not_not, oZ_b, oZ_i, oZ_s, oZ_l, slen_map, wr64, Int.toNat_natCast, Int.toNat_zero, ne_eq, bin_lt, bin_slt, bin_gt, b_sgt, bin_ge, bin_sge, bin_eq, b_snil, beq_4, bin_ne, b_snnil, bne_4, bin_add, bin_sub, load_get, loadB_some, get_put_same, get_put_ne, ofc_s, load_i, off_i, off_p, ofc_encXStep, ofc0_encXStep, st_XStep, fld_XStep_kind_, fld_XStep_name_, fld_XStep_index_, fld_XStep_value_, prt_XStep_kind_, prt_XStep_name_, prt_XStep_index_, prt_XStep_value_, len_32, len_33, ia_32, ia_33, gtt_1, gff_1, gtf_1, gft_1, gvv_1, gnt_1, gnf_1, gtt_3, gff_3, gtf_3, gft_3, gvv_3, gnt_3, gnf_3, gtt_4, gff_4, gtf_4, gft_4, gvv_4, gnt_4, gnf_4, gtt_6, gff_6, gtf_6, gft_6, gvv_6, gnt_6, gnf_6, gtt_10, gff_10, gtf_10, gft_10, gvv_10, gnt_10, gnf_10, fld_V_kind, fld_V_n, fld_V_s, fld_V_list, fld_V_fields, ofc_encV, ofc0_encV, fld_F_name, fld_F_v, ofc_encF, ofc0_encF, st_V0, st_F0, len_32, len_33, ia_32, ia_33, hg]
      refine loop5 (X := Nat) (fun _ => .i .i64 ((k + 1 : Nat) : Int)) (fun _ => .ptr 0 0) (fun _ => .lst (v.fields.map encF)) (fun _ => .i .i64 (v.fields.length : Nat)) (fun j => .i .i64 (j : Nat))
        (fun j σ => j ≤ v.fields.length ∧ 1 ≤ σ.n ∧ σ.h.get 0 = some (.cells (encV v).cells 35 false) ∧ (List.range j).all (fun i => nmB (v.fields.getD i default).name && ordB v.fields i && validL k (v.fields.getD i default).v) = true) (fun j => v.fields.length - j) ?_ 0 _ ⟨Nat.zero_le _, hn, hg, rfl⟩
      rintro R j σ ⟨hj, hn, hg, ha⟩ hR
      simp only [oV_some', bin_lt]
      refine oI_decd (fun h => ?_) (fun h => ?_)
      · have hj' : j < v.fields.length := by omega
        obtain ⟨hfn, hfv⟩ := okF_v (of_ _ (getD_mem hj'))
        have er' := er _ hfv
        cases hnm : nmB (v.fields.getD j default).name
        · have hF : validL (k + 1) v = false := valid_field hj' (by rw [hnm]; rfl)
          simp (disch := first | assumption | exact clen_V | exact clen_F | (simp only [clen_V, clen_F]; omega) | omega | assumption | exact scell | exact clen_XStep | (simp only [clen_XStep]; omega)) only [Nat.zero_add, oV_some', oN_eq, oM_some, oH_some, oD_some, oE_some, oS_eq, oT_true, oI_true, oI_false, pick_t, pick_f, un_not, oI_not, decide_not, toNat_sub1, toNat_add1, decide_true, decide_false, not_true, not_false_eq_true, Bool.not_true, Bool.not_false, Bool.not_not, oZ_b, oZ_i, oZ_s, oZ_l, slen_map, wr64, Int.toNat_natCast, Int.toNat_zero, ne_eq, bin_lt, bin_slt, bin_gt, b_sgt, bin_ge, bin_sge, bin_eq, b_snil, beq_4, bin_ne, b_snnil, bne_4, bin_add, bin_sub, load_get, loadB_some, get_put_same, get_put_ne, ofc_s, load_i, off_i, off_p, ofc_encXStep, ofc0_encXStep, st_XStep, fld_XStep_kind_, fld_XStep_name_, fld_XStep_index_, fld_XStep_value_, prt_XStep_kind_, prt_XStep_name_, prt_XStep_index_, prt_XStep_value_, len_32, len_33, ia_32, ia_33, gtt_1, gff_1, gtf_1, gft_1, gvv_1, gnt_1, gnf_1, gtt_3, gff_3, gtf_3, gft_3, gvv_3, gnt_3, gnf_3, gtt_4, gff_4, gtf_4, gft_4, gvv_4, gnt_4, gnf_4, gtt_6, gff_6, gtf_6, gft_6, gvv_6, gnt_6, gnf_6, gtt_10, gff_10, gtf_10, gft_10, gvv_10, gnt_10, gnf_10, fld_V_kind, fld_V_n, fld_V_s, fld_V_list, fld_V_fields, ofc_encV, ofc0_encV, fld_F_name, fld_F_v, ofc_encF, ofc0_encF, st_V0, st_F0, len_32, len_33, ia_32, ia_33, Int.toNat_natCast, bin_sub, kk, e103 hfn, hnm, hF]
        · by_cases j0 : j = 0
          · subst j0
            have d0 : decide ((0 : Int) < ((0 : Nat) : Int)) = false := rfl
            cases hv : validL k (v.fields.getD 0 default).v
            · have hF : validL (k + 1) v = false := valid_field hj' (by rw [hv]; simp)
              simp (disch := first | assumption | exact clen_V | exact clen_F | (simp only [clen_V, clen_F]; omega) | omega | assumption | exact scell | exact clen_XStep | (simp only [clen_XStep]; omega)) only [Nat.zero_add, oV_some', oN_eq, oM_some, oH_some, oD_some, oE_some, oS_eq, oT_true, oI_true, oI_false, pick_t, pick_f, un_not, oI_not, decide_not, toNat_sub1, toNat_add1, decide_true, decide_false, not_true, not_false_eq_true, Bool.not_true, Bool.not_false, Bool.not_not, oZ_b, oZ_i, oZ_s, oZ_l, slen_map, wr64, Int.toNat_natCast, Int.toNat_zero, ne_eq, bin_lt, bin_slt, bin_gt, b_sgt, bin_ge, bin_sge, bin_eq, b_snil, beq_4, bin_ne, b_snnil, bne_4, bin_add, bin_sub, load_get, loadB_some, get_put_same, get_put_ne, ofc_s, load_i, off_i, off_p, ofc_encXStep, ofc0_encXStep, st_XStep, fld_XStep_kind_, fld_XStep_name_, fld_XStep_index_, fld_XStep_value_, prt_XStep_kind_, prt_XStep_name_, prt_XStep_index_, prt_XStep_value_, len_32, len_33, ia_32, ia_33, gtt_1, gff_1, gtf_1, gft_1, gvv_1, gnt_1, gnf_1, gtt_3, gff_3, gtf_3, gft_3, gvv_3, gnt_3, gnf_3, gtt_4, gff_4, gtf_4, gft_4, gvv_4, gnt_4, gnf_4, gtt_6, gff_6, gtf_6, gft_6, gvv_6, gnt_6, gnf_6, gtt_10, gff_10, gtf_10, gft_10, gvv_10, gnt_10, gnf_10, fld_V_kind, fld_V_n, fld_V_s, fld_V_list, fld_V_fields, ofc_encV, ofc0_encV, fld_F_name, fld_F_v, ofc_encF, ofc0_encF, st_V0, st_F0, len_32, len_33, ia_32, ia_33, Int.toNat_natCast, bin_sub, kk, e103 hfn, hnm, d0, er', hv, hF]
            · simp (disch := first | assumption | exact clen_V | exact clen_F | (simp only [clen_V, clen_F]; omega) | omega | assumption | exact scell | exact clen_XStep | (simp only [clen_XStep]; omega)) only [Nat.zero_add, oV_some', oN_eq, oM_some, oH_some, oD_some, oE_some, oS_eq, oT_true, oI_true, oI_false, pick_t, pick_f, un_not, oI_not, decide_not, toNat_sub1, toNat_add1, decide_true, decide_false, not_true, not_false_eq_true, Bool.not_true, Bool.not_false, Bool.not_not, oZ_b, oZ_i, oZ_s, oZ_l, slen_map, wr64, Int.toNat_natCast, Int.toNat_zero, ne_eq, bin_lt, bin_slt, bin_gt, b_sgt, bin_ge, bin_sge, bin_eq, b_snil, beq_4, bin_ne, b_snnil, bne_4, bin_add, bin_sub, load_get, loadB_some, get_put_same, get_put_ne, ofc_s, load_i, off_i, off_p, ofc_encXStep, ofc0_encXStep, st_XStep, fld_XStep_kind_, fld_XStep_name_, fld_XStep_index_, fld_XStep_value_, prt_XStep_kind_, prt_XStep_name_, prt_XStep_index_, prt_XStep_value_, len_32, len_33, ia_32, ia_33, gtt_1, gff_1, gtf_1, gft_1, gvv_1, gnt_1, gnf_1, gtt_3, gff_3, gtf_3, gft_3, gvv_3, gnt_3, gnf_3, gtt_4, gff_4, gtf_4, gft_4, gvv_4, gnt_4, gnf_4, gtt_6, gff_6, gtf_6, gft_6, gvv_6, gnt_6, gnf_6, gtt_10, gff_10, gtf_10, gft_10, gvv_10, gnt_10, gnf_10, fld_V_kind, fld_V_n, fld_V_s, fld_V_list, fld_V_fields, ofc_encV, ofc0_encV, fld_F_name, fld_F_v, ofc_encF, ofc0_encF, st_V0, st_F0, len_32, len_33, ia_32, ia_33, Int.toNat_natCast, bin_sub, kk, e103 hfn, hnm, d0, er', hv]
              refine hR (0 + 1) _ ⟨by omega, Nat.le_succ_of_le hn, ?_, range_succ_all ha (by rw [hnm, hv]; rfl)⟩ (by omega)
              dsimp only
              rw [get_put_ne _ _ (by omega), get_put_ne _ _ (by omega)]; exact hg
          · have d0 : decide ((0 : Int) < (j : Nat)) = true := decide_eq_true (by omega)
            have jm : ((j : Nat) : Int) - 1 = ((j - 1 : Nat) : Int) := by omega
            cases ho : Op.bytesLess (v.fields.getD (j - 1) default).name (v.fields.getD j default).name
            · have hF : validL (k + 1) v = false := valid_field hj' (by unfold ordB; rw [ho, decide_eq_false j0]; simp)
              simp (disch := first | assumption | exact clen_V | exact clen_F | (simp only [clen_V, clen_F]; omega) | omega | assumption | exact scell | exact clen_XStep | (simp only [clen_XStep]; omega)) only [Nat.zero_add, oV_some', oN_eq, oM_some, oH_some, oD_some, oE_some, oS_eq, oT_true, oI_true, oI_false, pick_t, pick_f, un_not, oI_not, decide_not, toNat_sub1, toNat_add1, decide_true, decide_false, not_true, not_false_eq_true, Bool.not_true, Bool.not_false, Bool.not_not, oZ_b, oZ_i, oZ_s, oZ_l, slen_map, wr64, Int.toNat_natCast, Int.toNat_zero, ne_eq, bin_lt, bin_slt, bin_gt, b_sgt, bin_ge, bin_sge, bin_eq, b_snil, beq_4, bin_ne, b_snnil, bne_4, bin_add, bin_sub, load_get, loadB_some, get_put_same, get_put_ne, ofc_s, load_i, off_i, off_p, ofc_encXStep, ofc0_encXStep, st_XStep, fld_XStep_kind_, fld_XStep_name_, fld_XStep_index_, fld_XStep_value_, prt_XStep_kind_, prt_XStep_name_, prt_XStep_index_, prt_XStep_value_, len_32, len_33, ia_32, ia_33, gtt_1, gff_1, gtf_1, gft_1, gvv_1, gnt_1, gnf_1, gtt_3, gff_3, gtf_3, gft_3, gvv_3, gnt_3, gnf_3, gtt_4, gff_4, gtf_4, gft_4, gvv_4, gnt_4, gnf_4, gtt_6, gff_6, gtf_6, gft_6, gvv_6, gnt_6, gnf_6, gtt_10, gff_10, gtf_10, gft_10, gvv_10, gnt_10, gnf_10, fld_V_kind, fld_V_n, fld_V_s, fld_V_list, fld_V_fields, ofc_encV, ofc0_encV, fld_F_name, fld_F_v, ofc_encF, ofc0_encF, st_V0, st_F0, len_32, len_33, ia_32, ia_33, Int.toNat_natCast, bin_sub, kk, e103 hfn, hnm, d0, hg, jm, ho, hF]
            · have ho' : ordB v.fields j = true := by unfold ordB; rw [ho]; simp
              cases hv : validL k (v.fields.getD j default).v
              · have hF : validL (k + 1) v = false := valid_field hj' (by rw [hv]; simp)
                simp (disch := first | assumption | exact clen_V | exact clen_F | (simp only [clen_V, clen_F]; omega) | omega | assumption | exact scell | exact clen_XStep | (simp only [clen_XStep]; omega)) only [Nat.zero_add, oV_some', oN_eq, oM_some, oH_some, oD_some, oE_some, oS_eq, oT_true, oI_true, oI_false, pick_t, pick_f, un_not, oI_not, decide_not, toNat_sub1, toNat_add1, decide_true, decide_false, not_true, not_false_eq_true, Bool.not_true, Bool.not_false, Bool.not_not, oZ_b, oZ_i, oZ_s, oZ_l, slen_map, wr64, Int.toNat_natCast, Int.toNat_zero, ne_eq, bin_lt, bin_slt, bin_gt, b_sgt, bin_ge, bin_sge, bin_eq, b_snil, beq_4, bin_ne, b_snnil, bne_4, bin_add, bin_sub, load_get, loadB_some, get_put_same, get_put_ne, ofc_s, load_i, off_i, off_p, ofc_encXStep, ofc0_encXStep, st_XStep, fld_XStep_kind_, fld_XStep_name_, fld_XStep_index_, fld_XStep_value_, prt_XStep_kind_, prt_XStep_name_, prt_XStep_index_, prt_XStep_value_, len_32, len_33, ia_32, ia_33, gtt_1, gff_1, gtf_1, gft_1, gvv_1, gnt_1, gnf_1, gtt_3, gff_3, gtf_3, gft_3, gvv_3, gnt_3, gnf_3, gtt_4, gff_4, gtf_4, gft_4, gvv_4, gnt_4, gnf_4, gtt_6, gff_6, gtf_6, gft_6, gvv_6, gnt_6, gnf_6, gtt_10, gff_10, gtf_10, gft_10, gvv_10, gnt_10, gnf_10, fld_V_kind, fld_V_n, fld_V_s, fld_V_list, fld_V_fields, ofc_encV, ofc0_encV, fld_F_name, fld_F_v, ofc_encF, ofc0_encF, st_V0, st_F0, len_32, len_33, ia_32, ia_33, Int.toNat_natCast, bin_sub, kk, e103 hfn, hnm, d0, hg, jm, ho, er', hv, hF]
              · simp (disch := first | assumption | exact clen_V | exact clen_F | (simp only [clen_V, clen_F]; omega) | omega | assumption | exact scell | exact clen_XStep | (simp only [clen_XStep]; omega)) only [Nat.zero_add, oV_some', oN_eq, oM_some, oH_some, oD_some, oE_some, oS_eq, oT_true, oI_true, oI_false, pick_t, pick_f, un_not, oI_not, decide_not, toNat_sub1, toNat_add1, decide_true, decide_false, not_true, not_false_eq_true, Bool.not_true, Bool.not_false, Bool.not_not, oZ_b, oZ_i, oZ_s, oZ_l, slen_map, wr64, Int.toNat_natCast, Int.toNat_zero, ne_eq, bin_lt, bin_slt, bin_gt, b_sgt, bin_ge, bin_sge, bin_eq, b_snil, beq_4, bin_ne, b_snnil, bne_4, bin_add, bin_sub, load_get, loadB_some, get_put_same, get_put_ne, ofc_s, load_i, off_i, off_p, ofc_encXStep, ofc0_encXStep, st_XStep, fld_XStep_kind_, fld_XStep_name_, fld_XStep_index_, fld_XStep_value_, prt_XStep_kind_, prt_XStep_name_, prt_XStep_index_, prt_XStep_value_, len_32, len_33, ia_32, ia_33, gtt_1, gff_1, gtf_1, gft_1, gvv_1, gnt_1, gnf_1, gtt_3, gff_3, gtf_3, gft_3, gvv_3, gnt_3, gnf_3, gtt_4, gff_4, gtf_4, gft_4, gvv_4, gnt_4, gnf_4, gtt_6, gff_6, gtf_6, gft_6, gvv_6, gnt_6, gnf_6, gtt_10, gff_10, gtf_10, gft_10, gvv_10, gnt_10, gnf_10, fld_V_kind, fld_V_n, fld_V_s, fld_V_list, fld_V_fields, ofc_encV, ofc0_encV, fld_F_name, fld_F_v, ofc_encF, ofc0_encF, st_V0, st_F0, len_32, len_33, ia_32, ia_33, Int.toNat_natCast, bin_sub, kk, e103 hfn, hnm, d0, hg, jm, ho, er', hv]
                refine hR (j + 1) _ ⟨by omega, Nat.le_succ_of_le hn, ?_, range_succ_all ha (by rw [hnm, ho', hv]; rfl)⟩ (by omega)
                dsimp only
                rw [get_put_ne _ _ (by omega), get_put_ne _ _ (by omega)]; exact hg
      · have hj0 : j = v.fields.length := by omega
        subst hj0
        unfold validL
        rw [hd, hall, ha]; rfl
theorem e83 {k : Nat} {v : Val} (ov : okV v) (hk : k ≤ 1000) {d : Nat} {σ : AS} {K : AV → AS → Prop} : oC T0 d 83 [encV v, .i .i64 (k : Nat)] σ K = K (.b (validL k v)) σ := (c83 k v ov hk).eq d σ K
end Go.Proofs.YtmfhmlhaofpeiaaGreatDoor.Ev
/- Valid values of the reference. -/
namespace Go.Proofs.YtmfhmlhaofpeiaaGreatDoor.Ev
open Go Go.RowKit
set_option linter.unusedSimpArgs false
set_option linter.unusedVariables false
set_option maxRecDepth 100000

end Go.Proofs.YtmfhmlhaofpeiaaGreatDoor.Ev
/- The number of values of a tree; Valid. -/
namespace Go.Proofs.YtmfhmlhaofpeiaaGreatDoor.Ev
open Go Go.RowKit
set_option linter.unusedSimpArgs false
set_option linter.unusedVariables false
set_option maxRecDepth 100000

mutual
def sizeV : Val → Nat
  | .mk _ _ _ l fs => 1 + sizeVs l + sizeFs fs
def sizeF : Fld → Nat
  | .mk _ v => sizeV v
def sizeVs : List Val → Nat
  | [] => 0
  | v :: vs => sizeV v + sizeVs vs
def sizeFs : List Fld → Nat
  | [] => 0
  | f :: fs => sizeF f + sizeFs fs
end
theorem sizeV_eq (v : Val) : sizeV v = 1 + sizeVs v.list + sizeFs v.fields := by cases v; rw [sizeV]; rfl
theorem sizeF_eq (f : Fld) : sizeF f = sizeV f.v := by cases f; rw [sizeF]; rfl
theorem sizeVs_app (a b : List Val) : sizeVs (a ++ b) = sizeVs a + sizeVs b := by
  induction a with
  | nil => rw [List.nil_append, sizeVs, Nat.zero_add]
  | cons x a ih => rw [List.cons_append, sizeVs, sizeVs, ih]; omega
theorem sizeFs_app (a b : List Fld) : sizeFs (a ++ b) = sizeFs a + sizeFs b := by
  induction a with
  | nil => rw [List.nil_append, sizeFs, Nat.zero_add]
  | cons x a ih => rw [List.cons_append, sizeFs, sizeFs, ih]; omega
theorem take_snoc {α : Type} [Inhabited α] {l : List α} {j : Nat} (hj : j < l.length) : l.take (j + 1) = l.take j ++ [l.getD j default] := by
  rw [List.take_add_one, List.getD_eq_getElem?_getD, List.getElem?_eq_getElem hj]; rfl
theorem sizeVs_take {l : List Val} {j : Nat} (hj : j < l.length) : sizeVs (l.take (j + 1)) = sizeVs (l.take j) + sizeV (l.getD j default) := by
  rw [take_snoc hj, sizeVs_app, sizeVs, sizeVs, Nat.add_zero]
theorem sizeFs_take {l : List Fld} {j : Nat} (hj : j < l.length) : sizeFs (l.take (j + 1)) = sizeFs (l.take j) + sizeV (l.getD j default).v := by
  rw [take_snoc hj, sizeFs_app, sizeFs, sizeFs, Nat.add_zero, sizeF_eq]
theorem wrap_nf (x : Int) : IntKind.wrap .i64 x = (x + 9223372036854775808) % 18446744073709551616 - 9223372036854775808 := by
  have : IntKind.wrap .i64 x = if (x % 18446744073709551616) ≥ 9223372036854775808 then x % 18446744073709551616 - 18446744073709551616 else x % 18446744073709551616 := by
    unfold IntKind.wrap; simp [IntKind.bits, IntKind.signed]
  rw [this]
  split <;> omega
theorem wrap_ex (x : Int) : ∃ k : Int, IntKind.wrap .i64 x = x + 18446744073709551616 * k := ⟨-((x + 9223372036854775808) / 18446744073709551616), by rw [wrap_nf]; omega⟩
theorem wrap_add (a b : Int) : IntKind.wrap .i64 (IntKind.wrap .i64 a + IntKind.wrap .i64 b) = IntKind.wrap .i64 (a + b) := by
  obtain ⟨k, hk⟩ := wrap_ex a
  obtain ⟨m, hm⟩ := wrap_ex b
  rw [hk, hm, wrap_nf, wrap_nf]
  have : a + 18446744073709551616 * k + (b + 18446744073709551616 * m) + 9223372036854775808 = a + b + 9223372036854775808 + 18446744073709551616 * (k + m) := by omega
  rw [this, Int.add_mul_emod_self_left]
def szW (n : Nat) : Int := IntKind.wrap .i64 (n : Nat)
theorem szW_add (a b : Nat) : IntKind.wrap .i64 (szW a + szW b) = szW (a + b) := by unfold szW; rw [wrap_add]; congr 1
theorem szW_one : szW 1 = 1 := by unfold szW; rw [wrap_nf]; rfl
theorem c84 (m : Nat) : ∀ v : Val, SizeOf.sizeOf v ≤ m → okV v → R T0 84 [encV v] (.i .i64 (szW (sizeV v))) := by
  induction m with
  | zero => intro v h; obtain ⟨_, _, _, _, _⟩ := v; simp only [Val.mk.sizeOf_spec] at h; omega
  | succ m ih =>
    intro v hsz ov
    obtain ⟨ls, ll, lf, ol, of_⟩ := okV_list ov
    refine r84 _ (idf_V1 v) (nrm_V1 v) ?_
    unfold w84
    dsimp only [prims]
    simp (disch := first | assumption | exact clen_V | exact clen_F | (simp only [clen_V, clen_F]; omega) | omega | assumption | exact scell | exact clen_XStep | (simp only [clen_XStep]; omega)) only [Nat.zero_add, oV_some', oN_eq, oM_some, oH_some, oD_some, oE_some, oS_eq, oT_true, oI_true, oI_false, pick_t, pick_f, un_not, oI_not, decide_not, toNat_sub1, toNat_add1, decide_true, decide_false, not_true, not_false_eq_true, Bool.not_true, Bool.not_false, Bool.not_not, oZ_b, oZ_i, oZ_s, oZ_l, slen_map, wr64, Int.toNat_natCast, Int.toNat_zero, ne_eq, bin_lt, bin_slt, bin_add, load_get, loadB_some, get_put_same, get_put_ne, ofc_s, load_i, off_i, off_p, ofc_encXStep, ofc0_encXStep, st_XStep, fld_XStep_kind_, fld_XStep_name_, fld_XStep_index_, fld_XStep_value_, prt_XStep_kind_, prt_XStep_name_, prt_XStep_index_, prt_XStep_value_, len_32, len_33, ia_32, ia_33, fld_V_kind, fld_V_n, fld_V_s, fld_V_list, fld_V_fields, ofc_encV, ofc0_encV, fld_F_name, fld_F_v, ofc_encF, ofc0_encF, st_V0, st_F0, len_32, len_33, ia_32, ia_33]
    refine loop5 (X := Nat) (fun j => .i .i64 (szW (1 + sizeVs (v.list.take j)))) (fun _ => .ptr 0 0) (fun _ => .lst (v.list.map encV)) (fun _ => .i .i64 (v.list.length : Nat)) (fun j => .i .i64 (j : Nat))
      (fun j σ => j ≤ v.list.length ∧ 1 ≤ σ.n ∧ σ.h.get 0 = some (.cells (encV v).cells 35 false)) (fun j => v.list.length - j) ?_ 0 _ ⟨Nat.zero_le _, Nat.le_refl _, get_put_same _ _ _⟩
    rintro R j σ ⟨hj, hn, hg⟩ hR
    simp only [oV_some', bin_lt]
    refine oI_decd (fun h => ?_) (fun h => ?_)
    · have hj' : j < v.list.length := by omega
      have hm := getD_mem hj'
      have er : ∀ (d : Nat) (σ : AS) (K : AV → AS → Prop), oC T0 d 84 [encV (v.list.getD j default)] σ K = K (.i .i64 (szW (sizeV (v.list.getD j default)))) σ := fun d σ K => (ih _ (by have := size_list v hm; omega) (ol _ hm)).eq d σ K
      simp (disch := first | assumption | exact clen_V | exact clen_F | (simp only [clen_V, clen_F]; omega) | omega | assumption | exact scell | exact clen_XStep | (simp only [clen_XStep]; omega)) only [Nat.zero_add, oV_some', oN_eq, oM_some, oH_some, oD_some, oE_some, oS_eq, oT_true, oI_true, oI_false, pick_t, pick_f, un_not, oI_not, decide_not, toNat_sub1, toNat_add1, decide_true, decide_false, not_true, not_false_eq_true, Bool.not_true, Bool.not_false, Bool.not_not, oZ_b, oZ_i, oZ_s, oZ_l, slen_map, wr64, Int.toNat_natCast, Int.toNat_zero, ne_eq, bin_lt, bin_slt, bin_add, load_get, loadB_some, get_put_same, get_put_ne, ofc_s, load_i, off_i, off_p, ofc_encXStep, ofc0_encXStep, st_XStep, fld_XStep_kind_, fld_XStep_name_, fld_XStep_index_, fld_XStep_value_, prt_XStep_kind_, prt_XStep_name_, prt_XStep_index_, prt_XStep_value_, len_32, len_33, ia_32, ia_33, fld_V_kind, fld_V_n, fld_V_s, fld_V_list, fld_V_fields, ofc_encV, ofc0_encV, fld_F_name, fld_F_v, ofc_encF, ofc0_encF, st_V0, st_F0, len_32, len_33, ia_32, ia_33, Int.toNat_natCast, er, szW_add, Nat.add_assoc, ← sizeVs_take hj']
      refine hR (j + 1) _ ⟨by omega, Nat.le_succ_of_le hn, ?_⟩ (by omega)
      dsimp only
      rw [get_put_ne _ _ (by omega), get_put_ne _ _ (by omega)]; exact hg
    · have hall : v.list.take j = v.list := List.take_of_length_le (by omega)
      rw [hall]
      clear hR
      simp (disch := first | assumption | exact clen_V | exact clen_F | (simp only [clen_V, clen_F]; omega) | omega | assumption | exact scell | exact clen_XStep | (simp only [clen_XStep]; omega)) only [Nat.zero_add, oV_some', oN_eq, oM_some, oH_some, oD_some, oE_some, oS_eq, oT_true, oI_true, oI_false, pick_t, pick_f, un_not, oI_not, decide_not, toNat_sub1, toNat_add1, decide_true, decide_false, not_true, not_false_eq_true, Bool.not_true, Bool.not_false, Bool.not_not, oZ_b, oZ_i, oZ_s, oZ_l, slen_map, wr64, Int.toNat_natCast, Int.toNat_zero, ne_eq, bin_lt, bin_slt, bin_add, load_get, loadB_some, get_put_same, get_put_ne, ofc_s, load_i, off_i, off_p, ofc_encXStep, ofc0_encXStep, st_XStep, fld_XStep_kind_, fld_XStep_name_, fld_XStep_index_, fld_XStep_value_, prt_XStep_kind_, prt_XStep_name_, prt_XStep_index_, prt_XStep_value_, len_32, len_33, ia_32, ia_33, fld_V_kind, fld_V_n, fld_V_s, fld_V_list, fld_V_fields, ofc_encV, ofc0_encV, fld_F_name, fld_F_v, ofc_encF, ofc0_encF, st_V0, st_F0, len_32, len_33, ia_32, ia_33, hg]
      refine loop4 (X := Nat) (fun j => .i .i64 (szW (1 + (sizeVs v.list + sizeFs (v.fields.take j))))) (fun _ => .lst (v.fields.map encF)) (fun _ => .i .i64 (v.fields.length : Nat)) (fun j => .i .i64 (j : Nat))
        (fun j σ => j ≤ v.fields.length) (fun j => v.fields.length - j) ?_ 0 _ (Nat.zero_le _)
      rintro R j σ hj hR
      simp only [oV_some', bin_lt]
      refine oI_decd (fun h => ?_) (fun h => ?_)
      · have hj' : j < v.fields.length := by omega
        have hm := getD_mem hj'
        have er : ∀ (d : Nat) (σ : AS) (K : AV → AS → Prop), oC T0 d 84 [encV (v.fields.getD j default).v] σ K = K (.i .i64 (szW (sizeV (v.fields.getD j default).v))) σ := fun d σ K => (ih _ (by have := size_fields v hm; omega) (okF_v (of_ _ hm)).2).eq d σ K
        simp (disch := first | assumption | exact clen_V | exact clen_F | (simp only [clen_V, clen_F]; omega) | omega | assumption | exact scell | exact clen_XStep | (simp only [clen_XStep]; omega)) only [Nat.zero_add, oV_some', oN_eq, oM_some, oH_some, oD_some, oE_some, oS_eq, oT_true, oI_true, oI_false, pick_t, pick_f, un_not, oI_not, decide_not, toNat_sub1, toNat_add1, decide_true, decide_false, not_true, not_false_eq_true, Bool.not_true, Bool.not_false, Bool.not_not, oZ_b, oZ_i, oZ_s, oZ_l, slen_map, wr64, Int.toNat_natCast, Int.toNat_zero, ne_eq, bin_lt, bin_slt, bin_add, load_get, loadB_some, get_put_same, get_put_ne, ofc_s, load_i, off_i, off_p, ofc_encXStep, ofc0_encXStep, st_XStep, fld_XStep_kind_, fld_XStep_name_, fld_XStep_index_, fld_XStep_value_, prt_XStep_kind_, prt_XStep_name_, prt_XStep_index_, prt_XStep_value_, len_32, len_33, ia_32, ia_33, fld_V_kind, fld_V_n, fld_V_s, fld_V_list, fld_V_fields, ofc_encV, ofc0_encV, fld_F_name, fld_F_v, ofc_encF, ofc0_encF, st_V0, st_F0, len_32, len_33, ia_32, ia_33, Int.toNat_natCast, er, szW_add, Nat.add_assoc, ← sizeFs_take hj']
        exact hR (j + 1) _ (show j + 1 ≤ v.fields.length by omega) (by omega)
      · have hall : v.fields.take j = v.fields := List.take_of_length_le (by omega)
        rw [hall, ← Nat.add_assoc, ← sizeV_eq]
        try rw [oZ_i]
theorem e84 {v : Val} (ov : okV v) {d : Nat} {σ : AS} {K : AV → AS → Prop} : oC T0 d 84 [encV v] σ K = K (.i .i64 (szW (sizeV v))) σ := (c84 _ v (Nat.le_refl _) ov).eq d σ K
/-- Valid. -/
def vldB (v : Val) : Bool := validL 12 v && decide (szW (sizeV v) ≤ 600)
theorem c54 (v : Val) (ov : okV v) : R T0 54 [encV v] (.b (vldB v)) := by
  refine r54 _ (idf_V1 v) (nrm_V1 v) ?_
  unfold w54
  dsimp only [prims]
  have er : ∀ (d : Nat) (σ : AS) (K : AV → AS → Prop), oC T0 d 83 [encV v, .i .i64 12] σ K = K (.b (validL 12 v)) σ := fun d σ K => e83 (k := 12) ov (by decide)
  simp (disch := first | assumption | exact clen_V | exact clen_F | (simp only [clen_V, clen_F]; omega) | omega | assumption | exact scell | exact clen_XStep | (simp only [clen_XStep]; omega)) only [Nat.zero_add, oV_some', oN_eq, oM_some, oH_some, oD_some, oE_some, oS_eq, oT_true, oI_true, oI_false, pick_t, pick_f, un_not, oI_not, decide_not, toNat_sub1, toNat_add1, decide_true, decide_false, not_true, not_false_eq_true, Bool.not_true, Bool.not_false, Bool.not_not, oZ_b, oZ_i, oZ_s, oZ_l, slen_map, wr64, Int.toNat_natCast, Int.toNat_zero, ne_eq, bin_le, b_sle, load_get, loadB_some, get_put_same, get_put_ne, ofc_s, load_i, gtt_3, gff_3, gtf_3, gft_3, gvv_3, gnt_3, gnf_3, fld_V_kind, fld_V_n, fld_V_s, fld_V_list, fld_V_fields, ofc_encV, ofc0_encV, fld_F_name, fld_F_v, ofc_encF, ofc0_encF, st_V0, st_F0, len_32, len_33, ia_32, ia_33, cnd_true, cnd_false, Bool.true_and, guard1t, guard1f, guard2t, guard2f, guard3t, guard3f, guard4t, guard4f, guard5t, guard5f, guard6t, guard6f, guard7t, guard7f, guard8t, guard8f, guard9t, guard9f, guard10t, guard10f, guard11t, guard11f, guard12t, guard12f, gct_1, gcf_1, gct_2, gcf_2, gct_3, gcf_3, gct_4, gcf_4, gct_5, gcf_5, gct_6, gcf_6, gct_7, gcf_7, gct_8, gcf_8, gct_9, gcf_9, gct_10, gcf_10, gct_11, gcf_11, gct_12, gcf_12, gct_13, gcf_13, gct_14, gcf_14, pick_and, pick_or, pick_andn, pick_orn, nest_and, nest_or, nest_andn, nest_orn, nest_andt, nest_orf, nest_orx, nest_orfx, oZ_V, er, e84 ov]
  rfl
theorem e54 {v : Val} (ov : okV v) {d : Nat} {σ : AS} {K : AV → AS → Prop} : oC T0 d 54 [encV v] σ K = K (.b (vldB v)) σ := (c54 v ov).eq d σ K
end Go.Proofs.YtmfhmlhaofpeiaaGreatDoor.Ev
/- Valid steps and paths. -/
namespace Go.Proofs.YtmfhmlhaofpeiaaGreatDoor.Ev
open Go Go.RowKit
set_option linter.unusedSimpArgs false
set_option linter.unusedVariables false
set_option maxRecDepth 100000

def strV (s : List UInt8) : Val := .mk 3 0 s [] []
theorem okV_str {s : List UInt8} (hs : s.length ≤ 140737488351232) : okV (strV s) := .mk rfl rfl hs (by simp) (by simp) (fun x h => by cases h) (fun x h => by cases h)
theorem vld_str (s : List UInt8) : vldB (strV s) = txB s := by
  have h1 : szW (sizeV (strV s)) = 1 := by
    have : sizeV (strV s) = 1 := by rw [sizeV_eq]; show 1 + sizeVs [] + sizeFs [] = 1; rw [sizeVs, sizeFs]
    rw [this, szW_one]
  have h2 : validL 12 (strV s) = txB s := by
    show (headB (strV s) && ([] : List Val).all (validL 11) && (List.range 0).all _) = txB s
    have : headB (strV s) = txB s := by
      unfold headB scB strV Val.kind Val.n Val.s Val.list Val.fields; simp
    rw [this]; simp
  unfold vldB; rw [h1, h2]; simp
theorem bld_35 (s : List UInt8) : evBuild T0 35 [(0, .i .i64 3), (2, .s s)] = some (.agg [.i .i64 3, .i .i64 0, .s s, .nilz true, .nilz true]) := by kernel_rfl
theorem c61 (s : List UInt8) : R T0 61 [.s s] (encV (strV s)) := by
  refine r61 _ rfl rfl ?_
  unfold w61
  dsimp only [prims]
  rw [oN_eq, bld_35, oV_some', store_all sz_35 rfl rfl rfl, oH_some, load_p (get_put_same _ _ _) (Nat.zero_le _), List.drop_zero, ofc_35]
  refine ⟨1, _, rfl, ?_⟩
  rw [encV_eq]; rfl
theorem e61 {s : List UInt8} {d : Nat} {σ : AS} {K : AV → AS → Prop} : oC T0 d 61 [.s s] σ K = K (encV (strV s)) σ := (c61 s).eq d σ K
def stepB (x : XStep) : Bool := if x.kind_ = 1 then nmB x.name_ && decide (x.index_ = 0) && decide (x.value_.length = 0) else if x.kind_ = 2 then decide (0 ≤ x.index_) && decide (x.index_ ≤ 64) && decide (x.name_.length = 0) && decide (x.value_.length = 0)
  else if x.kind_ = 3 then nmB x.name_ && decide (x.index_ = 0) && txB x.value_ else false
theorem c35 (x : XStep) (ox : okXStep x) : R T0 35 [encXStep x] (.b (stepB x)) := by
  have hn : x.name_.length ≤ 140737488351232 := ox.2.1
  have hv : x.value_.length ≤ 140737488351232 := ox.2.2.2
  have es : ∀ (d : Nat) (σ : AS) (K : AV → AS → Prop), oC T0 d 54 [encV (strV x.value_)] σ K = K (.b (txB x.value_)) σ := fun d σ K => by rw [e54 (okV_str hv), vld_str]
  refine r35 _ rfl rfl ?_
  unfold w35
  dsimp only [prims]
  by_cases k1 : x.kind_ = 1
  · simp (disch := first | omega | assumption | exact scell | exact clen_XStep | (simp only [clen_XStep]; omega)) only [Nat.zero_add, oV_some', oN_eq, oM_some, oH_some, oD_some, oE_some, oS_eq, oT_true, oI_true, oI_false, pick_t, pick_f, un_not, oI_not, decide_not, toNat_sub1, toNat_add1, decide_true, decide_false, not_true, not_false_eq_true, Bool.not_true, Bool.not_false, Bool.not_not, oZ_b, oZ_i, oZ_s, oZ_l, slen_map, wr64, Int.toNat_natCast, Int.toNat_zero, ne_eq, bin_le, b_sle, bin_ge, bin_sge, bin_eq, b_snil, beq_4, load_get, loadB_some, get_put_same, get_put_ne, ofc_s, load_i, off_i, off_p, ofc_encXStep, ofc0_encXStep, st_XStep, fld_XStep_kind_, fld_XStep_name_, fld_XStep_index_, fld_XStep_value_, prt_XStep_kind_, prt_XStep_name_, prt_XStep_index_, prt_XStep_value_, gtt_3, gff_3, gtf_3, gft_3, gvv_3, gnt_3, gnf_3, gtt_4, gff_4, gtf_4, gft_4, gvv_4, gnt_4, gnf_4, cnd_true, cnd_false, Bool.true_and, guard1t, guard1f, guard2t, guard2f, guard3t, guard3f, guard4t, guard4f, guard5t, guard5f, guard6t, guard6f, guard7t, guard7f, guard8t, guard8f, guard9t, guard9f, guard10t, guard10f, guard11t, guard11f, guard12t, guard12f, gct_1, gcf_1, gct_2, gcf_2, gct_3, gcf_3, gct_4, gcf_4, gct_5, gcf_5, gct_6, gcf_6, gct_7, gcf_7, gct_8, gcf_8, gct_9, gcf_9, gct_10, gcf_10, gct_11, gcf_11, gct_12, gcf_12, gct_13, gcf_13, gct_14, gcf_14, pick_and, pick_or, pick_andn, pick_orn, nest_and, nest_or, nest_andn, nest_orn, nest_andt, nest_orf, nest_orx, nest_orfx, oZ_V, e60 hn, decide_eq_true k1]
    unfold stepB; rw [if_pos k1]
  · by_cases k2 : x.kind_ = 2
    · simp (disch := first | omega | assumption | exact scell | exact clen_XStep | (simp only [clen_XStep]; omega)) only [Nat.zero_add, oV_some', oN_eq, oM_some, oH_some, oD_some, oE_some, oS_eq, oT_true, oI_true, oI_false, pick_t, pick_f, un_not, oI_not, decide_not, toNat_sub1, toNat_add1, decide_true, decide_false, not_true, not_false_eq_true, Bool.not_true, Bool.not_false, Bool.not_not, oZ_b, oZ_i, oZ_s, oZ_l, slen_map, wr64, Int.toNat_natCast, Int.toNat_zero, ne_eq, bin_le, b_sle, bin_ge, bin_sge, bin_eq, b_snil, beq_4, load_get, loadB_some, get_put_same, get_put_ne, ofc_s, load_i, off_i, off_p, ofc_encXStep, ofc0_encXStep, st_XStep, fld_XStep_kind_, fld_XStep_name_, fld_XStep_index_, fld_XStep_value_, prt_XStep_kind_, prt_XStep_name_, prt_XStep_index_, prt_XStep_value_, gtt_3, gff_3, gtf_3, gft_3, gvv_3, gnt_3, gnf_3, gtt_4, gff_4, gtf_4, gft_4, gvv_4, gnt_4, gnf_4, cnd_true, cnd_false, Bool.true_and, guard1t, guard1f, guard2t, guard2f, guard3t, guard3f, guard4t, guard4f, guard5t, guard5f, guard6t, guard6f, guard7t, guard7f, guard8t, guard8f, guard9t, guard9f, guard10t, guard10f, guard11t, guard11f, guard12t, guard12f, gct_1, gcf_1, gct_2, gcf_2, gct_3, gcf_3, gct_4, gcf_4, gct_5, gcf_5, gct_6, gcf_6, gct_7, gcf_7, gct_8, gcf_8, gct_9, gcf_9, gct_10, gcf_10, gct_11, gcf_11, gct_12, gcf_12, gct_13, gcf_13, gct_14, gcf_14, pick_and, pick_or, pick_andn, pick_orn, nest_and, nest_or, nest_andn, nest_orn, nest_andt, nest_orf, nest_orx, nest_orfx, oZ_V, e60 hn, decide_eq_false k1, decide_eq_true k2]
      unfold stepB; rw [if_neg k1, if_pos k2]
    · by_cases k3 : x.kind_ = 3
      · simp (disch := first | omega | assumption | exact scell | exact clen_XStep | (simp only [clen_XStep]; omega)) only [Nat.zero_add, oV_some', oN_eq, oM_some, oH_some, oD_some, oE_some, oS_eq, oT_true, oI_true, oI_false, pick_t, pick_f, un_not, oI_not, decide_not, toNat_sub1, toNat_add1, decide_true, decide_false, not_true, not_false_eq_true, Bool.not_true, Bool.not_false, Bool.not_not, oZ_b, oZ_i, oZ_s, oZ_l, slen_map, wr64, Int.toNat_natCast, Int.toNat_zero, ne_eq, bin_le, b_sle, bin_ge, bin_sge, bin_eq, b_snil, beq_4, load_get, loadB_some, get_put_same, get_put_ne, ofc_s, load_i, off_i, off_p, ofc_encXStep, ofc0_encXStep, st_XStep, fld_XStep_kind_, fld_XStep_name_, fld_XStep_index_, fld_XStep_value_, prt_XStep_kind_, prt_XStep_name_, prt_XStep_index_, prt_XStep_value_, gtt_3, gff_3, gtf_3, gft_3, gvv_3, gnt_3, gnf_3, gtt_4, gff_4, gtf_4, gft_4, gvv_4, gnt_4, gnf_4, cnd_true, cnd_false, Bool.true_and, guard1t, guard1f, guard2t, guard2f, guard3t, guard3f, guard4t, guard4f, guard5t, guard5f, guard6t, guard6f, guard7t, guard7f, guard8t, guard8f, guard9t, guard9f, guard10t, guard10f, guard11t, guard11f, guard12t, guard12f, gct_1, gcf_1, gct_2, gcf_2, gct_3, gcf_3, gct_4, gcf_4, gct_5, gcf_5, gct_6, gcf_6, gct_7, gcf_7, gct_8, gcf_8, gct_9, gcf_9, gct_10, gcf_10, gct_11, gcf_11, gct_12, gcf_12, gct_13, gcf_13, gct_14, gcf_14, pick_and, pick_or, pick_andn, pick_orn, nest_and, nest_or, nest_andn, nest_orn, nest_andt, nest_orf, nest_orx, nest_orfx, oZ_V, e60 hn, e61, es, decide_eq_false k1, decide_eq_false k2, decide_eq_true k3]
        unfold stepB; rw [if_neg k1, if_neg k2, if_pos k3]
      · simp (disch := first | omega | assumption | exact scell | exact clen_XStep | (simp only [clen_XStep]; omega)) only [Nat.zero_add, oV_some', oN_eq, oM_some, oH_some, oD_some, oE_some, oS_eq, oT_true, oI_true, oI_false, pick_t, pick_f, un_not, oI_not, decide_not, toNat_sub1, toNat_add1, decide_true, decide_false, not_true, not_false_eq_true, Bool.not_true, Bool.not_false, Bool.not_not, oZ_b, oZ_i, oZ_s, oZ_l, slen_map, wr64, Int.toNat_natCast, Int.toNat_zero, ne_eq, bin_le, b_sle, bin_ge, bin_sge, bin_eq, b_snil, beq_4, load_get, loadB_some, get_put_same, get_put_ne, ofc_s, load_i, off_i, off_p, ofc_encXStep, ofc0_encXStep, st_XStep, fld_XStep_kind_, fld_XStep_name_, fld_XStep_index_, fld_XStep_value_, prt_XStep_kind_, prt_XStep_name_, prt_XStep_index_, prt_XStep_value_, gtt_3, gff_3, gtf_3, gft_3, gvv_3, gnt_3, gnf_3, gtt_4, gff_4, gtf_4, gft_4, gvv_4, gnt_4, gnf_4, cnd_true, cnd_false, Bool.true_and, guard1t, guard1f, guard2t, guard2f, guard3t, guard3f, guard4t, guard4f, guard5t, guard5f, guard6t, guard6f, guard7t, guard7f, guard8t, guard8f, guard9t, guard9f, guard10t, guard10f, guard11t, guard11f, guard12t, guard12f, gct_1, gcf_1, gct_2, gcf_2, gct_3, gcf_3, gct_4, gcf_4, gct_5, gcf_5, gct_6, gcf_6, gct_7, gcf_7, gct_8, gcf_8, gct_9, gcf_9, gct_10, gcf_10, gct_11, gcf_11, gct_12, gcf_12, gct_13, gcf_13, gct_14, gcf_14, pick_and, pick_or, pick_andn, pick_orn, nest_and, nest_or, nest_andn, nest_orn, nest_andt, nest_orf, nest_orx, nest_orfx, oZ_V, e60 hn, decide_eq_false k1, decide_eq_false k2, decide_eq_false k3]
        unfold stepB; rw [if_neg k1, if_neg k2, if_neg k3]
theorem e35 {x : XStep} (ox : okXStep x) {d : Nat} {σ : AS} {K : AV → AS → Prop} : oC T0 d 35 [encXStep x] σ K = K (.b (stepB x)) σ := (c35 x ox).eq d σ K
theorem c36 (x : XStep) (ox : okXStep x) : R T0 36 [encXStep x] (.b (stepB x)) := by
  have hn : x.name_.length ≤ 140737488351232 := ox.2.1
  have hv : x.value_.length ≤ 140737488351232 := ox.2.2.2
  refine r36 _ rfl rfl ?_
  unfold w36
  dsimp only [prims]
  by_cases k1 : x.kind_ = 1
  · simp (disch := first | omega | assumption | exact scell | exact clen_XStep | (simp only [clen_XStep]; omega)) only [Nat.zero_add, oV_some', oN_eq, oM_some, oH_some, oD_some, oE_some, oS_eq, oT_true, oI_true, oI_false, pick_t, pick_f, un_not, oI_not, decide_not, toNat_sub1, toNat_add1, decide_true, decide_false, not_true, not_false_eq_true, Bool.not_true, Bool.not_false, Bool.not_not, oZ_b, oZ_i, oZ_s, oZ_l, slen_map, wr64, Int.toNat_natCast, Int.toNat_zero, ne_eq, bin_le, b_sle, bin_ge, bin_sge, bin_eq, b_snil, beq_4, load_get, loadB_some, get_put_same, get_put_ne, ofc_s, load_i, off_i, off_p, ofc_encXStep, ofc0_encXStep, st_XStep, fld_XStep_kind_, fld_XStep_name_, fld_XStep_index_, fld_XStep_value_, prt_XStep_kind_, prt_XStep_name_, prt_XStep_index_, prt_XStep_value_, gtt_3, gff_3, gtf_3, gft_3, gvv_3, gnt_3, gnf_3, cnd_true, cnd_false, Bool.true_and, guard1t, guard1f, guard2t, guard2f, guard3t, guard3f, guard4t, guard4f, guard5t, guard5f, guard6t, guard6f, guard7t, guard7f, guard8t, guard8f, guard9t, guard9f, guard10t, guard10f, guard11t, guard11f, guard12t, guard12f, gct_1, gcf_1, gct_2, gcf_2, gct_3, gcf_3, gct_4, gcf_4, gct_5, gcf_5, gct_6, gcf_6, gct_7, gcf_7, gct_8, gcf_8, gct_9, gcf_9, gct_10, gcf_10, gct_11, gcf_11, gct_12, gcf_12, gct_13, gcf_13, gct_14, gcf_14, pick_and, pick_or, pick_andn, pick_orn, nest_and, nest_or, nest_andn, nest_orn, nest_andt, nest_orf, nest_orx, nest_orfx, oZ_V, e62 hn, decide_eq_true k1]
    unfold stepB; rw [if_pos k1]
  · by_cases k2 : x.kind_ = 2
    · simp (disch := first | omega | assumption | exact scell | exact clen_XStep | (simp only [clen_XStep]; omega)) only [Nat.zero_add, oV_some', oN_eq, oM_some, oH_some, oD_some, oE_some, oS_eq, oT_true, oI_true, oI_false, pick_t, pick_f, un_not, oI_not, decide_not, toNat_sub1, toNat_add1, decide_true, decide_false, not_true, not_false_eq_true, Bool.not_true, Bool.not_false, Bool.not_not, oZ_b, oZ_i, oZ_s, oZ_l, slen_map, wr64, Int.toNat_natCast, Int.toNat_zero, ne_eq, bin_le, b_sle, bin_ge, bin_sge, bin_eq, b_snil, beq_4, load_get, loadB_some, get_put_same, get_put_ne, ofc_s, load_i, off_i, off_p, ofc_encXStep, ofc0_encXStep, st_XStep, fld_XStep_kind_, fld_XStep_name_, fld_XStep_index_, fld_XStep_value_, prt_XStep_kind_, prt_XStep_name_, prt_XStep_index_, prt_XStep_value_, gtt_3, gff_3, gtf_3, gft_3, gvv_3, gnt_3, gnf_3, cnd_true, cnd_false, Bool.true_and, guard1t, guard1f, guard2t, guard2f, guard3t, guard3f, guard4t, guard4f, guard5t, guard5f, guard6t, guard6f, guard7t, guard7f, guard8t, guard8f, guard9t, guard9f, guard10t, guard10f, guard11t, guard11f, guard12t, guard12f, gct_1, gcf_1, gct_2, gcf_2, gct_3, gcf_3, gct_4, gcf_4, gct_5, gcf_5, gct_6, gcf_6, gct_7, gcf_7, gct_8, gcf_8, gct_9, gcf_9, gct_10, gcf_10, gct_11, gcf_11, gct_12, gcf_12, gct_13, gcf_13, gct_14, gcf_14, pick_and, pick_or, pick_andn, pick_orn, nest_and, nest_or, nest_andn, nest_orn, nest_andt, nest_orf, nest_orx, nest_orfx, oZ_V, e62 hn, decide_eq_false k1, decide_eq_true k2]
      unfold stepB; rw [if_neg k1, if_pos k2]
    · by_cases k3 : x.kind_ = 3
      · simp (disch := first | omega | assumption | exact scell | exact clen_XStep | (simp only [clen_XStep]; omega)) only [Nat.zero_add, oV_some', oN_eq, oM_some, oH_some, oD_some, oE_some, oS_eq, oT_true, oI_true, oI_false, pick_t, pick_f, un_not, oI_not, decide_not, toNat_sub1, toNat_add1, decide_true, decide_false, not_true, not_false_eq_true, Bool.not_true, Bool.not_false, Bool.not_not, oZ_b, oZ_i, oZ_s, oZ_l, slen_map, wr64, Int.toNat_natCast, Int.toNat_zero, ne_eq, bin_le, b_sle, bin_ge, bin_sge, bin_eq, b_snil, beq_4, load_get, loadB_some, get_put_same, get_put_ne, ofc_s, load_i, off_i, off_p, ofc_encXStep, ofc0_encXStep, st_XStep, fld_XStep_kind_, fld_XStep_name_, fld_XStep_index_, fld_XStep_value_, prt_XStep_kind_, prt_XStep_name_, prt_XStep_index_, prt_XStep_value_, gtt_3, gff_3, gtf_3, gft_3, gvv_3, gnt_3, gnf_3, cnd_true, cnd_false, Bool.true_and, guard1t, guard1f, guard2t, guard2f, guard3t, guard3f, guard4t, guard4f, guard5t, guard5f, guard6t, guard6f, guard7t, guard7f, guard8t, guard8f, guard9t, guard9f, guard10t, guard10f, guard11t, guard11f, guard12t, guard12f, gct_1, gcf_1, gct_2, gcf_2, gct_3, gcf_3, gct_4, gcf_4, gct_5, gcf_5, gct_6, gcf_6, gct_7, gcf_7, gct_8, gcf_8, gct_9, gcf_9, gct_10, gcf_10, gct_11, gcf_11, gct_12, gcf_12, gct_13, gcf_13, gct_14, gcf_14, pick_and, pick_or, pick_andn, pick_orn, nest_and, nest_or, nest_andn, nest_orn, nest_andt, nest_orf, nest_orx, nest_orfx, oZ_V, e62 hn, e63 hv, decide_eq_false k1, decide_eq_false k2, decide_eq_true k3]
        unfold stepB; rw [if_neg k1, if_neg k2, if_pos k3]
        cases nmB x.name_ <;> cases txB x.value_ <;> cases decide (x.index_ = 0) <;> rfl
      · simp (disch := first | omega | assumption | exact scell | exact clen_XStep | (simp only [clen_XStep]; omega)) only [Nat.zero_add, oV_some', oN_eq, oM_some, oH_some, oD_some, oE_some, oS_eq, oT_true, oI_true, oI_false, pick_t, pick_f, un_not, oI_not, decide_not, toNat_sub1, toNat_add1, decide_true, decide_false, not_true, not_false_eq_true, Bool.not_true, Bool.not_false, Bool.not_not, oZ_b, oZ_i, oZ_s, oZ_l, slen_map, wr64, Int.toNat_natCast, Int.toNat_zero, ne_eq, bin_le, b_sle, bin_ge, bin_sge, bin_eq, b_snil, beq_4, load_get, loadB_some, get_put_same, get_put_ne, ofc_s, load_i, off_i, off_p, ofc_encXStep, ofc0_encXStep, st_XStep, fld_XStep_kind_, fld_XStep_name_, fld_XStep_index_, fld_XStep_value_, prt_XStep_kind_, prt_XStep_name_, prt_XStep_index_, prt_XStep_value_, gtt_3, gff_3, gtf_3, gft_3, gvv_3, gnt_3, gnf_3, cnd_true, cnd_false, Bool.true_and, guard1t, guard1f, guard2t, guard2f, guard3t, guard3f, guard4t, guard4f, guard5t, guard5f, guard6t, guard6f, guard7t, guard7f, guard8t, guard8f, guard9t, guard9f, guard10t, guard10f, guard11t, guard11f, guard12t, guard12f, gct_1, gcf_1, gct_2, gcf_2, gct_3, gcf_3, gct_4, gcf_4, gct_5, gcf_5, gct_6, gcf_6, gct_7, gcf_7, gct_8, gcf_8, gct_9, gcf_9, gct_10, gcf_10, gct_11, gcf_11, gct_12, gcf_12, gct_13, gcf_13, gct_14, gcf_14, pick_and, pick_or, pick_andn, pick_orn, nest_and, nest_or, nest_andn, nest_orn, nest_andt, nest_orf, nest_orx, nest_orfx, oZ_V, e62 hn, decide_eq_false k1, decide_eq_false k2, decide_eq_false k3]
        unfold stepB; rw [if_neg k1, if_neg k2, if_neg k3]; try rfl
theorem e36 {x : XStep} (ox : okXStep x) {d : Nat} {σ : AS} {K : AV → AS → Prop} : oC T0 d 36 [encXStep x] σ K = K (.b (stepB x)) σ := (c36 x ox).eq d σ K
def pathB (p : List XStep) : Bool := decide (p.length ≤ 16) && p.all stepB
end Go.Proofs.YtmfhmlhaofpeiaaGreatDoor.Ev
/- Valid paths; prefixes; the law PathValid. -/
namespace Go.Proofs.YtmfhmlhaofpeiaaGreatDoor.Ev
open Go Go.RowKit
set_option linter.unusedSimpArgs false
set_option linter.unusedVariables false
set_option maxRecDepth 100000

theorem eq50 (a b : XStep) : evEqT T0 20 50 (encXStep a) (encXStep b) = some ((a.kind_ == b.kind_) && ((a.name_ == b.name_) && ((a.index_ == b.index_) && ((a.value_ == b.value_) && true)))) := by kernel_rfl
theorem step_beq (a b : XStep) : ((a.kind_ == b.kind_) && ((a.name_ == b.name_) && ((a.index_ == b.index_) && ((a.value_ == b.value_) && true)))) = decide (a = b) := by
  rw [Bool.eq_iff_iff]
  cases a; cases b
  simp [XStep.mk.injEq]
theorem bne_50 (a b : XStep) (c : Bool) : evBin T0 .neq 50 c (encXStep a) (encXStep b) = some (.b (!decide (a = b))) := by
  have h : T0.eq 50 = true := by kernel_rfl
  have e : evBin T0 .neq 50 c (encXStep a) (encXStep b) = (match BinOp.neq, T0.eq 50 with
    | .eql, true => (evEqT T0 20 50 (encXStep a) (encXStep b)).map .b
    | .neq, true => (evEqT T0 20 50 (encXStep a) (encXStep b)).map fun r => .b (!r)
    | _, _ => none) := rfl
  rw [e, h, eq50, step_beq]; rfl
theorem c34 (x : XStep) (ox : okXStep x) : R T0 34 [encXStep x] (.b (!stepB x)) := by
  refine r34 _ rfl rfl ?_
  unfold w34
  dsimp only [prims]
  simp (disch := first | omega | assumption | exact scell | exact clen_XStep | (simp only [clen_XStep]; omega)) only [Nat.zero_add, oV_some', oN_eq, oM_some, oH_some, oD_some, oE_some, oS_eq, oT_true, oI_true, oI_false, pick_t, pick_f, un_not, oI_not, decide_not, toNat_sub1, toNat_add1, decide_true, decide_false, not_true, not_false_eq_true, Bool.not_true, Bool.not_false, Bool.not_not, oZ_b, oZ_i, oZ_s, oZ_l, slen_map, wr64, Int.toNat_natCast, Int.toNat_zero, ne_eq, load_get, loadB_some, get_put_same, get_put_ne, ofc_s, load_i, ofc_encXStep, ofc0_encXStep, st_XStep, fld_XStep_kind_, fld_XStep_name_, fld_XStep_index_, fld_XStep_value_, prt_XStep_kind_, prt_XStep_name_, prt_XStep_index_, prt_XStep_value_, e35 ox]
theorem e34 {x : XStep} (ox : okXStep x) {d : Nat} {σ : AS} {K : AV → AS → Prop} : oC T0 d 34 [encXStep x] σ K = K (.b (!stepB x)) σ := (c34 x ox).eq d σ K
theorem findIdx_at {α : Type} {q : α → Bool} {l : List α} {j : Nat} {d : α} (ha : (l.take j).all (fun x => !q x) = true) (hj : j < l.length) (hp : q (l.getD j d) = true) : l.findIdx q = j := by
  rw [List.findIdx_eq hj]
  have hg : l.getD j d = l[j] := by simp [List.getD_eq_getElem?_getD, hj]
  refine ⟨by rw [← hg]; exact hp, fun i hi => ?_⟩
  rw [List.all_eq_true] at ha
  have : l[i] ∈ l.take j := by
    rw [List.mem_take_iff_getElem]
    exact ⟨i, by omega, rfl⟩
  simpa using ha _ this
/-- The first index, or -1. -/
def idxB {α : Type} (q : α → Bool) (l : List α) : Int := if l.findIdx q < l.length then (l.findIdx q : Nat) else -1
theorem idxB_at {α : Type} {q : α → Bool} {l : List α} {j : Nat} {d : α} (ha : (l.take j).all (fun x => !q x) = true) (hj : j < l.length) (hp : q (l.getD j d) = true) : idxB q l = (j : Nat) := by
  unfold idxB; rw [findIdx_at ha hj hp, if_pos hj]
theorem idxB_no {α : Type} {q : α → Bool} {l : List α} (ha : l.all (fun x => !q x) = true) : idxB q l = -1 := by
  have : l.findIdx q = l.length := by
    rw [List.findIdx_eq_length]
    intro x hx
    rw [List.all_eq_true] at ha
    simpa using ha x hx
  unfold idxB; rw [this, if_neg (by omega)]
theorem idxB_ge {α : Type} (q : α → Bool) (l : List α) : decide (0 ≤ idxB q l) = l.any q := by
  unfold idxB
  cases h : l.any q
  · have : ¬ l.findIdx q < l.length := by
      intro hlt
      have := List.findIdx_lt_length.1 hlt
      obtain ⟨x, hx, hq⟩ := this
      rw [List.any_eq_false] at h
      exact h x hx hq
    rw [if_neg this]; rfl
  · have : l.findIdx q < l.length := by
      rw [List.any_eq_true] at h
      exact List.findIdx_lt_length.2 h
    rw [if_pos this]; simp
theorem c59 (p : List XStep) (hp : p.length ≤ 140737488351232) (ox : ∀ x ∈ p, okXStep x) : R T0 59 [.lst (p.map encXStep), .fn 34 [] []] (.i .i64 (idxB (fun x => !stepB x) p)) := by
  refine r59 _ _ rfl rfl ?_
  unfold w59
  dsimp only [prims]
  simp (disch := first | omega | assumption | exact scell | exact clen_XStep | (simp only [clen_XStep]; omega)) only [oV_some', len_22, slen_map]
  refine loop4 (X := Nat) (fun _ => .lst (p.map encXStep)) (fun _ => .fn 34 [] []) (fun _ => .i .i64 (p.length : Nat)) (fun j => .i .i64 (j : Nat)) (fun j σ => j ≤ p.length ∧ (p.take j).all (fun x => !(!stepB x)) = true) (fun j => p.length - j) ?_ 0 _ ⟨Nat.zero_le _, rfl⟩
  rintro R j σ ⟨hj, ha⟩ hR
  simp only [oV_some', bin_lt]
  refine oI_decd (fun h => ?_) (fun h => ?_)
  · have hj' : j < p.length := by omega
    have e34' := fun (d : Nat) (σ : AS) (K : AV → AS → Prop) => e34 (ox _ (getD_mem hj')) (d := d) (σ := σ) (K := K)
    cases hs : stepB (p.getD j default)
    · simp (disch := first | omega | assumption | exact scell | exact clen_XStep | (simp only [clen_XStep]; omega)) only [Nat.zero_add, oV_some', oN_eq, oM_some, oH_some, oD_some, oE_some, oS_eq, oT_true, oI_true, oI_false, pick_t, pick_f, un_not, oI_not, decide_not, toNat_sub1, toNat_add1, decide_true, decide_false, not_true, not_false_eq_true, Bool.not_true, Bool.not_false, Bool.not_not, oZ_b, oZ_i, oZ_s, oZ_l, slen_map, wr64, Int.toNat_natCast, Int.toNat_zero, ne_eq, bin_lt, bin_slt, bin_add, load_get, loadB_some, get_put_same, get_put_ne, ofc_s, load_i, ofc_encXStep, ofc0_encXStep, st_XStep, fld_XStep_kind_, fld_XStep_name_, fld_XStep_index_, fld_XStep_value_, prt_XStep_kind_, prt_XStep_name_, prt_XStep_index_, prt_XStep_value_, len_22, ia_22, Int.toNat_natCast, oF_fn, List.nil_append, List.append_nil, e34', hs]
      rw [idxB_at (d := default) ha hj' (by rw [hs]; rfl)]
    · simp (disch := first | omega | assumption | exact scell | exact clen_XStep | (simp only [clen_XStep]; omega)) only [Nat.zero_add, oV_some', oN_eq, oM_some, oH_some, oD_some, oE_some, oS_eq, oT_true, oI_true, oI_false, pick_t, pick_f, un_not, oI_not, decide_not, toNat_sub1, toNat_add1, decide_true, decide_false, not_true, not_false_eq_true, Bool.not_true, Bool.not_false, Bool.not_not, oZ_b, oZ_i, oZ_s, oZ_l, slen_map, wr64, Int.toNat_natCast, Int.toNat_zero, ne_eq, bin_lt, bin_slt, bin_add, load_get, loadB_some, get_put_same, get_put_ne, ofc_s, load_i, ofc_encXStep, ofc0_encXStep, st_XStep, fld_XStep_kind_, fld_XStep_name_, fld_XStep_index_, fld_XStep_value_, prt_XStep_kind_, prt_XStep_name_, prt_XStep_index_, prt_XStep_value_, len_22, ia_22, Int.toNat_natCast, oF_fn, List.nil_append, List.append_nil, e34', hs]
      exact hR (j + 1) _ ⟨by omega, all_take_succ (d := default) ha hj' (by rw [hs]; rfl)⟩ (by omega)
  · rw [idxB_no (all_end ha (by omega)), oZ_i]
theorem c33 (p : List XStep) (hp : p.length ≤ 140737488351232) (ox : ∀ x ∈ p, okXStep x) : R T0 33 [.lst (p.map encXStep), .fn 34 [] []] (.b (!p.all stepB)) := by
  refine r33 _ _ rfl rfl ?_
  unfold w33
  dsimp only [prims]
  have e : ∀ (d : Nat) (σ : AS) (K : AV → AS → Prop), oC T0 d 59 [.lst (p.map encXStep), .fn 34 [] []] σ K = K (.i .i64 (idxB (fun x => !stepB x) p)) σ := fun d σ K => (c59 p hp ox).eq d σ K
  simp (disch := first | omega | assumption | exact scell | exact clen_XStep | (simp only [clen_XStep]; omega)) only [Nat.zero_add, oV_some', oN_eq, oM_some, oH_some, oD_some, oE_some, oS_eq, oT_true, oI_true, oI_false, pick_t, pick_f, un_not, oI_not, decide_not, toNat_sub1, toNat_add1, decide_true, decide_false, not_true, not_false_eq_true, Bool.not_true, Bool.not_false, Bool.not_not, oZ_b, oZ_i, oZ_s, oZ_l, slen_map, wr64, Int.toNat_natCast, Int.toNat_zero, ne_eq, bin_ge, bin_sge, e, idxB_ge]
  rw [List.not_all_eq_any_not]
theorem c13 (p : List XStep) (hp : p.length ≤ 140737488351232) (ox : ∀ x ∈ p, okXStep x) : R T0 13 [.lst (p.map encXStep)] (.b (pathB p)) := by
  refine r13 _ rfl rfl ?_
  unfold w13
  dsimp only [prims]
  have e : ∀ (d : Nat) (σ : AS) (K : AV → AS → Prop), oC T0 d 33 [.lst (p.map encXStep), .fn 34 [] []] σ K = K (.b (!p.all stepB)) σ := fun d σ K => (c33 p hp ox).eq d σ K
  have q : ((p.length : Nat) : Int) ≤ 16 ↔ p.length ≤ 16 := by omega
  simp (disch := first | omega | assumption | exact scell | exact clen_XStep | (simp only [clen_XStep]; omega)) only [Nat.zero_add, oV_some', oN_eq, oM_some, oH_some, oD_some, oE_some, oS_eq, oT_true, oI_true, oI_false, pick_t, pick_f, un_not, oI_not, decide_not, toNat_sub1, toNat_add1, decide_true, decide_false, not_true, not_false_eq_true, Bool.not_true, Bool.not_false, Bool.not_not, oZ_b, oZ_i, oZ_s, oZ_l, slen_map, wr64, Int.toNat_natCast, Int.toNat_zero, ne_eq, bin_le, b_sle, ofc_encXStep, ofc0_encXStep, st_XStep, fld_XStep_kind_, fld_XStep_name_, fld_XStep_index_, fld_XStep_value_, prt_XStep_kind_, prt_XStep_name_, prt_XStep_index_, prt_XStep_value_, len_22, gtt_3, gff_3, gtf_3, gft_3, gvv_3, gnt_3, gnf_3, cnd_true, cnd_false, Bool.true_and, guard1t, guard1f, guard2t, guard2f, guard3t, guard3f, guard4t, guard4f, guard5t, guard5f, guard6t, guard6f, guard7t, guard7f, guard8t, guard8f, guard9t, guard9f, guard10t, guard10f, guard11t, guard11f, guard12t, guard12f, gct_1, gcf_1, gct_2, gcf_2, gct_3, gcf_3, gct_4, gcf_4, gct_5, gcf_5, gct_6, gcf_6, gct_7, gcf_7, gct_8, gcf_8, gct_9, gcf_9, gct_10, gcf_10, gct_11, gcf_11, gct_12, gcf_12, gct_13, gcf_13, gct_14, gcf_14, pick_and, pick_or, pick_andn, pick_orn, nest_and, nest_or, nest_andn, nest_orn, nest_andt, nest_orf, nest_orx, nest_orfx, oZ_V, e, q]
  rfl
theorem e13 {p : List XStep} (hp : p.length ≤ 140737488351232) (ox : ∀ x ∈ p, okXStep x) {d : Nat} {σ : AS} {K : AV → AS → Prop} : oC T0 d 13 [.lst (p.map encXStep)] σ K = K (.b (pathB p)) σ := (c13 p hp ox).eq d σ K
theorem c14 (p : List XStep) (hp : p.length ≤ 140737488351232) (ox : ∀ x ∈ p, okXStep x) : R T0 14 [.lst (p.map encXStep)] (.b (pathB p)) := by
  refine r14 _ rfl rfl ?_
  unfold w14
  dsimp only [prims]
  refine loop2 (X := Nat) (fun _ => .lst (p.map encXStep)) (fun j => .i .i64 (j : Nat)) (fun j σ => j ≤ p.length ∧ (p.take j).all stepB = true) (fun j => p.length - j) ?_ 0 _ ⟨Nat.zero_le _, rfl⟩
  rintro R j σ ⟨hj, ha⟩ hR
  simp (disch := first | omega | assumption | exact scell | exact clen_XStep | (simp only [clen_XStep]; omega)) only [oV_some', len_22, slen_map, bin_lt]
  refine oI_decd (fun h => ?_) (fun h => ?_)
  · have hj' : j < p.length := by omega
    have e36' := fun (d : Nat) (σ : AS) (K : AV → AS → Prop) => e36 (ox _ (getD_mem hj')) (d := d) (σ := σ) (K := K)
    cases hs : stepB (p.getD j default)
    · simp (disch := first | omega | assumption | exact scell | exact clen_XStep | (simp only [clen_XStep]; omega)) only [Nat.zero_add, oV_some', oN_eq, oM_some, oH_some, oD_some, oE_some, oS_eq, oT_true, oI_true, oI_false, pick_t, pick_f, un_not, oI_not, decide_not, toNat_sub1, toNat_add1, decide_true, decide_false, not_true, not_false_eq_true, Bool.not_true, Bool.not_false, Bool.not_not, oZ_b, oZ_i, oZ_s, oZ_l, slen_map, wr64, Int.toNat_natCast, Int.toNat_zero, ne_eq, bin_lt, bin_slt, bin_le, b_sle, bin_add, load_get, loadB_some, get_put_same, get_put_ne, ofc_s, load_i, ofc_encXStep, ofc0_encXStep, st_XStep, fld_XStep_kind_, fld_XStep_name_, fld_XStep_index_, fld_XStep_value_, prt_XStep_kind_, prt_XStep_name_, prt_XStep_index_, prt_XStep_value_, len_22, ia_22, Int.toNat_natCast, e36', hs]
      unfold pathB; rw [all_false_at (d := default) hj' hs, Bool.and_false]
    · simp (disch := first | omega | assumption | exact scell | exact clen_XStep | (simp only [clen_XStep]; omega)) only [Nat.zero_add, oV_some', oN_eq, oM_some, oH_some, oD_some, oE_some, oS_eq, oT_true, oI_true, oI_false, pick_t, pick_f, un_not, oI_not, decide_not, toNat_sub1, toNat_add1, decide_true, decide_false, not_true, not_false_eq_true, Bool.not_true, Bool.not_false, Bool.not_not, oZ_b, oZ_i, oZ_s, oZ_l, slen_map, wr64, Int.toNat_natCast, Int.toNat_zero, ne_eq, bin_lt, bin_slt, bin_le, b_sle, bin_add, load_get, loadB_some, get_put_same, get_put_ne, ofc_s, load_i, ofc_encXStep, ofc0_encXStep, st_XStep, fld_XStep_kind_, fld_XStep_name_, fld_XStep_index_, fld_XStep_value_, prt_XStep_kind_, prt_XStep_name_, prt_XStep_index_, prt_XStep_value_, len_22, ia_22, Int.toNat_natCast, e36', hs]
      exact hR (j + 1) _ ⟨by omega, all_take_succ (d := default) ha hj' hs⟩ (by omega)
  · have q : ((p.length : Nat) : Int) ≤ 16 ↔ p.length ≤ 16 := by omega
    simp (disch := first | omega | assumption | exact scell | exact clen_XStep | (simp only [clen_XStep]; omega)) only [Nat.zero_add, oV_some', oN_eq, oM_some, oH_some, oD_some, oE_some, oS_eq, oT_true, oI_true, oI_false, pick_t, pick_f, un_not, oI_not, decide_not, toNat_sub1, toNat_add1, decide_true, decide_false, not_true, not_false_eq_true, Bool.not_true, Bool.not_false, Bool.not_not, oZ_b, oZ_i, oZ_s, oZ_l, slen_map, wr64, Int.toNat_natCast, Int.toNat_zero, ne_eq, bin_lt, bin_slt, bin_le, b_sle, bin_add, load_get, loadB_some, get_put_same, get_put_ne, ofc_s, load_i, ofc_encXStep, ofc0_encXStep, st_XStep, fld_XStep_kind_, fld_XStep_name_, fld_XStep_index_, fld_XStep_value_, prt_XStep_kind_, prt_XStep_name_, prt_XStep_index_, prt_XStep_value_, len_22, ia_22, q]
    unfold pathB; rw [all_end ha (by omega), Bool.and_true]
theorem e14 {p : List XStep} (hp : p.length ≤ 140737488351232) (ox : ∀ x ∈ p, okXStep x) {d : Nat} {σ : AS} {K : AV → AS → Prop} : oC T0 d 14 [.lst (p.map encXStep)] σ K = K (.b (pathB p)) σ := (c14 p hp ox).eq d σ K
end Go.Proofs.YtmfhmlhaofpeiaaGreatDoor.Ev
/- Prefixes; the law PathValid. -/
namespace Go.Proofs.YtmfhmlhaofpeiaaGreatDoor.Ev
open Go Go.RowKit
set_option linter.unusedSimpArgs false
set_option linter.unusedVariables false
set_option maxRecDepth 100000

theorem take_eq_succ {α : Type} [Inhabited α] {a b : List α} {j : Nat} (ha : j < a.length) (hb : j < b.length) (h : a.take j = b.take j) (he : a.getD j default = b.getD j default) : a.take (j + 1) = b.take (j + 1) := by
  rw [take_snoc ha, take_snoc hb, h, he]
theorem take_ne {α : Type} [Inhabited α] {a b : List α} {j : Nat} (he : ¬ a.getD j default = b.getD j default) : ¬ a = b := fun e => he (by rw [e])
theorem c37 (a b : List XStep) (ha : a.length ≤ 140737488351232) (hb : b.length ≤ 140737488351232) : R T0 37 [.lst (a.map encXStep), .lst (b.map encXStep)] (.b (decide (a = b))) := by
  refine r37 _ _ rfl rfl ?_
  unfold w37
  dsimp only [prims]
  by_cases hl : a.length = b.length
  · have hl' : decide (((a.length : Nat) : Int) = (b.length : Nat)) = true := decide_eq_true (by omega)
    simp (disch := first | omega | assumption | exact scell | exact clen_XStep | (simp only [clen_XStep]; omega)) only [Nat.zero_add, oV_some', oN_eq, oM_some, oH_some, oD_some, oE_some, oS_eq, oT_true, oI_true, oI_false, pick_t, pick_f, un_not, oI_not, decide_not, toNat_sub1, toNat_add1, decide_true, decide_false, not_true, not_false_eq_true, Bool.not_true, Bool.not_false, Bool.not_not, oZ_b, oZ_i, oZ_s, oZ_l, slen_map, wr64, Int.toNat_natCast, Int.toNat_zero, ne_eq, bin_lt, bin_slt, bin_ne, b_snnil, bne_4, bin_add, load_get, loadB_some, get_put_same, get_put_ne, ofc_s, load_i, ofc_encXStep, ofc0_encXStep, st_XStep, fld_XStep_kind_, fld_XStep_name_, fld_XStep_index_, fld_XStep_value_, prt_XStep_kind_, prt_XStep_name_, prt_XStep_index_, prt_XStep_value_, len_22, ia_22, hl']
    refine loop4 (X := Nat) (fun _ => .lst (b.map encXStep)) (fun _ => .lst (a.map encXStep)) (fun _ => .i .i64 (a.length : Nat)) (fun j => .i .i64 (j : Nat)) (fun j σ => j ≤ a.length ∧ a.take j = b.take j) (fun j => a.length - j) ?_ 0 _ ⟨Nat.zero_le _, rfl⟩
    rintro R j σ ⟨hj, ht⟩ hR
    simp only [oV_some', bin_lt]
    refine oI_decd (fun h => ?_) (fun h => ?_)
    · have hj' : j < a.length := by omega
      by_cases q : a.getD j default = b.getD j default
      · simp (disch := first | omega | assumption | exact scell | exact clen_XStep | (simp only [clen_XStep]; omega)) only [Nat.zero_add, oV_some', oN_eq, oM_some, oH_some, oD_some, oE_some, oS_eq, oT_true, oI_true, oI_false, pick_t, pick_f, un_not, oI_not, decide_not, toNat_sub1, toNat_add1, decide_true, decide_false, not_true, not_false_eq_true, Bool.not_true, Bool.not_false, Bool.not_not, oZ_b, oZ_i, oZ_s, oZ_l, slen_map, wr64, Int.toNat_natCast, Int.toNat_zero, ne_eq, bin_lt, bin_slt, bin_ne, b_snnil, bne_4, bin_add, load_get, loadB_some, get_put_same, get_put_ne, ofc_s, load_i, ofc_encXStep, ofc0_encXStep, st_XStep, fld_XStep_kind_, fld_XStep_name_, fld_XStep_index_, fld_XStep_value_, prt_XStep_kind_, prt_XStep_name_, prt_XStep_index_, prt_XStep_value_, len_22, ia_22, Int.toNat_natCast, bne_50, decide_eq_true q]
        exact hR (j + 1) _ ⟨by omega, take_eq_succ hj' (by omega) ht q⟩ (by omega)
      · simp (disch := first | omega | assumption | exact scell | exact clen_XStep | (simp only [clen_XStep]; omega)) only [Nat.zero_add, oV_some', oN_eq, oM_some, oH_some, oD_some, oE_some, oS_eq, oT_true, oI_true, oI_false, pick_t, pick_f, un_not, oI_not, decide_not, toNat_sub1, toNat_add1, decide_true, decide_false, not_true, not_false_eq_true, Bool.not_true, Bool.not_false, Bool.not_not, oZ_b, oZ_i, oZ_s, oZ_l, slen_map, wr64, Int.toNat_natCast, Int.toNat_zero, ne_eq, bin_lt, bin_slt, bin_ne, b_snnil, bne_4, bin_add, load_get, loadB_some, get_put_same, get_put_ne, ofc_s, load_i, ofc_encXStep, ofc0_encXStep, st_XStep, fld_XStep_kind_, fld_XStep_name_, fld_XStep_index_, fld_XStep_value_, prt_XStep_kind_, prt_XStep_name_, prt_XStep_index_, prt_XStep_value_, len_22, ia_22, Int.toNat_natCast, bne_50, decide_eq_false q]
        rw [decide_eq_false (take_ne q)]
    · have : a = b := by
        have h1 : a.take j = a := List.take_of_length_le (by omega)
        have h2 : b.take j = b := List.take_of_length_le (by omega)
        rw [← h1, ht, h2]
      try rw [oZ_b]
      rw [decide_eq_true this]
  · have hl' : decide (((a.length : Nat) : Int) = (b.length : Nat)) = false := decide_eq_false (by omega)
    simp (disch := first | omega | assumption | exact scell | exact clen_XStep | (simp only [clen_XStep]; omega)) only [Nat.zero_add, oV_some', oN_eq, oM_some, oH_some, oD_some, oE_some, oS_eq, oT_true, oI_true, oI_false, pick_t, pick_f, un_not, oI_not, decide_not, toNat_sub1, toNat_add1, decide_true, decide_false, not_true, not_false_eq_true, Bool.not_true, Bool.not_false, Bool.not_not, oZ_b, oZ_i, oZ_s, oZ_l, slen_map, wr64, Int.toNat_natCast, Int.toNat_zero, ne_eq, bin_lt, bin_slt, bin_ne, b_snnil, bne_4, bin_add, load_get, loadB_some, get_put_same, get_put_ne, ofc_s, load_i, ofc_encXStep, ofc0_encXStep, st_XStep, fld_XStep_kind_, fld_XStep_name_, fld_XStep_index_, fld_XStep_value_, prt_XStep_kind_, prt_XStep_name_, prt_XStep_index_, prt_XStep_value_, len_22, ia_22, hl']
    rw [decide_eq_false (fun e => hl (by rw [e]))]
def hpB (p q : List XStep) : Bool := decide (q.length ≤ p.length) && decide (p.take q.length = q)
theorem c16 (p q : List XStep) (hp : p.length ≤ 140737488351232) (hq : q.length ≤ 140737488351232) : R T0 16 [.lst (p.map encXStep), .lst (q.map encXStep)] (.b (hpB p q)) := by
  refine r16 _ _ rfl rfl ?_
  unfold w16
  dsimp only [prims]
  by_cases hl : q.length ≤ p.length
  · have hl' : decide (((p.length : Nat) : Int) < (q.length : Nat)) = false := decide_eq_false (by omega)
    simp (disch := first | omega | assumption | exact scell | exact clen_XStep | (simp only [clen_XStep]; omega)) only [len_22, slen_map, oV_some', bin_lt, hl', oI_false]
    refine loop3 (X := Nat) (fun _ => .lst (q.map encXStep)) (fun _ => .lst (p.map encXStep)) (fun j => .i .i64 (j : Nat)) (fun j σ => j ≤ q.length ∧ p.take j = q.take j) (fun j => q.length - j) ?_ 0 _ ⟨Nat.zero_le _, rfl⟩
    rintro R j σ ⟨hj, ht⟩ hR
    simp (disch := first | omega | assumption | exact scell | exact clen_XStep | (simp only [clen_XStep]; omega)) only [oV_some', len_22, slen_map, bin_lt]
    refine oI_decd (fun h => ?_) (fun h => ?_)
    · have hj' : j < q.length := by omega
      by_cases w : p.getD j default = q.getD j default
      · simp (disch := first | omega | assumption | exact scell | exact clen_XStep | (simp only [clen_XStep]; omega)) only [Nat.zero_add, oV_some', oN_eq, oM_some, oH_some, oD_some, oE_some, oS_eq, oT_true, oI_true, oI_false, pick_t, pick_f, un_not, oI_not, decide_not, toNat_sub1, toNat_add1, decide_true, decide_false, not_true, not_false_eq_true, Bool.not_true, Bool.not_false, Bool.not_not, oZ_b, oZ_i, oZ_s, oZ_l, slen_map, wr64, Int.toNat_natCast, Int.toNat_zero, ne_eq, bin_lt, bin_slt, bin_ne, b_snnil, bne_4, bin_add, load_get, loadB_some, get_put_same, get_put_ne, ofc_s, load_i, ofc_encXStep, ofc0_encXStep, st_XStep, fld_XStep_kind_, fld_XStep_name_, fld_XStep_index_, fld_XStep_value_, prt_XStep_kind_, prt_XStep_name_, prt_XStep_index_, prt_XStep_value_, len_22, ia_22, Int.toNat_natCast, bne_50, decide_eq_true w]
        exact hR (j + 1) _ ⟨by omega, take_eq_succ (by omega) hj' ht w⟩ (by omega)
      · simp (disch := first | omega | assumption | exact scell | exact clen_XStep | (simp only [clen_XStep]; omega)) only [Nat.zero_add, oV_some', oN_eq, oM_some, oH_some, oD_some, oE_some, oS_eq, oT_true, oI_true, oI_false, pick_t, pick_f, un_not, oI_not, decide_not, toNat_sub1, toNat_add1, decide_true, decide_false, not_true, not_false_eq_true, Bool.not_true, Bool.not_false, Bool.not_not, oZ_b, oZ_i, oZ_s, oZ_l, slen_map, wr64, Int.toNat_natCast, Int.toNat_zero, ne_eq, bin_lt, bin_slt, bin_ne, b_snnil, bne_4, bin_add, load_get, loadB_some, get_put_same, get_put_ne, ofc_s, load_i, ofc_encXStep, ofc0_encXStep, st_XStep, fld_XStep_kind_, fld_XStep_name_, fld_XStep_index_, fld_XStep_value_, prt_XStep_kind_, prt_XStep_name_, prt_XStep_index_, prt_XStep_value_, len_22, ia_22, Int.toNat_natCast, bne_50, decide_eq_false w]
        have : ¬ p.take q.length = q := fun e => w (by
          have h1 := congrArg (fun l => l.getD j default) e
          simp only [List.getD_eq_getElem?_getD, List.getElem?_take, if_pos hj'] at h1
          rw [List.getD_eq_getElem?_getD, List.getD_eq_getElem?_getD, h1])
        unfold hpB; rw [decide_eq_false this, Bool.and_false]
    · have : p.take q.length = q := by
        obtain rfl : j = q.length := by omega
        rw [ht, List.take_length]
      try rw [oZ_b]
      unfold hpB; rw [decide_eq_true hl, decide_eq_true this]; rfl
  · have hl' : decide (((p.length : Nat) : Int) < (q.length : Nat)) = true := decide_eq_true (by omega)
    simp (disch := first | omega | assumption | exact scell | exact clen_XStep | (simp only [clen_XStep]; omega)) only [len_22, slen_map, oV_some', bin_lt, hl', oI_true, oZ_b]
    unfold hpB; rw [decide_eq_false hl, Bool.false_and]
theorem e16 {p q : List XStep} (hp : p.length ≤ 140737488351232) (hq : q.length ≤ 140737488351232) {d : Nat} {σ : AS} {K : AV → AS → Prop} : oC T0 d 16 [.lst (p.map encXStep), .lst (q.map encXStep)] σ K = K (.b (hpB p q)) σ := (c16 p q hp hq).eq d σ K
def fewB (p : List XStep) : Bool := decide (p.length ≤ 20) && p.all (fun x => decide (x.name_.length ≤ 300) && decide (x.value_.length ≤ 300))
theorem c11 (p : List XStep) (hp : p.length ≤ 140737488351232) (ox : ∀ x ∈ p, okXStep x) : R T0 11 [.lst (p.map encXStep)] (.b (fewB p)) := by
  refine r11 _ rfl rfl ?_
  unfold w11
  dsimp only [prims]
  by_cases hl : p.length ≤ 20
  · have hl' : decide ((20 : Int) < (p.length : Nat)) = false := decide_eq_false (by omega)
    simp (disch := first | omega | assumption | exact scell | exact clen_XStep | (simp only [clen_XStep]; omega)) only [len_22, slen_map, oV_some', bin_gt, hl', oI_false]
    refine loop3 (X := Nat) (fun _ => .lst (p.map encXStep)) (fun _ => .i .i64 (p.length : Nat)) (fun j => .i .i64 (j : Nat)) (fun j σ => j ≤ p.length ∧ (p.take j).all (fun x => decide (x.name_.length ≤ 300) && decide (x.value_.length ≤ 300)) = true) (fun j => p.length - j) ?_ 0 _ ⟨Nat.zero_le _, rfl⟩
    rintro R j σ ⟨hj, ha⟩ hR
    simp only [oV_some', bin_lt]
    refine oI_decd (fun h => ?_) (fun h => ?_)
    · have hj' : j < p.length := by omega
      have no : (decide ((p.getD j default).name_.length ≤ 300) && decide ((p.getD j default).value_.length ≤ 300)) = false → fewB p = false := fun q => by
        unfold fewB; rw [all_false_at (p := fun x : XStep => decide (x.name_.length ≤ 300) && decide (x.value_.length ≤ 300)) (d := default) hj' q, Bool.and_false]
      by_cases q1 : (p.getD j default).name_.length ≤ 300
      · have q1' : decide ((300 : Int) < ((p.getD j default).name_.length : Nat)) = false := decide_eq_false (by omega)
        by_cases q2 : (p.getD j default).value_.length ≤ 300
        · have q2' : decide ((300 : Int) < ((p.getD j default).value_.length : Nat)) = false := decide_eq_false (by omega)
          simp (disch := first | omega | assumption | exact scell | exact clen_XStep | (simp only [clen_XStep]; omega)) only [Nat.zero_add, oV_some', oN_eq, oM_some, oH_some, oD_some, oE_some, oS_eq, oT_true, oI_true, oI_false, pick_t, pick_f, un_not, oI_not, decide_not, toNat_sub1, toNat_add1, decide_true, decide_false, not_true, not_false_eq_true, Bool.not_true, Bool.not_false, Bool.not_not, oZ_b, oZ_i, oZ_s, oZ_l, slen_map, wr64, Int.toNat_natCast, Int.toNat_zero, ne_eq, bin_lt, bin_slt, bin_gt, b_sgt, bin_add, load_get, loadB_some, get_put_same, get_put_ne, ofc_s, load_i, off_i, off_p, len_9, ofc_encXStep, ofc0_encXStep, st_XStep, fld_XStep_kind_, fld_XStep_name_, fld_XStep_index_, fld_XStep_value_, prt_XStep_kind_, prt_XStep_name_, prt_XStep_index_, prt_XStep_value_, len_22, ia_22, gtt_4, gff_4, gtf_4, gft_4, gvv_4, gnt_4, gnf_4, Int.toNat_natCast, q1', q2']
          exact hR (j + 1) _ ⟨by omega, all_take_succ (d := default) ha hj' (by rw [decide_eq_true q1, decide_eq_true q2]; rfl)⟩ (by omega)
        · have q2' : decide ((300 : Int) < ((p.getD j default).value_.length : Nat)) = true := decide_eq_true (by omega)
          simp (disch := first | omega | assumption | exact scell | exact clen_XStep | (simp only [clen_XStep]; omega)) only [Nat.zero_add, oV_some', oN_eq, oM_some, oH_some, oD_some, oE_some, oS_eq, oT_true, oI_true, oI_false, pick_t, pick_f, un_not, oI_not, decide_not, toNat_sub1, toNat_add1, decide_true, decide_false, not_true, not_false_eq_true, Bool.not_true, Bool.not_false, Bool.not_not, oZ_b, oZ_i, oZ_s, oZ_l, slen_map, wr64, Int.toNat_natCast, Int.toNat_zero, ne_eq, bin_lt, bin_slt, bin_gt, b_sgt, bin_add, load_get, loadB_some, get_put_same, get_put_ne, ofc_s, load_i, off_i, off_p, len_9, ofc_encXStep, ofc0_encXStep, st_XStep, fld_XStep_kind_, fld_XStep_name_, fld_XStep_index_, fld_XStep_value_, prt_XStep_kind_, prt_XStep_name_, prt_XStep_index_, prt_XStep_value_, len_22, ia_22, gtt_4, gff_4, gtf_4, gft_4, gvv_4, gnt_4, gnf_4, Int.toNat_natCast, q1', q2', no (by rw [decide_eq_false q2, Bool.and_false])]
      · have q1' : decide ((300 : Int) < ((p.getD j default).name_.length : Nat)) = true := decide_eq_true (by omega)
        simp (disch := first | omega | assumption | exact scell | exact clen_XStep | (simp only [clen_XStep]; omega)) only [Nat.zero_add, oV_some', oN_eq, oM_some, oH_some, oD_some, oE_some, oS_eq, oT_true, oI_true, oI_false, pick_t, pick_f, un_not, oI_not, decide_not, toNat_sub1, toNat_add1, decide_true, decide_false, not_true, not_false_eq_true, Bool.not_true, Bool.not_false, Bool.not_not, oZ_b, oZ_i, oZ_s, oZ_l, slen_map, wr64, Int.toNat_natCast, Int.toNat_zero, ne_eq, bin_lt, bin_slt, bin_gt, b_sgt, bin_add, load_get, loadB_some, get_put_same, get_put_ne, ofc_s, load_i, off_i, off_p, len_9, ofc_encXStep, ofc0_encXStep, st_XStep, fld_XStep_kind_, fld_XStep_name_, fld_XStep_index_, fld_XStep_value_, prt_XStep_kind_, prt_XStep_name_, prt_XStep_index_, prt_XStep_value_, len_22, ia_22, gtt_4, gff_4, gtf_4, gft_4, gvv_4, gnt_4, gnf_4, Int.toNat_natCast, q1', no (by rw [decide_eq_false q1, Bool.false_and])]
    · try rw [oZ_b]
      unfold fewB; rw [decide_eq_true hl, all_end ha (by omega)]; rfl
  · have hl' : decide ((20 : Int) < (p.length : Nat)) = true := decide_eq_true (by omega)
    simp (disch := first | omega | assumption | exact scell | exact clen_XStep | (simp only [clen_XStep]; omega)) only [len_22, slen_map, oV_some', bin_gt, hl', oI_true, oZ_b]
    unfold fewB; rw [decide_eq_false hl, Bool.false_and]
theorem e11 {p : List XStep} (hp : p.length ≤ 140737488351232) (ox : ∀ x ∈ p, okXStep x) {d : Nat} {σ : AS} {K : AV → AS → Prop} : oC T0 d 11 [.lst (p.map encXStep)] σ K = K (.b (fewB p)) σ := (c11 p hp ox).eq d σ K
theorem c12 : R T0 12 [] (.b true) := ⟨200, fun σ => by kernel_rfl⟩
theorem e12 {d : Nat} {σ : AS} {K : AV → AS → Prop} : oC T0 d 12 [] σ K = K (.b true) σ := c12.eq d σ K
end Go.Proofs.YtmfhmlhaofpeiaaGreatDoor.Ev
/- strings.Builder. -/
namespace Go.Proofs.YtmfhmlhaofpeiaaGreatDoor.Ev
open Go Go.RowKit
set_option linter.unusedSimpArgs false
set_option linter.unusedVariables false
set_option maxRecDepth 100000

def bA (c : UInt8) : AV := .i .u8 (c.toNat : Nat)
/-- A row of bytes of the call's own. -/
def OwnB (h : Tr AB) (n : Nat) (l : List UInt8) : Option Nat → Prop
  | none => l = []
  | some b => l ≠ [] ∧ b < n ∧ h.get b = some (.cells (l.map bA) 5 true)
/-- A Builder that holds these bytes. -/
def Bld (h : Tr AB) (n id : Nat) (l : List UInt8) (o : Option Nat) : Prop := id < n ∧ (∃ a g, h.get id = some (.cells [a, vOf o l.length] 65 g) ∧ (a = .nilp ∨ a = .ptr id 0)) ∧ OwnB h n l o ∧ ∀ i, o = some i → i ≠ id
theorem ty63 : T0.ty 63 = some (.slice 5) := by kernel_rfl
theorem leafs_b (l : List UInt8) : allLeaf (l.map bA) = true := by
  induction l with
  | nil => rfl
  | cons c l ih => simp only [List.map_cons, allLeaf]; exact ih
theorem bytes_b (l : List UInt8) : bytesOf (l.map bA) = some l := by
  induction l with
  | nil => rfl
  | cons c l ih =>
    have e : bytesOf ((c :: l).map bA) = (bytesOf (l.map bA)).map (UInt8.ofNat ((c.toNat : Nat) : Int).toNat :: ·) := rfl
    rw [e, ih]
    simp
theorem small1 {n : Nat} (h : n ≤ 140737488351232) : smallN n 1 = true := by
  unfold smallN
  rw [Nat.ble_eq_true_of_le h, Nat.ble_eq_true_of_le (by omega), Nat.ble_eq_true_of_le (by omega)]; rfl
theorem appB {h : Tr AB} {n : Nat} {l xs : List UInt8} {o : Option Nat} {x : AV} {xt : Nat} {xd : TypeDesc} (ho : OwnB h n l o) (hxt : T0.ty xt = some xd) (hxd : xd = .string ∨ ∃ e, xd = .slice e) (hlen : lenA x = some xs.length) (hnew : newCells h 1 xs.length x = some (xs.map bA)) (hs : (l ++ xs).length ≤ 140737488351232) (hne : xs ≠ []) :
    evAppend T0 ⟨h, n⟩ 63 xt (vOf o l.length) x = some (vOf (some n) (l ++ xs).length, ⟨(killO h o).put n (some (.cells ((l ++ xs).map bA) 5 true)), n + 1⟩) := by
  have hz : T0.sz 5 = some 1 := by kernel_rfl
  have hb : T0.by_ 5 = some 1 := by kernel_rfl
  obtain ⟨zv, hzv⟩ : ∃ zv, T0.zr 5 = some zv := Option.isSome_iff_exists.1 (by kernel_rfl)
  obtain ⟨m, hm⟩ : ∃ m, xs.length = m + 1 := by
    cases xs with
    | nil => exact absurd rfl hne
    | cons a b => exact ⟨b.length, rfl⟩
  rw [List.length_append] at hs
  rw [hm] at hlen hnew hs
  have hsm := small1 hs
  unfold evAppend
  rcases hxd with rfl | ⟨e, rfl⟩
  all_goals
    simp only [ty63, hz, hb, hxt, hlen, hzv, Nat.zero_add, hnew]
    cases o with
    | none =>
      have hl : l = [] := ho
      subst hl
      simp only [List.length_nil, Nat.zero_add] at hsm
      simp only [vOf, List.length_nil, hsm, evGrow, killO, List.nil_append, hm]
    | some b =>
      obtain ⟨h1, h2, h3⟩ := ho
      have b1 : Nat.beq 5 5 = true := rfl
      have b2 : Nat.beq (l.length * 1) (l.map bA).length = true := by rw [List.length_map, Nat.mul_one]; exact Nat.beq_refl _
      simp only [vOf, h3, leafs_b, hsm, b1, b2, killO, List.map_append, List.length_append, hm]
theorem appB0 {h : Tr AB} {n : Nat} {l : List UInt8} {o : Option Nat} {x : AV} {xt : Nat} {xd : TypeDesc} (ho : OwnB h n l o) (hxt : T0.ty xt = some xd) (hxd : xd = .string ∨ ∃ e, xd = .slice e) (hlen : lenA x = some 0) (hnew : newCells h 1 0 x = some []) :
    evAppend T0 ⟨h, n⟩ 63 xt (vOf o l.length) x = some (vOf o l.length, ⟨h, n⟩) := by
  have hz : T0.sz 5 = some 1 := by kernel_rfl
  have hb : T0.by_ 5 = some 1 := by kernel_rfl
  obtain ⟨zv, hzv⟩ : ∃ zv, T0.zr 5 = some zv := Option.isSome_iff_exists.1 (by kernel_rfl)
  unfold evAppend
  rcases hxd with rfl | ⟨e, rfl⟩
  all_goals
    simp only [ty63, hz, hb, hxt, hlen, hzv, Nat.zero_add, hnew]
    cases o <;> rfl
/-- What writing a Builder leaves. -/
def BldTo (h : Tr AB) (n id : Nat) (o : Option Nat) (l' : List UInt8) (σ' : AS) : Prop := ∃ o', Bld σ'.h σ'.n id l' o' ∧ n ≤ σ'.n ∧ (∀ j, j < n → j ≠ id → o ≠ some j → σ'.h.get j = h.get j) ∧ (∀ i, o' = some i → o = some i ∨ n ≤ i)
theorem e98 (x : AV) {d : Nat} {σ : AS} {K : AV → AS → Prop} : oC T0 d 98 [x] σ K = K x σ := by
  have hp : T0.prim 98 = some primSame := by kernel_rfl
  have : R T0 98 [x] x := ⟨1, fun σ => by unfold evCall; simp only [hp, primSame]⟩
  exact this.eq d σ K
theorem cv1 {h : Tr AB} {id : Nat} {a b : AV} {e : Nat} {g : Bool} (hg : h.get id = some (.cells [a, b] e g)) : evConv T0 h 62 106 (.ptr id 0) = some (.ptr id 0) := by
  have h1 : T0.ty 62 = some (.pointer 65) := by kernel_rfl
  have h2 : T0.ty 106 = some .unsafePointer := by kernel_rfl
  have h3 : T0.sz 65 = some 2 := by kernel_rfl
  unfold evConv; simp only [h1, h2, hg, h3]
theorem cv2 {h : Tr AB} {id : Nat} {a b : AV} {g : Bool} (hg : h.get id = some (.cells [a, b] 65 g)) : evConv T0 h 106 62 (.ptr id 0) = some (.ptr id 0) := by
  have h1 : T0.ty 62 = some (.pointer 65) := by kernel_rfl
  have h2 : T0.ty 106 = some .unsafePointer := by kernel_rfl
  have h3 : T0.sz 65 = some 2 := by kernel_rfl
  unfold evConv; simp only [h1, h2, hg, h3]; rfl
theorem peq {id : Nat} {c : Bool} : evBin T0 .neq 62 c (.ptr id 0) (.ptr id 0) = some (.b false) := by
  have h1 : T0.ty 62 = some (.pointer 65) := by kernel_rfl
  have h3 : T0.sz 65 = some 2 := by kernel_rfl
  simp only [evBin, Nat.beq_refl, h1, h3, Bool.and_self]
theorem pnil {a : AV} {id : Nat} (ha : a = .nilp ∨ a = .ptr id 0) : evBin T0 .eql 62 true a .nilp = some (.b (match a with | .nilp => true | _ => false)) := by
  have h1 : T0.ty 62 = some (.pointer 65) := by kernel_rfl
  rcases ha with rfl | rfl <;> simp only [evBin, h1, eqNil, isPtr, nilEq, Option.map_some] <;> rfl
/-- copyCheck: the address is noted. -/
theorem c69 {h : Tr AB} {n id : Nat} {l : List UInt8} {o : Option Nat} (hb : Bld h n id l o) : ∃ h', Runs T0 69 [.ptr id 0] ⟨h, n⟩ (.tup []) ⟨h', n⟩ ∧ (∃ g, h'.get id = some (.cells [.ptr id 0, vOf o l.length] 65 g)) ∧ ∀ j, j ≠ id → h'.get j = h.get j := by
  obtain ⟨hid, ⟨a, g, hg, ha⟩, ho, hne⟩ := hb
  have ld : evLoad T0 h 62 (.ptr id 0) = some a := by
    rw [load_p hg (Nat.zero_le _)]
    rcases ha with rfl | rfl <;> exact ofc_62 _ _
  rcases ha with rfl | rfl
  · have st : evStore T0 h 62 (.ptr id 0) (.ptr id 0) = some (h.put id (some (.cells [.ptr id 0, vOf o l.length] 65 g))) := store_p sz_62 hg rfl rfl rfl
    refine ⟨_, r69 _ ?_, ⟨g, get_put_same _ _ _⟩, fun j hj => get_put_ne _ _ hj⟩
    unfold w69
    dsimp only [prims]
    simp only [nilc_p, oV_some', off_p, Nat.zero_add, ld, pnil (id := id) (.inl rfl), oI_true, cv1 hg, e98, cv2 hg, st, oH_some, and_self]
  · refine ⟨h, r69 _ ?_, ⟨g, hg⟩, fun j hj => rfl⟩
    unfold w69
    dsimp only [prims]
    simp only [nilc_p, oV_some', off_p, Nat.zero_add, ld, pnil (id := id) (.inr rfl), oI_false, peq, and_self]
theorem vOf_leaf (o : Option Nat) (k : Nat) : (vOf o k).leaf = true := by cases o <;> rfl
theorem vOf_cells (o : Option Nat) (k : Nat) : (vOf o k).cells = [vOf o k] := by cases o <;> rfl
theorem bld_done {h h' : Tr AB} {n id : Nat} {l xs : List UInt8} {o : Option Nat} {g : Bool} (hb : Bld h n id l o) (hg : h'.get id = some (.cells [.ptr id 0, vOf o l.length] 65 g)) (hs : ∀ j, j ≠ id → h'.get j = h.get j) (hne : xs ≠ []) :
    BldTo h n id o (l ++ xs) ⟨((killO h' o).put n (some (.cells ((l ++ xs).map bA) 5 true))).put id (some (.cells [.ptr id 0, vOf (some n) (l ++ xs).length] 65 g)), n + 1⟩ := by
  have hid := hb.1
  refine ⟨some n, ⟨by dsimp only; omega, ⟨_, g, get_put_same _ _ _, .inr rfl⟩, ⟨by simp [hne], by dsimp only; omega, ?_⟩, fun i e => by injection e with e; omega⟩, by dsimp only; omega, fun j hj hji ho => ?_, fun i e => by injection e with e; right; omega⟩
  · dsimp only; rw [get_put_ne _ _ (by omega), get_put_same]
  · dsimp only; rw [get_put_ne _ _ hji, get_put_ne _ _ (by omega), kill_get ho, hs j hji]
theorem own_same {h h' : Tr AB} {n id : Nat} {l : List UInt8} {o : Option Nat} (hb : Bld h n id l o) (hs : ∀ j, j ≠ id → h'.get j = h.get j) : OwnB h' n l o := by
  obtain ⟨_, _, ho, hne⟩ := hb
  cases o with
  | none => exact ho
  | some b => exact ⟨ho.1, ho.2.1, by rw [hs b (hne b rfl)]; exact ho.2.2⟩
theorem st_buf {h : Tr AB} {n id : Nat} {o : Option Nat} {k k' : Nat} {g : Bool} {blk : AB} (hid : id < n) (ho : o ≠ some id) (hg : h.get id = some (.cells [.ptr id 0, vOf o k] 65 g)) :
    evStore T0 ((killO h o).put n (some blk)) 63 (.ptr id 1) (vOf (some n) k') = some (((killO h o).put n (some blk)).put id (some (.cells [.ptr id 0, vOf (some n) k'] 65 g))) :=
  store_p sz_63 (by rw [get_put_ne _ _ (by omega), kill_get ho]; exact hg) rfl rfl rfl
theorem st_buf0 {h : Tr AB} {id : Nat} {o : Option Nat} {k : Nat} {g : Bool} (hg : h.get id = some (.cells [.ptr id 0, vOf o k] 65 g)) :
    evStore T0 h 63 (.ptr id 1) (vOf o k) = some (h.put id (some (.cells [.ptr id 0, vOf o k] 65 g))) :=
  store_p sz_63 hg (by rw [vOf_cells]; rfl) (by rw [vOf_cells]; simp [allLeaf, vOf_leaf]) (by rw [vOf_cells]; rfl)
theorem ld_buf {h : Tr AB} {id : Nat} {o : Option Nat} {k : Nat} {a : AV} {g : Bool} (hg : h.get id = some (.cells [a, vOf o k] 65 g)) : evLoad T0 h 63 (.ptr id 1) = some (vOf o k) := by
  rw [load_p hg (by show 1 ≤ 2; decide)]; exact ofc_63 _ _
theorem ice63 (x : Int) : evIce T0 63 1 [(0, .i .u8 x)] = some (.lst [.i .u8 x]) := by kernel_rfl
theorem ty9 : T0.ty 9 = some .string := by kernel_rfl
/-- WriteByte. -/
theorem c41 {h : Tr AB} {n id : Nat} {l : List UInt8} {o : Option Nat} (c : UInt8) (hb : Bld h n id l o) (hl : l.length + 1 ≤ 140737488351232) : ∃ σ', Runs T0 41 [.ptr id 0, bA c] ⟨h, n⟩ .nili σ' ∧ BldTo h n id o (l ++ [c]) σ' := by
  obtain ⟨h', hr, ⟨g, hg⟩, hs⟩ := c69 hb
  have hoid : o ≠ some id := fun e => hb.2.2.2 id e rfl
  have ap := appB (x := .lst [bA c]) (xs := [c]) (own_same hb hs) ty63 (.inr ⟨_, rfl⟩) rfl rfl (by rw [List.length_append]; exact hl) (by simp)
  refine ⟨_, r41 _ _ ?_, bld_done hb hg hs (by simp)⟩
  unfold w41
  dsimp only [prims]
  rw [hr.eq]
  simp only [nilc_p, oV_some', off_p, Nat.zero_add, ld_buf hg]
  rw [show bA c = .i .u8 (c.toNat : Nat) from rfl, ice63, oV_some']
  rw [show (AV.i .u8 ((c.toNat : Nat) : Int)) = bA c from rfl, ap, oM_some]
  rw [st_buf hb.1 hoid hg, oH_some]
  first | exact ⟨rfl, rfl⟩ | exact ⟨trivial, rfl⟩
/-- WriteString. -/
theorem c42 {h : Tr AB} {n id : Nat} {l : List UInt8} {o : Option Nat} (s : List UInt8) (hb : Bld h n id l o) (hl : l.length + s.length ≤ 140737488351232) : ∃ σ', Runs T0 42 [.ptr id 0, .s s] ⟨h, n⟩ (.tup [.i .i64 (s.length : Nat), .nili]) σ' ∧ BldTo h n id o (l ++ s) σ' := by
  obtain ⟨h', hr, ⟨g, hg⟩, hs⟩ := c69 hb
  have hoid : o ≠ some id := fun e => hb.2.2.2 id e rfl
  by_cases hne : s = []
  · subst hne
    have ap := appB0 (x := .s []) (xt := 9) (own_same hb hs) ty9 (.inl rfl) rfl rfl
    rw [List.append_nil]
    have hown : OwnB (h'.put id (some (.cells [.ptr id 0, vOf o l.length] 65 g))) n l o := own_same hb (fun j hj => by rw [get_put_ne _ _ hj, hs j hj])
    refine ⟨⟨h'.put id (some (.cells [.ptr id 0, vOf o l.length] 65 g)), n⟩, r42 _ _ ?_, o, ⟨hb.1, ⟨_, g, get_put_same _ _ _, .inr rfl⟩, hown, hb.2.2.2⟩, Nat.le_refl _, fun j hj hji hj2 => ?_, fun i e => .inl e⟩
    · unfold w42
      dsimp only [prims]
      rw [hr.eq]
      simp only [nilc_p, oV_some', off_p, Nat.zero_add, ld_buf hg]
      rw [ap, oM_some, st_buf0 hg, oH_some, len_9, oV_some']
      first | exact ⟨rfl, rfl⟩ | exact ⟨trivial, rfl⟩
    · dsimp only; rw [get_put_ne _ _ hji, hs j hji]
  · have ap := appB (x := .s s) (xs := s) (xt := 9) (own_same hb hs) ty9 (.inl rfl) rfl (by show some ((s.take s.length).map _) = _; rw [List.take_length]; rfl) (by rw [List.length_append]; exact hl) hne
    refine ⟨_, r42 _ _ ?_, bld_done hb hg hs hne⟩
    unfold w42
    dsimp only [prims]
    rw [hr.eq]
    simp only [nilc_p, oV_some', off_p, Nat.zero_add, ld_buf hg]
    rw [ap, oM_some, st_buf hb.1 hoid hg, oH_some, len_9, oV_some']
    first | exact ⟨rfl, rfl⟩ | exact ⟨trivial, rfl⟩
theorem u8s_b (l : List UInt8) : u8s (l.map bA) = true := by
  induction l with
  | nil => rfl
  | cons c l ih =>
    have h1 := c.toNat_lt
    have e : u8s ((c :: l).map bA) = (decide ((0 : Int) ≤ (c.toNat : Nat)) && decide (((c.toNat : Nat) : Int) < 256) && u8s (l.map bA)) := rfl
    rw [e, ih, decide_eq_true (by omega), decide_eq_true (by omega)]; rfl
/-- String: the bytes are given away. -/
theorem c45 {h : Tr AB} {n id : Nat} {l : List UInt8} {o : Option Nat} (hb : Bld h n id l o) (hl : l.length ≤ 140737488351232) : Runs T0 45 [.ptr id 0] ⟨h, n⟩ (.s l) ⟨killO h o, n⟩ := by
  obtain ⟨hid, ⟨a, g, hg, ha⟩, ho, hne⟩ := hb
  have ty87 : T0.ty 87 = some (.pointer 5) := by kernel_rfl
  have hz : T0.sz 5 = some 1 := by kernel_rfl
  refine r45 _ ?_
  unfold w45
  dsimp only [prims]
  simp only [nilc_p, oV_some', off_p, Nat.zero_add, ld_buf hg]
  cases o with
  | none =>
    have hl0 : l = [] := ho
    subst hl0
    have h1 : evBuiltin T0 h .unsafeSliceData [63] [vOf none 0] = some .nilp := rfl
    have h2 : evBuiltin T0 h .len [63] [vOf none 0] = some (.i .i64 0) := by simp [evBuiltin, vOf, ty63]
    have h3 : evUStr T0 ⟨h, n⟩ 87 .nilp (.i .i64 0) = some (.s [], ⟨h, n⟩) := by simp [evUStr, ty87]
    rw [List.length_nil, h1, oV_some', h2, oV_some', h3, oM_some]
    exact ⟨rfl, rfl⟩
  | some b =>
    obtain ⟨h1, h2, h3⟩ := ho
    obtain ⟨m, hm⟩ : ∃ m, l.length = m + 1 := by
      cases l with
      | nil => exact absurd rfl h1
      | cons a b => exact ⟨b.length, rfl⟩
    have g1 : evBuiltin T0 h .unsafeSliceData [63] [vOf (some b) l.length] = some (.ptr b 0) := by rw [hm]; rfl
    have g2 : evBuiltin T0 h .len [63] [vOf (some b) l.length] = some (.i .i64 (l.length : Nat)) := by simp [evBuiltin, vOf, ty63]
    have tk : takeN l.length (l.map bA) = some (l.map bA) := by
      have := takeN_all (l.map bA)
      rwa [List.length_map] at this
    have g3 : evUStr T0 ⟨h, n⟩ 87 (.ptr b 0) (.i .i64 (l.length : Nat)) = some (.s l, ⟨h.put b none, n⟩) := by
      unfold evUStr
      simp only [ty87, h3, hz, Int.toNat_natCast, tk, bytes_b, u8s_b, Nat.beq_refl]
      rw [if_pos ⟨by omega, by omega⟩]
    rw [g1, oV_some', g2, oV_some', g3, oM_some]
    exact ⟨rfl, rfl⟩
theorem bld_new {h : Tr AB} {n : Nat} : Bld (h.put n (some (.cells [.nilp, .nilz true] 65 false))) (n + 1) n [] none := ⟨by omega, ⟨.nilp, false, get_put_same _ _ _, .inl rfl⟩, rfl, fun i e => by cases e⟩
theorem Bld.same {h h' : Tr AB} {n n' id : Nat} {l : List UInt8} {o : Option Nat} (hb : Bld h n id l o) (hn : n ≤ n') (hs : ∀ j, (j = id ∨ o = some j) → h'.get j = h.get j) : Bld h' n' id l o := by
  obtain ⟨h1, ⟨a, g, hg, ha⟩, ho, hne⟩ := hb
  refine ⟨by omega, ⟨a, g, by rw [hs id (.inl rfl)]; exact hg, ha⟩, ?_, hne⟩
  cases o with
  | none => exact ho
  | some b => exact ⟨ho.1, by have := ho.2.1; omega, by rw [hs b (.inr rfl)]; exact ho.2.2⟩
end Go.Proofs.YtmfhmlhaofpeiaaGreatDoor.Ev
/- Quoted texts and decimal numbers. -/
namespace Go.Proofs.YtmfhmlhaofpeiaaGreatDoor.Ev
open Go Go.RowKit
set_option linter.unusedSimpArgs false
set_option linter.unusedVariables false
set_option maxRecDepth 100000

theorem sls {s : List UInt8} {h : Tr AB} {l r : Nat} {k1 k2 : IntKind} (h1 : l ≤ r) (h2 : r ≤ s.length) : evSliceH T0 h 9 (.s s) (some (.i k1 (l : Nat))) (some (.i k2 (r : Nat))) none = some (.s ((s.drop l).take (r - l))) := by
  have b1 : bnd0 s.length s.length (some (.i k2 (r : Nat))) = some r := by
    simp only [bnd0, bnd]; rw [if_pos ⟨by omega, by omega⟩]; simp
  have b2 : bnd0 r 0 (some (.i k1 (l : Nat))) = some l := by
    simp only [bnd0, bnd]; rw [if_pos ⟨by omega, by omega⟩]; simp
  have b : bounds3 s.length (some s.length) (some (.i k1 (l : Nat))) (some (.i k2 (r : Nat))) none = some (l, r, some s.length) := by
    simp only [bounds3, Option.getD_some, b1, b2]
  refine slH_of ?_
  unfold evSlice
  simp only [ty9, b]
theorem take_one {s : List UInt8} {j : Nat} (hj : j < s.length) : (s.drop j).take (j + 1 - j) = [s.getD j 0] := by
  have : j + 1 - j = 1 := by omega
  rw [this, List.getD_eq_getElem?_getD, List.getElem?_eq_getElem hj, List.drop_eq_getElem_cons hj]; rfl
def dec (n : Nat) : List UInt8 := if n < 10 then [UInt8.ofNat (48 + n)] else [UInt8.ofNat (48 + n / 10), UInt8.ofNat (48 + n % 10)]
theorem dig_at : ∀ n, n < 10 → (([48, 49, 50, 51, 52, 53, 54, 55, 56, 57] : List UInt8).drop n).take (n + 1 - n) = [UInt8.ofNat (48 + n)] := by decide
theorem c46 (n : Nat) (hn : n ≤ 64) : R T0 46 [.i .i64 (n : Nat)] (.s (dec n)) := by
  refine r46 _ rfl rfl ?_
  unfold w46
  dsimp only [prims]
  by_cases h : n < 10
  · have h' : decide (((n : Nat) : Int) < 10) = true := decide_eq_true (by omega)
    have e1 : ((n : Nat) : Int) + 1 = ((n + 1 : Nat) : Int) := by omega
    simp (disch := first | omega | assumption | exact scell | exact clen_XStep | (simp only [clen_XStep]; omega)) only [Nat.zero_add, oV_some', oN_eq, oM_some, oH_some, oD_some, oE_some, oS_eq, oT_true, oI_true, oI_false, pick_t, pick_f, un_not, oI_not, decide_not, toNat_sub1, toNat_add1, decide_true, decide_false, not_true, not_false_eq_true, Bool.not_true, Bool.not_false, Bool.not_not, oZ_b, oZ_i, oZ_s, oZ_l, slen_map, wr64, Int.toNat_natCast, Int.toNat_zero, ne_eq, bin_lt, bin_slt, bin_add, ofc_encXStep, ofc0_encXStep, st_XStep, fld_XStep_kind_, fld_XStep_name_, fld_XStep_index_, fld_XStep_value_, prt_XStep_kind_, prt_XStep_name_, prt_XStep_index_, prt_XStep_value_, h', e1, sls (s := [48, 49, 50, 51, 52, 53, 54, 55, 56, 57]) (l := n) (r := n + 1) (by omega) (by show n + 1 ≤ 10; omega), dig_at n h]
    unfold dec; rw [if_pos h]
  · have h' : decide (((n : Nat) : Int) < 10) = false := decide_eq_false (by omega)
    have q1 : (n : Int).tdiv 10 = ((n / 10 : Nat) : Int) := by rw [Int.tdiv_eq_ediv_of_nonneg (by omega)]; omega
    have q2 : (n : Int).tmod 10 = ((n % 10 : Nat) : Int) := by rw [Int.tmod_eq_emod_of_nonneg (by omega)]; omega
    have e1 : ((n / 10 : Nat) : Int) + 1 = ((n / 10 + 1 : Nat) : Int) := by omega
    have e2 : ((n % 10 : Nat) : Int) + 1 = ((n % 10 + 1 : Nat) : Int) := by omega
    have d1 : n / 10 < 10 := by omega
    have d2 : n % 10 < 10 := by omega
    have hq : ∀ c, evBin T0 .quo 3 c (.i .i64 (n : Nat)) (.i .i64 10) = some (.i .i64 ((n / 10 : Nat) : Int)) := fun c => by rw [bin_quo (by decide), q1, wr64 (by omega) (by omega)]
    have hr : ∀ c, evBin T0 .rem 3 c (.i .i64 (n : Nat)) (.i .i64 10) = some (.i .i64 ((n % 10 : Nat) : Int)) := fun c => by rw [bin_rem (by decide), q2]
    simp (disch := first | omega | assumption | exact scell | exact clen_XStep | (simp only [clen_XStep]; omega)) only [Nat.zero_add, oV_some', oN_eq, oM_some, oH_some, oD_some, oE_some, oS_eq, oT_true, oI_true, oI_false, pick_t, pick_f, un_not, oI_not, decide_not, toNat_sub1, toNat_add1, decide_true, decide_false, not_true, not_false_eq_true, Bool.not_true, Bool.not_false, Bool.not_not, oZ_b, oZ_i, oZ_s, oZ_l, slen_map, wr64, Int.toNat_natCast, Int.toNat_zero, ne_eq, bin_lt, bin_slt, bin_add, ofc_encXStep, ofc0_encXStep, st_XStep, fld_XStep_kind_, fld_XStep_name_, fld_XStep_index_, fld_XStep_value_, prt_XStep_kind_, prt_XStep_name_, prt_XStep_index_, prt_XStep_value_, h', hq, hr, e1, e2, sls (s := [48, 49, 50, 51, 52, 53, 54, 55, 56, 57]) (l := n / 10) (r := n / 10 + 1) (by omega) (by show n / 10 + 1 ≤ 10; omega), sls (s := [48, 49, 50, 51, 52, 53, 54, 55, 56, 57]) (l := n % 10) (r := n % 10 + 1) (by omega) (by show n % 10 + 1 ≤ 10; omega), dig_at _ d1, dig_at _ d2]
    rw [bin_sadd (by simp), oV_some', oZ_s]
    unfold dec; rw [if_neg h]; rfl
theorem e46 {n : Nat} (hn : n ≤ 64) {d : Nat} {σ : AS} {K : AV → AS → Prop} : oC T0 d 46 [.i .i64 (n : Nat)] σ K = K (.s (dec n)) σ := (c46 n hn).eq d σ K
def getS : Option AV → Option (List UInt8)
  | some (.s x) => some x
  | _ => none
theorem getS_eq {r : Option AV} {x : List UInt8} (h : getS r = some x) : r = some (.s x) := by
  unfold getS at h
  split at h
  · injection h with h; rw [h]
  · cases h
theorem itoa_tab : (List.range 65).all (fun n => getS (extR T0 70 [.i .i64 (n : Nat)]) == some (dec n)) = true := by kernel_rfl
theorem c70 (n : Nat) (hn : n ≤ 64) : R T0 70 [.i .i64 (n : Nat)] (.s (dec n)) := by
  have h := itoa_tab
  rw [List.all_eq_true] at h
  have := h n (List.mem_range.2 (by omega))
  exact R.ext (by kernel_rfl) (getS_eq (by simpa using this))
theorem c43 (n : Nat) (hn : n ≤ 64) : R T0 43 [.i .i64 (n : Nat)] (.s (dec n)) := by
  refine r43 _ rfl rfl ?_
  unfold w43
  dsimp only [prims]
  rw [(c70 n hn).eq, oZ_s]
theorem e43 {n : Nat} (hn : n ≤ 64) {d : Nat} {σ : AS} {K : AV → AS → Prop} : oC T0 d 43 [.i .i64 (n : Nat)] σ K = K (.s (dec n)) σ := (c43 n hn).eq d σ K
/-- Quotes. -/
def quC (c : UInt8) : List UInt8 := if c.toNat = 10 then [92, 110] else if c.toNat = 34 ∨ c.toNat = 92 then [92, c] else [c]
def quS (s : List UInt8) : List UInt8 := [34] ++ s.flatMap quC ++ [34]
theorem quC_len (c : UInt8) : (quC c).length ≤ 2 := by
  unfold quC; split
  · decide
  · split <;> simp
theorem flat_len (s : List UInt8) : (s.flatMap quC).length ≤ 2 * s.length := by
  induction s with
  | nil => simp
  | cons c s ih => have := quC_len c; simp only [List.flatMap_cons, List.length_append, List.length_cons]; omega
theorem flat_take {s : List UInt8} {j : Nat} (hj : j < s.length) : (s.take (j + 1)).flatMap quC = (s.take j).flatMap quC ++ quC (s.getD j 0) := by
  have : s.take (j + 1) = s.take j ++ [s.getD j 0] := by
    rw [List.take_add_one, List.getD_eq_getElem?_getD, List.getElem?_eq_getElem hj]; rfl
  rw [this, List.flatMap_append]; simp
theorem flat_take_len (s : List UInt8) (j : Nat) : ((s.take j).flatMap quC).length ≤ 2 * s.length := by
  have h1 := flat_len (s.take j)
  have h2 : (s.take j).length ≤ s.length := by rw [List.length_take]; omega
  omega
theorem c47 (s : List UInt8) (hs : s.length ≤ 100000) : R T0 47 [.s s] (.s (quS s)) := by
  refine r47 _ rfl rfl ?_
  unfold w47
  dsimp only [prims]
  refine loop3 (X := Nat) (fun j => .s ([34] ++ (s.take j).flatMap quC)) (fun _ => .s s) (fun j => .i .i64 (j : Nat)) (fun j σ => j ≤ s.length) (fun j => s.length - j) ?_ 0 _ (Nat.zero_le _)
  rintro R j σ hj hR
  simp (disch := first | omega | assumption | exact scell | exact clen_XStep | (simp only [clen_XStep]; omega)) only [oV_some', len_9, bin_lt]
  refine oI_decd (fun h => ?_) (fun h => ?_)
  · have hj' : j < s.length := by omega
    have hfl := flat_take_len s j
    have e1 : ((j : Nat) : Int) + 1 = ((j + 1 : Nat) : Int) := by omega
    have hR' := hR (j + 1)
    rw [flat_take hj', ← List.append_assoc] at hR'
    have sl := fun (h : Tr AB) => sls (h := h) (s := s) (l := j) (r := j + 1) (k1 := .i64) (k2 := .i64) (by omega) (by omega)
    rw [take_one hj'] at sl
    generalize hA : [34] ++ (s.take j).flatMap quC = A at hR' ⊢
    have hAl : A.length ≤ 2 * s.length + 1 := by rw [← hA]; simp only [List.length_append, List.length_cons, List.length_nil]; omega
    have ad : ∀ (b : List UInt8) (c : Bool), b.length ≤ 2 → evBin T0 .add 9 c (.s A) (.s b) = some (.s (A ++ b)) := fun b c hb => bin_sadd (by omega) c
    have ad2 : ∀ (b d : List UInt8) (c : Bool), b.length ≤ 2 → d.length ≤ 2 → evBin T0 .add 9 c (.s (A ++ b)) (.s d) = some (.s (A ++ b ++ d)) := fun b d c hb hd => bin_sadd (by rw [List.length_append]; omega) c
    by_cases q1 : (s.getD j 0).toNat = 10
    · have q1' : decide ((((s.getD j 0).toNat : Nat) : Int) = 10) = true := decide_eq_true (by omega)
      simp (disch := first | first | omega | assumption | exact scell | exact clen_XStep | (simp only [clen_XStep]; omega) | simp) only [Nat.zero_add, oV_some', oN_eq, oM_some, oH_some, oD_some, oE_some, oS_eq, oT_true, oI_true, oI_false, pick_t, pick_f, un_not, oI_not, decide_not, toNat_sub1, toNat_add1, decide_true, decide_false, not_true, not_false_eq_true, Bool.not_true, Bool.not_false, Bool.not_not, oZ_b, oZ_i, oZ_s, oZ_l, slen_map, wr64, Int.toNat_natCast, Int.toNat_zero, ne_eq, bin_lt, bin_slt, bin_eq, b_snil, beq_4, bin_add, len_9, idx_9, ofc_encXStep, ofc0_encXStep, st_XStep, fld_XStep_kind_, fld_XStep_name_, fld_XStep_index_, fld_XStep_value_, prt_XStep_kind_, prt_XStep_name_, prt_XStep_index_, prt_XStep_value_, join3_eq, gtt_4, gff_4, gtf_4, gft_4, gvv_4, gnt_4, gnf_4, Int.toNat_natCast, q1', ad, e1]
      have : quC (s.getD j 0) = [92, 110] := by unfold quC; rw [if_pos q1]
      rw [this] at hR'
      exact hR' _ (show j + 1 ≤ s.length by omega) (by omega)
    · have q1' : decide ((((s.getD j 0).toNat : Nat) : Int) = 10) = false := decide_eq_false (by omega)
      by_cases q2 : (s.getD j 0).toNat = 34 ∨ (s.getD j 0).toNat = 92
      · have : quC (s.getD j 0) = [92] ++ [s.getD j 0] := by unfold quC; rw [if_neg q1, if_pos q2]; rfl
        rw [this, ← List.append_assoc] at hR'
        by_cases q3 : (s.getD j 0).toNat = 34
        · have q3' : decide ((((s.getD j 0).toNat : Nat) : Int) = 34) = true := decide_eq_true (by omega)
          simp (disch := first | first | omega | assumption | exact scell | exact clen_XStep | (simp only [clen_XStep]; omega) | simp) only [Nat.zero_add, oV_some', oN_eq, oM_some, oH_some, oD_some, oE_some, oS_eq, oT_true, oI_true, oI_false, pick_t, pick_f, un_not, oI_not, decide_not, toNat_sub1, toNat_add1, decide_true, decide_false, not_true, not_false_eq_true, Bool.not_true, Bool.not_false, Bool.not_not, oZ_b, oZ_i, oZ_s, oZ_l, slen_map, wr64, Int.toNat_natCast, Int.toNat_zero, ne_eq, bin_lt, bin_slt, bin_eq, b_snil, beq_4, bin_add, len_9, idx_9, ofc_encXStep, ofc0_encXStep, st_XStep, fld_XStep_kind_, fld_XStep_name_, fld_XStep_index_, fld_XStep_value_, prt_XStep_kind_, prt_XStep_name_, prt_XStep_index_, prt_XStep_value_, join3_eq, gtt_4, gff_4, gtf_4, gft_4, gvv_4, gnt_4, gnf_4, Int.toNat_natCast, q1', q3', ad, e1, sl, ad2]
          exact hR' _ (show j + 1 ≤ s.length by omega) (by omega)
        · have q3' : decide ((((s.getD j 0).toNat : Nat) : Int) = 34) = false := decide_eq_false (by omega)
          have q4' : decide ((((s.getD j 0).toNat : Nat) : Int) = 92) = true := decide_eq_true (by omega)
          simp (disch := first | first | omega | assumption | exact scell | exact clen_XStep | (simp only [clen_XStep]; omega) | simp) only [Nat.zero_add, oV_some', oN_eq, oM_some, oH_some, oD_some, oE_some, oS_eq, oT_true, oI_true, oI_false, pick_t, pick_f, un_not, oI_not, decide_not, toNat_sub1, toNat_add1, decide_true, decide_false, not_true, not_false_eq_true, Bool.not_true, Bool.not_false, Bool.not_not, oZ_b, oZ_i, oZ_s, oZ_l, slen_map, wr64, Int.toNat_natCast, Int.toNat_zero, ne_eq, bin_lt, bin_slt, bin_eq, b_snil, beq_4, bin_add, len_9, idx_9, ofc_encXStep, ofc0_encXStep, st_XStep, fld_XStep_kind_, fld_XStep_name_, fld_XStep_index_, fld_XStep_value_, prt_XStep_kind_, prt_XStep_name_, prt_XStep_index_, prt_XStep_value_, join3_eq, gtt_4, gff_4, gtf_4, gft_4, gvv_4, gnt_4, gnf_4, Int.toNat_natCast, q1', q3', q4', ad, e1, sl, ad2]
          exact hR' _ (show j + 1 ≤ s.length by omega) (by omega)
      · have : quC (s.getD j 0) = [s.getD j 0] := by unfold quC; rw [if_neg q1, if_neg q2]
        rw [this] at hR'
        have q3' : decide ((((s.getD j 0).toNat : Nat) : Int) = 34) = false := decide_eq_false (by omega)
        have q4' : decide ((((s.getD j 0).toNat : Nat) : Int) = 92) = false := decide_eq_false (by omega)
        simp (disch := first | first | omega | assumption | exact scell | exact clen_XStep | (simp only [clen_XStep]; omega) | simp) only [Nat.zero_add, oV_some', oN_eq, oM_some, oH_some, oD_some, oE_some, oS_eq, oT_true, oI_true, oI_false, pick_t, pick_f, un_not, oI_not, decide_not, toNat_sub1, toNat_add1, decide_true, decide_false, not_true, not_false_eq_true, Bool.not_true, Bool.not_false, Bool.not_not, oZ_b, oZ_i, oZ_s, oZ_l, slen_map, wr64, Int.toNat_natCast, Int.toNat_zero, ne_eq, bin_lt, bin_slt, bin_eq, b_snil, beq_4, bin_add, len_9, idx_9, ofc_encXStep, ofc0_encXStep, st_XStep, fld_XStep_kind_, fld_XStep_name_, fld_XStep_index_, fld_XStep_value_, prt_XStep_kind_, prt_XStep_name_, prt_XStep_index_, prt_XStep_value_, join3_eq, gtt_4, gff_4, gtf_4, gft_4, gvv_4, gnt_4, gnf_4, Int.toNat_natCast, q1', q3', q4', ad, e1, sl, ad2]
        exact hR' _ (show j + 1 ≤ s.length by omega) (by omega)
  · have hall : s.take j = s := List.take_of_length_le (by omega)
    have hfl := flat_len s
    rw [hall, bin_sadd (by simp only [List.length_append, List.length_cons, List.length_nil]; omega), oV_some', oZ_s]; rfl
theorem e47 {s : List UInt8} (hs : s.length ≤ 100000) {d : Nat} {σ : AS} {K : AV → AS → Prop} : oC T0 d 47 [.s s] σ K = K (.s (quS s)) σ := (c47 s hs).eq d σ K
end Go.Proofs.YtmfhmlhaofpeiaaGreatDoor.Ev
/- WriteRune of a plain character; the program's quote. -/
namespace Go.Proofs.YtmfhmlhaofpeiaaGreatDoor.Ev
open Go Go.RowKit
set_option linter.unusedSimpArgs false
set_option linter.unusedVariables false
set_option maxRecDepth 100000

theorem cvu32 {h : Tr AB} (n : Int) : evConv T0 h 21 122 (.i .i32 n) = some (.i .u32 (IntKind.wrap .u32 n)) := by kernel_rfl
theorem cvu8 {h : Tr AB} (n : Int) : evConv T0 h 21 5 (.i .i32 n) = some (.i .u8 (IntKind.wrap .u8 n)) := by kernel_rfl
theorem wr32u {c : Nat} (hc : c < 128) : IntKind.wrap .u32 (c : Nat) = (c : Nat) := by
  unfold IntKind.wrap; simp [IntKind.bits, IntKind.signed]; omega
theorem wr8u {c : Nat} (hc : c < 128) : IntKind.wrap .u8 (c : Nat) = (c : Nat) := by
  unfold IntKind.wrap; simp [IntKind.bits, IntKind.signed]; omega
theorem c100 {h : Tr AB} {n : Nat} {l : List UInt8} {o : Option Nat} {c : UInt8} (hc : c.toNat < 128) (ho : OwnB h n l o) (hl : l.length + 1 ≤ 140737488351232) : Runs T0 100 [vOf o l.length, .i .i32 (c.toNat : Nat)] ⟨h, n⟩ (vOf (some n) (l ++ [c]).length) ⟨(killO h o).put n (some (.cells ((l ++ [c]).map bA) 5 true)), n + 1⟩ := by
  have ap := appB (x := .lst [bA c]) (xs := [c]) ho ty63 (.inr ⟨_, rfl⟩) rfl rfl (by rw [List.length_append]; exact hl) (by simp)
  refine r100 _ _ ?_
  unfold w100
  dsimp only [prims]
  have h' : decide (((c.toNat : Nat) : Int) ≤ 127) = true := decide_eq_true (by omega)
  rw [cvu32, oV_some', wr32u hc, bin_le, oV_some', h', oI_true, cvu8, oV_some', wr8u hc, ice63, oV_some']
  rw [show (AV.i .u8 ((c.toNat : Nat) : Int)) = bA c from rfl, ap, oM_some]
  first | exact ⟨rfl, rfl⟩ | exact ⟨trivial, rfl⟩
theorem len63 {h : Tr AB} {o : Option Nat} {k : Nat} (ho : o = none → k = 0) : evBuiltin T0 h .len [63] [vOf o k] = some (.i .i64 (k : Nat)) := by
  cases o with
  | none => rw [ho rfl]; simp [evBuiltin, vOf, ty63]
  | some b => simp [evBuiltin, vOf, ty63]
theorem c71 {h : Tr AB} {n id : Nat} {l : List UInt8} {o : Option Nat} {c : UInt8} (hc : c.toNat < 128) (hb : Bld h n id l o) (hl : l.length + 1 ≤ 140737488351232) : ∃ σ', Runs T0 71 [.ptr id 0, .i .i32 (c.toNat : Nat)] ⟨h, n⟩ (.tup [.i .i64 1, .nili]) σ' ∧ BldTo h n id o (l ++ [c]) σ' := by
  obtain ⟨h', hr, ⟨g, hg⟩, hs⟩ := c69 hb
  have hoid : o ≠ some id := fun e => hb.2.2.2 id e rfl
  have hown := own_same hb hs
  have h0 : o = none → l.length = 0 := fun e => by subst e; have : l = [] := hown; rw [this]; rfl
  refine ⟨_, r71 _ _ ?_, bld_done hb hg hs (by simp)⟩
  unfold w71
  dsimp only [prims]
  rw [hr.eq]
  simp only [nilc_p, oV_some', off_p, Nat.zero_add, ld_buf hg, len63 h0]
  rw [(c100 hc hown hl).eq]
  simp only []
  rw [st_buf hb.1 hoid hg, oH_some]
  simp only []
  rw [ld_buf (get_put_same _ _ _), oV_some', len63 (fun e => by cases e), oV_some', bin_sub, oV_some']
  have e : IntKind.wrap .i64 (((l ++ [c]).length : Nat) - (l.length : Nat) : Int) = 1 := by
    rw [wr64 (by rw [List.length_append]; simp only [List.length_cons, List.length_nil]; omega) (by rw [List.length_append]; simp only [List.length_cons, List.length_nil]; omega)]
    rw [List.length_append]; simp only [List.length_cons, List.length_nil]; omega
  rw [e]
  exact ⟨rfl, trivial⟩
/-- Another block of the call's own stays. -/
theorem BldTo.keep {h : Tr AB} {n id it : Nat} {o : Option Nat} {l' : List UInt8} {σ' : AS} {b : Option AB} (t : BldTo h n id o l' σ') (h1 : it < n) (h2 : it ≠ id) (h3 : o ≠ some it) (hg : h.get it = b) : ∃ o', Bld σ'.h σ'.n id l' o' ∧ it < σ'.n ∧ o' ≠ some it ∧ σ'.h.get it = b := by
  obtain ⟨o', b1, b2, b3, b4⟩ := t
  refine ⟨o', b1, by omega, fun e => ?_, by rw [b3 it h1 h2 h3]; exact hg⟩
  rcases b4 it e with q | q
  · exact h3 q
  · omega
theorem c44 (s : List UInt8) (hs : s.length ≤ 100000) (ha : ∀ c ∈ s, c.toNat < 128) : R T0 44 [.s s] (.s (quS s)) := by
  refine r44 _ rfl rfl ?_
  unfold w44
  dsimp only [prims]
  rw [oN_eq]
  have b0 : Bld (Tr.nil.put 0 (some (.cells [.nilp, .nilz true] 65 false))) 1 0 [] none := bld_new
  obtain ⟨σ1, r1, t1⟩ := c41 34 b0 (by decide)
  rw [show (AV.i .u8 34) = bA 34 from rfl, r1.eq]
  obtain ⟨o1, b1, n1, f1, g1⟩ := t1
  rw [rng_9, oE_some, oN_eq]
  have hid1 := b1.1
  refine loop2 (X := Nat) (fun _ => .ptr 0 0) (fun _ => .ptr σ1.n 0) (fun j σ => j ≤ s.length ∧ ∃ o, Bld σ.h σ.n 0 ([34] ++ (s.take j).flatMap quC) o ∧ σ1.n < σ.n ∧ o ≠ some σ1.n ∧ σ.h.get σ1.n = some (.siter s j)) (fun j => s.length - j) ?_ 0 _
    ⟨Nat.zero_le _, o1, b1.same (Nat.le_succ _) (fun j hj => get_put_ne _ _ (by
      rcases hj with rfl | hj
      · omega
      · intro e; subst e
        rw [hj] at b1
        have := b1.2.2.1.2.1; omega)), Nat.lt_succ_self _, fun e => by rw [e] at b1; have := b1.2.2.1.2.1; omega, get_put_same _ _ _⟩
  rintro R j ⟨h, n⟩ ⟨hj, o, hb, hn, hoi, hg⟩ hR
  dsimp only at hb hn hg
  have hfl := flat_take_len s j
  by_cases hj' : j < s.length
  · have hc := ha _ (show s.getD j 0 ∈ s by rw [List.getD_eq_getElem?_getD, List.getElem?_eq_getElem hj']; exact List.getElem_mem hj')
    have hR' := hR (j + 1)
    rw [flat_take hj', ← List.append_assoc] at hR'
    have hb' : Bld (h.put σ1.n (some (.siter s (j + 1)))) n 0 ([34] ++ (s.take j).flatMap quC) o := hb.same (Nat.le_refl _) (fun i hi => get_put_ne _ _ (by
      rcases hi with rfl | hi
      · omega
      · intro e; subst e; exact hoi hi))
    have hgi : (h.put σ1.n (some (.siter s (j + 1)))).get σ1.n = some (.siter s (j + 1)) := get_put_same _ _ _
    have hAl : ([34] ++ (s.take j).flatMap quC).length ≤ 2 * s.length + 1 := by simp only [List.length_append, List.length_cons, List.length_nil]; omega
    rw [next_lt hg hj' hc, oM_some]
    generalize [34] ++ (s.take j).flatMap quC = A at hb' hR' hAl
    generalize hcc : s.getD j 0 = c at hc hR'
    generalize h.put σ1.n (some (.siter s (j + 1))) = h1 at hb' hgi
    by_cases q1 : c.toNat = 10
    · have d1 : decide (((c.toNat : Nat) : Int) = 34) = false := decide_eq_false (by omega)
      have d2 : decide (((c.toNat : Nat) : Int) = 92) = false := decide_eq_false (by omega)
      have d3 : decide (((c.toNat : Nat) : Int) = 10) = true := decide_eq_true (by omega)
      obtain ⟨σ2, r2, t2⟩ := c42 [92, 110] hb' (by simp only [List.length_cons, List.length_nil]; omega)
      obtain ⟨o2, b2, k1, k2, k3⟩ := t2.keep hn (by omega) hoi hgi
      simp (disch := first | omega | assumption | exact scell | exact clen_XStep | (simp only [clen_XStep]; omega)) only [Nat.zero_add, oV_some', oN_eq, oM_some, oH_some, oD_some, oE_some, oS_eq, oT_true, oI_true, oI_false, pick_t, pick_f, un_not, oI_not, decide_not, toNat_sub1, toNat_add1, decide_true, decide_false, not_true, not_false_eq_true, Bool.not_true, Bool.not_false, Bool.not_not, oZ_b, oZ_i, oZ_s, oZ_l, slen_map, wr64, Int.toNat_natCast, Int.toNat_zero, ne_eq, bin_eq, b_snil, beq_4, ext_t, List.getElem?_cons_zero, List.getElem?_cons_succ, ofc_encXStep, ofc0_encXStep, st_XStep, fld_XStep_kind_, fld_XStep_name_, fld_XStep_index_, fld_XStep_value_, prt_XStep_kind_, prt_XStep_name_, prt_XStep_index_, prt_XStep_value_, join5_eq, d1, d2, d3, r2.eq]
      have : quC c = [92, 110] := by unfold quC; rw [if_pos q1]
      rw [this] at hR'
      exact hR' _ ⟨by omega, o2, b2, k1, k2, k3⟩ (by omega)
    · have d3 : decide (((c.toNat : Nat) : Int) = 10) = false := decide_eq_false (by omega)
      by_cases q2 : c.toNat = 34 ∨ c.toNat = 92
      · obtain ⟨σ2, r2, t2⟩ := c41 92 hb' (by omega)
        obtain ⟨o2, b2, k1, k2, k3⟩ := t2.keep hn (by omega) hoi hgi
        obtain ⟨σ3, r3, t3⟩ := c71 hc b2 (by rw [List.length_append]; simp only [List.length_cons, List.length_nil]; omega)
        obtain ⟨o3, b3, m1, m2, m3⟩ := t3.keep k1 (by omega) k2 k3
        have : quC c = [92] ++ [c] := by unfold quC; rw [if_neg q1, if_pos q2]; rfl
        rw [this, ← List.append_assoc] at hR'
        have r2' : ∀ (d : Nat) (K : AV → AS → Prop), oC T0 d 41 [.ptr 0 0, .i .u8 92] ⟨h1, n⟩ K = K .nili σ2 := fun d K => r2.eq d K
        have r3' : ∀ (d : Nat) (K : AV → AS → Prop), oC T0 d 71 [.ptr 0 0, .i .i32 (c.toNat : Nat)] σ2 K = K (.tup [.i .i64 1, .nili]) σ3 := fun d K => r3.eq d K
        by_cases q3 : c.toNat = 34
        · have d1 : decide (((c.toNat : Nat) : Int) = 34) = true := decide_eq_true (by omega)
          simp (disch := first | omega | assumption | exact scell | exact clen_XStep | (simp only [clen_XStep]; omega)) only [Nat.zero_add, oV_some', oN_eq, oM_some, oH_some, oD_some, oE_some, oS_eq, oT_true, oI_true, oI_false, pick_t, pick_f, un_not, oI_not, decide_not, toNat_sub1, toNat_add1, decide_true, decide_false, not_true, not_false_eq_true, Bool.not_true, Bool.not_false, Bool.not_not, oZ_b, oZ_i, oZ_s, oZ_l, slen_map, wr64, Int.toNat_natCast, Int.toNat_zero, ne_eq, bin_eq, b_snil, beq_4, ext_t, List.getElem?_cons_zero, List.getElem?_cons_succ, ofc_encXStep, ofc0_encXStep, st_XStep, fld_XStep_kind_, fld_XStep_name_, fld_XStep_index_, fld_XStep_value_, prt_XStep_kind_, prt_XStep_name_, prt_XStep_index_, prt_XStep_value_, join5_eq, d1, d3, r2', r3']
          exact hR' _ ⟨by omega, o3, b3, m1, m2, m3⟩ (by omega)
        · have d1 : decide (((c.toNat : Nat) : Int) = 34) = false := decide_eq_false (by omega)
          have d2 : decide (((c.toNat : Nat) : Int) = 92) = true := decide_eq_true (by omega)
          simp (disch := first | omega | assumption | exact scell | exact clen_XStep | (simp only [clen_XStep]; omega)) only [Nat.zero_add, oV_some', oN_eq, oM_some, oH_some, oD_some, oE_some, oS_eq, oT_true, oI_true, oI_false, pick_t, pick_f, un_not, oI_not, decide_not, toNat_sub1, toNat_add1, decide_true, decide_false, not_true, not_false_eq_true, Bool.not_true, Bool.not_false, Bool.not_not, oZ_b, oZ_i, oZ_s, oZ_l, slen_map, wr64, Int.toNat_natCast, Int.toNat_zero, ne_eq, bin_eq, b_snil, beq_4, ext_t, List.getElem?_cons_zero, List.getElem?_cons_succ, ofc_encXStep, ofc0_encXStep, st_XStep, fld_XStep_kind_, fld_XStep_name_, fld_XStep_index_, fld_XStep_value_, prt_XStep_kind_, prt_XStep_name_, prt_XStep_index_, prt_XStep_value_, join5_eq, d1, d2, d3, r2', r3']
          exact hR' _ ⟨by omega, o3, b3, m1, m2, m3⟩ (by omega)
      · obtain ⟨σ3, r3, t3⟩ := c71 hc hb' (by omega)
        obtain ⟨o3, b3, m1, m2, m3⟩ := t3.keep hn (by omega) hoi hgi
        have : quC c = [c] := by unfold quC; rw [if_neg q1, if_neg q2]
        rw [this] at hR'
        have d1 : decide (((c.toNat : Nat) : Int) = 34) = false := decide_eq_false (by omega)
        have d2 : decide (((c.toNat : Nat) : Int) = 92) = false := decide_eq_false (by omega)
        simp (disch := first | omega | assumption | exact scell | exact clen_XStep | (simp only [clen_XStep]; omega)) only [Nat.zero_add, oV_some', oN_eq, oM_some, oH_some, oD_some, oE_some, oS_eq, oT_true, oI_true, oI_false, pick_t, pick_f, un_not, oI_not, decide_not, toNat_sub1, toNat_add1, decide_true, decide_false, not_true, not_false_eq_true, Bool.not_true, Bool.not_false, Bool.not_not, oZ_b, oZ_i, oZ_s, oZ_l, slen_map, wr64, Int.toNat_natCast, Int.toNat_zero, ne_eq, bin_eq, b_snil, beq_4, ext_t, List.getElem?_cons_zero, List.getElem?_cons_succ, ofc_encXStep, ofc0_encXStep, st_XStep, fld_XStep_kind_, fld_XStep_name_, fld_XStep_index_, fld_XStep_value_, prt_XStep_kind_, prt_XStep_name_, prt_XStep_index_, prt_XStep_value_, join5_eq, d1, d2, d3, r3.eq]
        exact hR' _ ⟨by omega, o3, b3, m1, m2, m3⟩ (by omega)
  · have hall : s.take j = s := List.take_of_length_le (by omega)
    have hfl := flat_len s
    rw [hall] at hb
    have hAl : ([34] ++ s.flatMap quC).length ≤ 2 * s.length + 1 := by simp only [List.length_append, List.length_cons, List.length_nil]; omega
    obtain ⟨σ2, r2, t2⟩ := c41 34 hb (by omega)
    obtain ⟨o2, b2, -, -, -⟩ := t2
    have r3 := c45 b2 (by rw [List.length_append]; simp only [List.length_cons, List.length_nil]; omega)
    rw [next_no hg (by omega), oM_some]
    rw [show evExtract 0 (AV.tup [AV.b false]) = some (.b false) from rfl, oV_some', oI_false, r2.eq]
    rw [show σ2 = ⟨σ2.h, σ2.n⟩ from rfl, r3.eq]
    try rw [oZ_s]
    try rfl
theorem e44 {s : List UInt8} (hs : s.length ≤ 100000) (ha : ∀ c ∈ s, c.toNat < 128) {d : Nat} {σ : AS} {K : AV → AS → Prop} : oC T0 d 44 [.s s] σ K = K (.s (quS s)) σ := (c44 s hs ha).eq d σ K
end Go.Proofs.YtmfhmlhaofpeiaaGreatDoor.Ev
/- Print: the spec, the reference's and the program's. -/
namespace Go.Proofs.YtmfhmlhaofpeiaaGreatDoor.Ev
open Go Go.RowKit
set_option linter.unusedSimpArgs false
set_option linter.unusedVariables false
set_option maxRecDepth 100000

def stP (j : Nat) (x : XStep) : List UInt8 := if x.kind_ = 2 then [91] ++ dec x.index_.toNat ++ [93] else if x.kind_ = 3 then [91] ++ x.name_ ++ [61] ++ quS x.value_ ++ [93] else if j = 0 then x.name_ else [46] ++ x.name_
def prT (p : List XStep) : Nat → List UInt8
  | 0 => []
  | j + 1 => prT p j ++ stP j (p.getD j default)
theorem step_facts {x : XStep} (h : stepB x = true) : (x.kind_ = 1 ∨ x.kind_ = 2 ∨ x.kind_ = 3) ∧ x.name_.length ≤ 40 ∧ x.value_.length ≤ 200 ∧ (∀ c ∈ x.value_, c.toNat < 128) ∧ (x.kind_ = 2 → 0 ≤ x.index_ ∧ x.index_ ≤ 64) := by
  have nm : nmB x.name_ = true → x.name_.length ≤ 40 := fun h => by
    unfold nmB at h; simp only [Bool.and_eq_true, decide_eq_true_eq] at h; exact h.2
  unfold stepB at h
  split at h
  · rename_i k
    simp only [Bool.and_eq_true, decide_eq_true_eq] at h
    exact ⟨.inl k, nm h.1.1, by omega, fun c hc => (by rw [List.length_eq_zero_iff.mp h.2] at hc; cases hc), fun q => by omega⟩
  · split at h
    · rename_i k
      simp only [Bool.and_eq_true, decide_eq_true_eq] at h
      exact ⟨.inr (.inl k), by omega, by omega, fun c hc => (by rw [List.length_eq_zero_iff.mp h.2] at hc; cases hc), fun q => by omega⟩
    · split at h
      · rename_i k1 k2 k
        simp only [Bool.and_eq_true, decide_eq_true_eq] at h
        have ht := h.2
        unfold txB at ht
        simp only [Bool.and_eq_true, decide_eq_true_eq, List.all_eq_true] at ht
        exact ⟨.inr (.inr k), nm h.1.1, ht.2, fun c hc => by
          have := ht.1 c hc
          unfold textI at this
          simp only [decide_eq_true_eq] at this
          omega, fun q => absurd q k2⟩
      · cases h
theorem dec_len (n : Nat) : (dec n).length ≤ 2 := by unfold dec; split <;> simp
theorem quS_len (s : List UInt8) : (quS s).length ≤ 2 * s.length + 2 := by
  have := flat_len s
  unfold quS; simp only [List.length_append, List.length_cons, List.length_nil]; omega
theorem stP_len {j : Nat} {x : XStep} (h : stepB x = true) : (stP j x).length ≤ 500 := by
  obtain ⟨-, h1, h2, -, -⟩ := step_facts h
  have := dec_len x.index_.toNat
  have := quS_len x.value_
  unfold stP; repeat' split
  all_goals (first | omega | (simp only [List.length_append, List.length_cons, List.length_nil]; omega))
theorem prT_len {p : List XStep} (h : ∀ x ∈ p, stepB x = true) : ∀ j, j ≤ p.length → (prT p j).length ≤ 500 * j
  | 0, _ => Nat.le_refl _
  | j + 1, hj => by
    have h1 := prT_len h j (by omega)
    have h2 := stP_len (j := j) (h _ (getD_mem (show j < p.length by omega)))
    rw [prT, List.length_append]; omega
theorem path_facts {p : List XStep} (h : pathB p = true) : p.length ≤ 16 ∧ ∀ x ∈ p, stepB x = true := by
  unfold pathB at h; simp only [Bool.and_eq_true, decide_eq_true_eq, List.all_eq_true] at h; exact h
theorem ozt {σ : AS} {K : AV → Prop} {a : List UInt8} {n : Int} : oZ T0 σ (.tup [.s a, .i .i64 n]) K = K (.tup [.s a, .i .i64 n]) := oZ_free rfl
def prR (p : List XStep) : AV := if pathB p = true then .tup [.s (prT p p.length), .i .i64 0] else .tup [.s [], .i .i64 1]
theorem sadd {a b : List UInt8} (ha : a.length ≤ 100000) (hb : b.length ≤ 100000) (t : Nat) (c : Bool) : evBin T0 .add t c (.s a) (.s b) = some (.s (a ++ b)) := bin_sadd (by omega) c
theorem dec_at {x : XStep} (h : 0 ≤ x.index_) (h2 : x.index_ ≤ 64) {d : Nat} {σ : AS} {K : AV → AS → Prop} : oC T0 d 46 [.i .i64 x.index_] σ K = K (.s (dec x.index_.toNat)) σ := by
  have e := @e46 x.index_.toNat (by omega) d σ K
  rw [Int.toNat_of_nonneg h] at e; exact e
theorem ito_at {x : XStep} (h : 0 ≤ x.index_) (h2 : x.index_ ≤ 64) {d : Nat} {σ : AS} {K : AV → AS → Prop} : oC T0 d 43 [.i .i64 x.index_] σ K = K (.s (dec x.index_.toNat)) σ := by
  have e := @e43 x.index_.toNat (by omega) d σ K
  rw [Int.toNat_of_nonneg h] at e; exact e
theorem c21 (p : List XStep) (hp : p.length ≤ 140737488351232) (ox : ∀ x ∈ p, okXStep x) : R T0 21 [.lst (p.map encXStep)] (prR p) := by
  refine r21 _ rfl rfl ?_
  unfold w21
  dsimp only [prims]
  by_cases hb : pathB p = true
  · obtain ⟨hl, hv⟩ := path_facts hb
    rw [show prR p = .tup [.s (prT p p.length), .i .i64 0] from if_pos hb]
    rw [e14 hp ox, hb, un_not, oV_some', Bool.not_true, oI_false]
    refine loop3 (X := Nat) (fun j => .s (prT p j)) (fun _ => .lst (p.map encXStep)) (fun j => .i .i64 (j : Nat)) (fun j σ => j ≤ p.length) (fun j => p.length - j) ?_ 0 _ (Nat.zero_le _)
    rintro R j σ hj hR
    simp (disch := first | omega | assumption | exact scell | exact clen_XStep | (simp only [clen_XStep]; omega)) only [oV_some', len_22, slen_map, bin_lt]
    refine oI_decd (fun h => ?_) (fun h => ?_)
    · have hj' : j < p.length := by omega
      have hA := prT_len hv j hj
      obtain ⟨hk, hn, hq, hc, hi⟩ := step_facts (hv _ (getD_mem hj'))
      have hd := dec_len (p.getD j default).index_.toNat
      have hqs := quS_len (p.getD j default).value_
      have hR' := hR (j + 1)
      rw [show prT p (j + 1) = prT p j ++ stP j (p.getD j default) from rfl] at hR'
      have hAz : j = 0 → prT p j = [] := fun e => by subst e; rfl
      generalize prT p j = A at hA hAz hR' ⊢
      rcases hk with k | k | k
      · have d2 : decide ((p.getD j default).kind_ = 2) = false := decide_eq_false (by omega)
        have d3 : decide ((p.getD j default).kind_ = 3) = false := decide_eq_false (by omega)
        by_cases h0 : j = 0
        · subst h0
          have d0 : decide ((0 : Int) < ((0 : Nat) : Int)) = false := rfl
          rw [hAz rfl, List.nil_append] at hR'
          rw [show stP 0 (p.getD 0 default) = (p.getD 0 default).name_ by unfold stP; rw [if_neg (by omega), if_neg (by omega), if_pos rfl]] at hR'
          simp (disch := first | first | omega | assumption | exact scell | exact clen_XStep | (simp only [clen_XStep]; omega) | (simp only [List.length_append, List.length_cons, List.length_nil]; omega)) only [Nat.zero_add, oV_some', oN_eq, oM_some, oH_some, oD_some, oE_some, oS_eq, oT_true, oI_true, oI_false, pick_t, pick_f, un_not, oI_not, decide_not, toNat_sub1, toNat_add1, decide_true, decide_false, not_true, not_false_eq_true, Bool.not_true, Bool.not_false, Bool.not_not, oZ_b, oZ_i, oZ_s, oZ_l, slen_map, wr64, Int.toNat_natCast, Int.toNat_zero, ne_eq, bin_lt, bin_slt, bin_gt, b_sgt, bin_eq, b_snil, beq_4, bin_add, load_get, loadB_some, get_put_same, get_put_ne, ofc_s, load_i, off_i, off_p, ofc_encXStep, ofc0_encXStep, st_XStep, fld_XStep_kind_, fld_XStep_name_, fld_XStep_index_, fld_XStep_value_, prt_XStep_kind_, prt_XStep_name_, prt_XStep_index_, prt_XStep_value_, len_22, ia_22, join3_eq, Int.toNat_natCast, d2, d3, d0, sadd]
          exact hR' _ (show 0 + 1 ≤ p.length by omega) (by omega)
        · have d0 : decide ((0 : Int) < ((j : Nat) : Int)) = true := decide_eq_true (by omega)
          rw [show stP j (p.getD j default) = [46] ++ (p.getD j default).name_ by unfold stP; rw [if_neg (by omega), if_neg (by omega), if_neg h0], ← List.append_assoc] at hR'
          simp (disch := first | first | omega | assumption | exact scell | exact clen_XStep | (simp only [clen_XStep]; omega) | (simp only [List.length_append, List.length_cons, List.length_nil]; omega)) only [Nat.zero_add, oV_some', oN_eq, oM_some, oH_some, oD_some, oE_some, oS_eq, oT_true, oI_true, oI_false, pick_t, pick_f, un_not, oI_not, decide_not, toNat_sub1, toNat_add1, decide_true, decide_false, not_true, not_false_eq_true, Bool.not_true, Bool.not_false, Bool.not_not, oZ_b, oZ_i, oZ_s, oZ_l, slen_map, wr64, Int.toNat_natCast, Int.toNat_zero, ne_eq, bin_lt, bin_slt, bin_gt, b_sgt, bin_eq, b_snil, beq_4, bin_add, load_get, loadB_some, get_put_same, get_put_ne, ofc_s, load_i, off_i, off_p, ofc_encXStep, ofc0_encXStep, st_XStep, fld_XStep_kind_, fld_XStep_name_, fld_XStep_index_, fld_XStep_value_, prt_XStep_kind_, prt_XStep_name_, prt_XStep_index_, prt_XStep_value_, len_22, ia_22, join3_eq, Int.toNat_natCast, d2, d3, d0, sadd]
          exact hR' _ (show j + 1 ≤ p.length by omega) (by omega)
      · have d2 : decide ((p.getD j default).kind_ = 2) = true := decide_eq_true k
        rw [show stP j (p.getD j default) = [91] ++ dec (p.getD j default).index_.toNat ++ [93] from if_pos k, ← List.append_assoc, ← List.append_assoc] at hR'
        have ed := fun (d : Nat) (σ : AS) (K : AV → AS → Prop) => dec_at (hi k).1 (hi k).2 (d := d) (σ := σ) (K := K)
        simp (disch := first | first | omega | assumption | exact scell | exact clen_XStep | (simp only [clen_XStep]; omega) | (simp only [List.length_append, List.length_cons, List.length_nil]; omega)) only [Nat.zero_add, oV_some', oN_eq, oM_some, oH_some, oD_some, oE_some, oS_eq, oT_true, oI_true, oI_false, pick_t, pick_f, un_not, oI_not, decide_not, toNat_sub1, toNat_add1, decide_true, decide_false, not_true, not_false_eq_true, Bool.not_true, Bool.not_false, Bool.not_not, oZ_b, oZ_i, oZ_s, oZ_l, slen_map, wr64, Int.toNat_natCast, Int.toNat_zero, ne_eq, bin_lt, bin_slt, bin_gt, b_sgt, bin_eq, b_snil, beq_4, bin_add, load_get, loadB_some, get_put_same, get_put_ne, ofc_s, load_i, off_i, off_p, ofc_encXStep, ofc0_encXStep, st_XStep, fld_XStep_kind_, fld_XStep_name_, fld_XStep_index_, fld_XStep_value_, prt_XStep_kind_, prt_XStep_name_, prt_XStep_index_, prt_XStep_value_, len_22, ia_22, join3_eq, Int.toNat_natCast, d2, ed, sadd]
        exact hR' _ (show j + 1 ≤ p.length by omega) (by omega)
      · have d2 : decide ((p.getD j default).kind_ = 2) = false := decide_eq_false (by omega)
        have d3 : decide ((p.getD j default).kind_ = 3) = true := decide_eq_true (by omega)
        rw [show stP j (p.getD j default) = [91] ++ (p.getD j default).name_ ++ [61] ++ quS (p.getD j default).value_ ++ [93] by unfold stP; rw [if_neg (by omega), if_pos k], ← List.append_assoc, ← List.append_assoc, ← List.append_assoc, ← List.append_assoc] at hR'
        have eq := fun (d : Nat) (σ : AS) (K : AV → AS → Prop) => e47 (s := (p.getD j default).value_) (by omega) (d := d) (σ := σ) (K := K)
        simp (disch := first | first | omega | assumption | exact scell | exact clen_XStep | (simp only [clen_XStep]; omega) | (simp only [List.length_append, List.length_cons, List.length_nil]; omega)) only [Nat.zero_add, oV_some', oN_eq, oM_some, oH_some, oD_some, oE_some, oS_eq, oT_true, oI_true, oI_false, pick_t, pick_f, un_not, oI_not, decide_not, toNat_sub1, toNat_add1, decide_true, decide_false, not_true, not_false_eq_true, Bool.not_true, Bool.not_false, Bool.not_not, oZ_b, oZ_i, oZ_s, oZ_l, slen_map, wr64, Int.toNat_natCast, Int.toNat_zero, ne_eq, bin_lt, bin_slt, bin_gt, b_sgt, bin_eq, b_snil, beq_4, bin_add, load_get, loadB_some, get_put_same, get_put_ne, ofc_s, load_i, off_i, off_p, ofc_encXStep, ofc0_encXStep, st_XStep, fld_XStep_kind_, fld_XStep_name_, fld_XStep_index_, fld_XStep_value_, prt_XStep_kind_, prt_XStep_name_, prt_XStep_index_, prt_XStep_value_, len_22, ia_22, join3_eq, Int.toNat_natCast, d2, d3, eq, sadd]
        exact hR' _ (show j + 1 ≤ p.length by omega) (by omega)
    · have : j = p.length := by omega
      subst this
      rw [ozt]
  · rw [show prR p = .tup [.s [], .i .i64 1] from if_neg hb]
    rw [e14 hp ox, Bool.not_eq_true _ |>.mp hb, un_not, oV_some', Bool.not_false, oI_true, ozt]
end Go.Proofs.YtmfhmlhaofpeiaaGreatDoor.Ev
/- Print: the program's; law PathPrints. -/
namespace Go.Proofs.YtmfhmlhaofpeiaaGreatDoor.Ev
open Go Go.RowKit
set_option linter.unusedSimpArgs false
set_option linter.unusedVariables false
set_option maxRecDepth 100000

theorem c20 (p : List XStep) (hp : p.length ≤ 140737488351232) (ox : ∀ x ∈ p, okXStep x) : R T0 20 [.lst (p.map encXStep)] (prR p) := by
  refine r20 _ rfl rfl ?_
  unfold w20
  dsimp only [prims]
  by_cases hb : pathB p = true
  · obtain ⟨hl, hv⟩ := path_facts hb
    rw [show prR p = .tup [.s (prT p p.length), .i .i64 0] from if_pos hb]
    rw [e13 hp ox, hb, un_not, oV_some', Bool.not_true, oI_false, oN_eq, len_22, oV_some']
    simp only [slen_map]
    have b0 : Bld (Tr.nil.put 0 (some (.cells [.nilp, .nilz true] 65 false))) 1 0 [] none := bld_new
    refine loop4 (X := Nat) (fun _ => .ptr 0 0) (fun _ => .lst (p.map encXStep)) (fun _ => .i .i64 (p.length : Nat)) (fun j => .i .i64 (j : Nat)) (fun j σ => j ≤ p.length ∧ ∃ o, Bld σ.h σ.n 0 (prT p j) o) (fun j => p.length - j) ?_ 0 _ ⟨Nat.zero_le _, none, b0⟩
    rintro R j ⟨h, n⟩ ⟨hj, o, hB⟩ hR
    dsimp only at hB
    simp (disch := first | omega | assumption | exact scell | exact clen_XStep | (simp only [clen_XStep]; omega)) only [oV_some', bin_lt]
    refine oI_decd (fun hlt => ?_) (fun hlt => ?_)
    · have hj' : j < p.length := by omega
      have hA := prT_len hv j hj
      obtain ⟨hk, hn, hq, hc, hi⟩ := step_facts (hv _ (getD_mem hj'))
      have hd := dec_len (p.getD j default).index_.toNat
      have hqs := quS_len (p.getD j default).value_
      have hR' := hR (j + 1)
      rw [show prT p (j + 1) = prT p j ++ stP j (p.getD j default) from rfl] at hR'
      have hAz : j = 0 → prT p j = [] := fun e => by subst e; rfl
      have hid := hB.1
      have hoid := hB.2.2.2
      have hB1 : Bld ((h.put n (some (.cells [.i .i64 0, .s [], .i .i64 0, .s []] 50 false))).put n (some (.cells (encXStep (p.getD j default)).cells 50 false))) (n + 1) 0 (prT p j) o := hB.same (Nat.le_succ _) (fun i hi => by
        have : i ≠ n := by
          rcases hi with rfl | hi
          · omega
          · intro e; subst e; rw [hi] at hB; have := hB.2.2.1.2.1; omega
        rw [get_put_ne _ _ this, get_put_ne _ _ this])
      have hon : o ≠ some n := fun e => by rw [e] at hB; have := hB.2.2.1.2.1; omega
      generalize prT p j = A at hA hAz hR' hB1
      rcases hk with k | k | k
      · have d1 : decide ((p.getD j default).kind_ = 1) = true := decide_eq_true (by omega)
        by_cases h0 : j = 0
        · subst h0
          have d0 : decide ((0 : Int) < ((0 : Nat) : Int)) = false := rfl
          rw [show stP 0 (p.getD 0 default) = (p.getD 0 default).name_ by unfold stP; rw [if_neg (by omega), if_neg (by omega), if_pos rfl]] at hR'
          obtain ⟨σ2, r2, t2⟩ := c42 (p.getD 0 default).name_ hB1 (by omega)
          obtain ⟨o2, b2, -⟩ := t2
          simp (disch := first | first | omega | assumption | exact scell | exact clen_XStep | (simp only [clen_XStep]; omega) | (simp only [List.length_append, List.length_cons, List.length_nil]; omega)) only [Nat.zero_add, oV_some', oN_eq, oM_some, oH_some, oD_some, oE_some, oS_eq, oT_true, oI_true, oI_false, pick_t, pick_f, un_not, oI_not, decide_not, toNat_sub1, toNat_add1, decide_true, decide_false, not_true, not_false_eq_true, Bool.not_true, Bool.not_false, Bool.not_not, oZ_b, oZ_i, oZ_s, oZ_l, slen_map, wr64, Int.toNat_natCast, Int.toNat_zero, ne_eq, bin_lt, bin_slt, bin_gt, b_sgt, bin_eq, b_snil, beq_4, bin_add, load_get, loadB_some, get_put_same, get_put_ne, ofc_s, load_i, off_i, off_p, ofc_encXStep, ofc0_encXStep, st_XStep, fld_XStep_kind_, fld_XStep_name_, fld_XStep_index_, fld_XStep_value_, prt_XStep_kind_, prt_XStep_name_, prt_XStep_index_, prt_XStep_value_, len_22, ia_22, join4_eq, join5_eq, Int.toNat_natCast, oN_eq, store_all, sz_50, d1, d0, r2.eq]
          exact hR' _ ⟨show 0 + 1 ≤ p.length by omega, o2, b2⟩ (by omega)
        · have d0 : decide ((0 : Int) < ((j : Nat) : Int)) = true := decide_eq_true (by omega)
          rw [show stP j (p.getD j default) = [46] ++ (p.getD j default).name_ by unfold stP; rw [if_neg (by omega), if_neg (by omega), if_neg h0], ← List.append_assoc] at hR'
          obtain ⟨σ2, r2, t2⟩ := c41 46 hB1 (by omega)
          obtain ⟨o2, b2, k1, k2, k3⟩ := t2.keep (Nat.lt_succ_self n) (by omega) hon (get_put_same _ _ _)
          obtain ⟨σ3, r3, t3⟩ := c42 (p.getD j default).name_ b2 (by rw [List.length_append]; simp only [List.length_cons, List.length_nil]; omega)
          obtain ⟨o3, b3, -⟩ := t3
          rw [show bA 46 = AV.i .u8 46 from rfl] at r2
          simp (disch := first | first | omega | assumption | exact scell | exact clen_XStep | (simp only [clen_XStep]; omega) | (simp only [List.length_append, List.length_cons, List.length_nil]; omega)) only [Nat.zero_add, oV_some', oN_eq, oM_some, oH_some, oD_some, oE_some, oS_eq, oT_true, oI_true, oI_false, pick_t, pick_f, un_not, oI_not, decide_not, toNat_sub1, toNat_add1, decide_true, decide_false, not_true, not_false_eq_true, Bool.not_true, Bool.not_false, Bool.not_not, oZ_b, oZ_i, oZ_s, oZ_l, slen_map, wr64, Int.toNat_natCast, Int.toNat_zero, ne_eq, bin_lt, bin_slt, bin_gt, b_sgt, bin_eq, b_snil, beq_4, bin_add, load_get, loadB_some, get_put_same, get_put_ne, ofc_s, load_i, off_i, off_p, ofc_encXStep, ofc0_encXStep, st_XStep, fld_XStep_kind_, fld_XStep_name_, fld_XStep_index_, fld_XStep_value_, prt_XStep_kind_, prt_XStep_name_, prt_XStep_index_, prt_XStep_value_, len_22, ia_22, join4_eq, join5_eq, Int.toNat_natCast, oN_eq, store_all, sz_50, d1, d0, r2.eq, r3.eq, k3]
          exact hR' _ ⟨show j + 1 ≤ p.length by omega, o3, b3⟩ (by omega)
      · have d1 : decide ((p.getD j default).kind_ = 1) = false := decide_eq_false (by omega)
        have d2 : decide ((p.getD j default).kind_ = 2) = true := decide_eq_true k
        rw [show stP j (p.getD j default) = [91] ++ dec (p.getD j default).index_.toNat ++ [93] from if_pos k] at hR'
        have ed := fun (d : Nat) (σ : AS) (K : AV → AS → Prop) => ito_at (hi k).1 (hi k).2 (d := d) (σ := σ) (K := K)
        obtain ⟨σ2, r2, t2⟩ := c42 ([91] ++ dec (p.getD j default).index_.toNat ++ [93]) hB1 (by simp only [List.length_append, List.length_cons, List.length_nil]; omega)
        obtain ⟨o2, b2, -⟩ := t2
        simp (disch := first | first | omega | assumption | exact scell | exact clen_XStep | (simp only [clen_XStep]; omega) | (simp only [List.length_append, List.length_cons, List.length_nil]; omega)) only [Nat.zero_add, oV_some', oN_eq, oM_some, oH_some, oD_some, oE_some, oS_eq, oT_true, oI_true, oI_false, pick_t, pick_f, un_not, oI_not, decide_not, toNat_sub1, toNat_add1, decide_true, decide_false, not_true, not_false_eq_true, Bool.not_true, Bool.not_false, Bool.not_not, oZ_b, oZ_i, oZ_s, oZ_l, slen_map, wr64, Int.toNat_natCast, Int.toNat_zero, ne_eq, bin_lt, bin_slt, bin_gt, b_sgt, bin_eq, b_snil, beq_4, bin_add, load_get, loadB_some, get_put_same, get_put_ne, ofc_s, load_i, off_i, off_p, ofc_encXStep, ofc0_encXStep, st_XStep, fld_XStep_kind_, fld_XStep_name_, fld_XStep_index_, fld_XStep_value_, prt_XStep_kind_, prt_XStep_name_, prt_XStep_index_, prt_XStep_value_, len_22, ia_22, join4_eq, join5_eq, Int.toNat_natCast, oN_eq, store_all, sz_50, d1, d2, ed, sadd, r2.eq]
        exact hR' _ ⟨show j + 1 ≤ p.length by omega, o2, b2⟩ (by omega)
      · have d1 : decide ((p.getD j default).kind_ = 1) = false := decide_eq_false (by omega)
        have d2 : decide ((p.getD j default).kind_ = 2) = false := decide_eq_false (by omega)
        have d3 : decide ((p.getD j default).kind_ = 3) = true := decide_eq_true (by omega)
        rw [show stP j (p.getD j default) = [91] ++ (p.getD j default).name_ ++ [61] ++ quS (p.getD j default).value_ ++ [93] by unfold stP; rw [if_neg (by omega), if_pos k]] at hR'
        have eq := fun (d : Nat) (σ : AS) (K : AV → AS → Prop) => e44 (s := (p.getD j default).value_) (by omega) hc (d := d) (σ := σ) (K := K)
        obtain ⟨σ2, r2, t2⟩ := c42 ([91] ++ (p.getD j default).name_ ++ [61] ++ quS (p.getD j default).value_ ++ [93]) hB1 (by simp only [List.length_append, List.length_cons, List.length_nil]; omega)
        obtain ⟨o2, b2, -⟩ := t2
        simp (disch := first | first | omega | assumption | exact scell | exact clen_XStep | (simp only [clen_XStep]; omega) | (simp only [List.length_append, List.length_cons, List.length_nil]; omega)) only [Nat.zero_add, oV_some', oN_eq, oM_some, oH_some, oD_some, oE_some, oS_eq, oT_true, oI_true, oI_false, pick_t, pick_f, un_not, oI_not, decide_not, toNat_sub1, toNat_add1, decide_true, decide_false, not_true, not_false_eq_true, Bool.not_true, Bool.not_false, Bool.not_not, oZ_b, oZ_i, oZ_s, oZ_l, slen_map, wr64, Int.toNat_natCast, Int.toNat_zero, ne_eq, bin_lt, bin_slt, bin_gt, b_sgt, bin_eq, b_snil, beq_4, bin_add, load_get, loadB_some, get_put_same, get_put_ne, ofc_s, load_i, off_i, off_p, ofc_encXStep, ofc0_encXStep, st_XStep, fld_XStep_kind_, fld_XStep_name_, fld_XStep_index_, fld_XStep_value_, prt_XStep_kind_, prt_XStep_name_, prt_XStep_index_, prt_XStep_value_, len_22, ia_22, join4_eq, join5_eq, Int.toNat_natCast, oN_eq, store_all, sz_50, d1, d2, d3, eq, sadd, r2.eq]
        exact hR' _ ⟨show j + 1 ≤ p.length by omega, o2, b2⟩ (by omega)
    · have : j = p.length := by omega
      subst this
      have hA := prT_len hv p.length (Nat.le_refl _)
      rw [(c45 hB (by omega)).eq, ozt]
  · rw [show prR p = .tup [.s [], .i .i64 1] from if_neg hb]
    rw [e13 hp ox, Bool.not_eq_true _ |>.mp hb, un_not, oV_some', Bool.not_false, oI_true, ozt]
theorem e20 {p : List XStep} (hp : p.length ≤ 140737488351232) (ox : ∀ x ∈ p, okXStep x) {d : Nat} {σ : AS} {K : AV → AS → Prop} : oC T0 d 20 [.lst (p.map encXStep)] σ K = K (prR p) σ := (c20 p hp ox).eq d σ K
end Go.Proofs.YtmfhmlhaofpeiaaGreatDoor.Ev
/- How far a name goes: the program's and the reference's; digits. -/
namespace Go.Proofs.YtmfhmlhaofpeiaaGreatDoor.Ev
open Go Go.RowKit
set_option linter.unusedSimpArgs false
set_option linter.unusedVariables false
set_option maxRecDepth 100000

def nmC (c : UInt8) : Bool := nameI c.toNat
def nmL (s : List UInt8) : Nat := (s.takeWhile nmC).length
theorem tw_end {α : Type} {q : α → Bool} {l : List α} (h : l.all q = true) : l.takeWhile q = l := by
  induction l with
  | nil => rfl
  | cons x l ih => simp only [List.all_cons, Bool.and_eq_true] at h; rw [List.takeWhile_cons_of_pos h.1, ih h.2]
theorem tw_at {α : Type} {q : α → Bool} : ∀ {l : List α} {j : Nat} {d : α}, (l.take j).all q = true → j < l.length → q (l.getD j d) = false → (l.takeWhile q).length = j
  | [], j, d, _, hj, _ => absurd hj (Nat.not_lt_zero j)
  | x :: l, 0, d, _, _, h => by
    have h' : ¬ q x = true := by
      have : q x = false := h
      rw [this]; exact Bool.false_ne_true
    rw [List.takeWhile_cons_of_neg h']; rfl
  | x :: l, j + 1, d, ha, hj, h => by
    rw [List.take_succ_cons, List.all_cons, Bool.and_eq_true] at ha
    rw [List.takeWhile_cons_of_pos ha.1, List.length_cons]
    rw [tw_at (l := l) (j := j) (d := d) ha.2 (by simpa using hj) h]
theorem nmL_le (s : List UInt8) : nmL s ≤ s.length := (List.takeWhile_sublist nmC).length_le
theorem c39 (s : List UInt8) (hl : s.length ≤ 140737488351232) : R T0 39 [.s s] (.i .i64 (nmL s : Nat)) := by
  refine r39 _ rfl rfl ?_
  unfold w39
  dsimp only [prims]
  rw [rng_9, oE_some, oN_eq]
  refine loop2 (X := Nat) (fun _ => .s s) (fun _ => .ptr 0 0) (fun j σ => j ≤ s.length ∧ σ.h.get 0 = some (.siter s j) ∧ (s.take j).all nmC = true) (fun j => s.length - j) ?_ 0 _ ⟨Nat.zero_le _, rfl, rfl⟩
  rintro R j ⟨h, n⟩ ⟨hj, hg, ha⟩ hR
  dsimp only at hg
  by_cases hj' : j < s.length
  · rcases Nat.lt_or_ge (s.getD j 0).toNat 128 with hc | hc
    · rw [next_lt hg hj' hc, oM_some]
      cases hq : nameI ((s.getD j 0).toNat : Nat)
      · have e : nmL s = j := tw_at (d := 0) ha hj' hq
        simp (disch := first | omega | assumption | exact scell | exact clen_XStep | (simp only [clen_XStep]; omega)) only [Nat.zero_add, oV_some', oN_eq, oM_some, oH_some, oD_some, oE_some, oS_eq, oT_true, oI_true, oI_false, pick_t, pick_f, un_not, oI_not, decide_not, toNat_sub1, toNat_add1, decide_true, decide_false, not_true, not_false_eq_true, Bool.not_true, Bool.not_false, Bool.not_not, oZ_b, oZ_i, oZ_s, oZ_l, slen_map, wr64, Int.toNat_natCast, Int.toNat_zero, ne_eq, ext_t, List.getElem?_cons_zero, List.getElem?_cons_succ, len_9, e66, hq, e]
      · simp (disch := first | omega | assumption | exact scell | exact clen_XStep | (simp only [clen_XStep]; omega)) only [Nat.zero_add, oV_some', oN_eq, oM_some, oH_some, oD_some, oE_some, oS_eq, oT_true, oI_true, oI_false, pick_t, pick_f, un_not, oI_not, decide_not, toNat_sub1, toNat_add1, decide_true, decide_false, not_true, not_false_eq_true, Bool.not_true, Bool.not_false, Bool.not_not, oZ_b, oZ_i, oZ_s, oZ_l, slen_map, wr64, Int.toNat_natCast, Int.toNat_zero, ne_eq, ext_t, List.getElem?_cons_zero, List.getElem?_cons_succ, len_9, e66, hq]
        exact hR (j + 1) _ ⟨by omega, get_put_same _ _ _, all_take_succ (d := 0) ha hj' hq⟩ (by omega)
    · obtain ⟨r, w, hr, he⟩ := next_ge (n := n) hg hj' hc
      have e : nmL s = j := tw_at (d := 0) ha hj' (show nameI _ = false from nameI_ge (by omega))
      rw [he, oM_some]
      simp (disch := first | omega | assumption | exact scell | exact clen_XStep | (simp only [clen_XStep]; omega)) only [Nat.zero_add, oV_some', oN_eq, oM_some, oH_some, oD_some, oE_some, oS_eq, oT_true, oI_true, oI_false, pick_t, pick_f, un_not, oI_not, decide_not, toNat_sub1, toNat_add1, decide_true, decide_false, not_true, not_false_eq_true, Bool.not_true, Bool.not_false, Bool.not_not, oZ_b, oZ_i, oZ_s, oZ_l, slen_map, wr64, Int.toNat_natCast, Int.toNat_zero, ne_eq, ext_t, List.getElem?_cons_zero, List.getElem?_cons_succ, len_9, e66, nameI_ge (show (128 : Int) ≤ (r : Nat) by omega), e]
  · rw [next_no hg (by omega), oM_some]
    have e : nmL s = s.length := by unfold nmL; rw [tw_end (all_end ha (by omega))]
    simp (disch := first | omega | assumption | exact scell | exact clen_XStep | (simp only [clen_XStep]; omega)) only [Nat.zero_add, oV_some', oN_eq, oM_some, oH_some, oD_some, oE_some, oS_eq, oT_true, oI_true, oI_false, pick_t, pick_f, un_not, oI_not, decide_not, toNat_sub1, toNat_add1, decide_true, decide_false, not_true, not_false_eq_true, Bool.not_true, Bool.not_false, Bool.not_not, oZ_b, oZ_i, oZ_s, oZ_l, slen_map, wr64, Int.toNat_natCast, Int.toNat_zero, ne_eq, ext_t, List.getElem?_cons_zero, List.getElem?_cons_succ, len_9, e]
theorem e39 {s : List UInt8} (hl : s.length ≤ 140737488351232) {d : Nat} {σ : AS} {K : AV → AS → Prop} : oC T0 d 39 [.s s] σ K = K (.i .i64 (nmL s : Nat)) σ := (c39 s hl).eq d σ K
end Go.Proofs.YtmfhmlhaofpeiaaGreatDoor.Ev
/- Numbers in brackets: canonical digits, value at most 65; the reference's number and canonical; what Atoi says at digits. -/
namespace Go.Proofs.YtmfhmlhaofpeiaaGreatDoor.Ev
open Go Go.RowKit
set_option linter.unusedSimpArgs false
set_option linter.unusedVariables false
set_option maxRecDepth 100000

def digC (c : UInt8) : Bool := decide (48 ≤ c.toNat ∧ c.toNat ≤ 57)
def canB (s : List UInt8) : Bool := s.all digC && (decide (s.length = 1) || (decide (1 < s.length) && !decide ((s.getD 0 0).toNat = 48)))
def valF (a : Nat) (c : UInt8) : Nat := a * 10 + (c.toNat - 48)
def valD (a : Nat) (l : List UInt8) : Nat := l.foldl valF a
theorem valD_cons (a : Nat) (c : UInt8) (r : List UInt8) : valD a (c :: r) = valD (valF a c) r := List.foldl_cons
theorem valF_eq (a : Nat) (c : UInt8) : valF a c = a * 10 + (c.toNat - 48) := rfl
theorem valD_ge (l : List UInt8) : ∀ a : Nat, a ≤ valD a l := by
  induction l with
  | nil => intro a; exact Nat.le_refl _
  | cons c r ih =>
    intro a
    rw [valD_cons]
    have h := ih (valF a c)
    have h2 := valF_eq a c
    generalize valD (valF a c) r = v at h ⊢
    omega
theorem pu_dig (l : List UInt8) : ∀ a : Nat, l.all digC = true → (Lib.parseUint10 a l = .ok (valD a l)) ∨ (Lib.parseUint10 a l = .range ∧ 18446744073709551616 ≤ valD a l) := by
  induction l with
  | nil => intro a _; exact .inl rfl
  | cons c r ih =>
    intro a h
    rw [List.all_cons, Bool.and_eq_true] at h
    have hd : 48 ≤ c.toNat ∧ c.toNat ≤ 57 := of_decide_eq_true h.1
    have hg := valD_ge r (valF a c)
    have ih' := ih (valF a c) h.2
    have hv := valF_eq a c
    rw [Lib.parseUint10, if_pos hd, valD_cons, ← valF_eq]
    generalize valD (valF a c) r = v at hg ih' ⊢
    by_cases h1 : 1844674407370955162 ≤ a
    · rw [if_pos h1]; exact .inr ⟨rfl, by omega⟩
    · rw [if_neg h1]
      by_cases h2 : 18446744073709551616 ≤ valF a c
      · rw [if_pos h2]; exact .inr ⟨rfl, by omega⟩
      · rw [if_neg h2]; exact ih'
theorem atoi_dig {s : List UInt8} (hne : s ≠ []) (h : s.all digC = true) : (Lib.atoiAll s = .ok (valD 0 s : Nat) ∧ valD 0 s < 9223372036854775808) ∨ (Lib.atoiAll s = .range ∧ 9223372036854775808 ≤ valD 0 s) := by
  match s, hne with
  | c :: r, _ =>
    have h0 := h
    rw [List.all_cons, Bool.and_eq_true] at h
    have hd : 48 ≤ c.toNat ∧ c.toNat ≤ 57 := of_decide_eq_true h.1
    have hp : Lib.parseMag (c :: r) = Lib.parseUint10 0 (c :: r) := if_neg (by simp)
    have hc : ¬ (c.toNat = 43 ∨ c.toNat = 45) := by omega
    have hn : ¬ c.toNat = 45 := by omega
    unfold Lib.atoiAll
    simp only []
    rw [if_neg hc, hp]
    rcases pu_dig (c :: r) 0 h0 with e | ⟨e, hv⟩
    · rw [e]; simp only []
      by_cases hv : 9223372036854775808 ≤ valD 0 (c :: r)
      · rw [if_pos ⟨hn, hv⟩]; exact .inr ⟨rfl, hv⟩
      · rw [if_neg (fun q => hv q.2), if_neg (fun q => hn q.1), if_neg hn]; exact .inl ⟨rfl, by omega⟩
    · rw [e]; exact .inr ⟨rfl, by omega⟩
theorem can_no {s : List UInt8} {j : Nat} (hj : j < s.length) (h : digC (s.getD j 0) = false) : canB s = false := by
  unfold canB; rw [all_false_at (p := digC) (d := 0) hj h]; rfl
end Go.Proofs.YtmfhmlhaofpeiaaGreatDoor.Ev
/- The reference's number (at most 65). -/
namespace Go.Proofs.YtmfhmlhaofpeiaaGreatDoor.Ev
open Go Go.RowKit
set_option linter.unusedSimpArgs false
set_option linter.unusedVariables false
set_option maxRecDepth 100000

end Go.Proofs.YtmfhmlhaofpeiaaGreatDoor.Ev
/- stringslite.Clone. -/
namespace Go.Proofs.YtmfhmlhaofpeiaaGreatDoor.Ev
open Go Go.RowKit
set_option linter.unusedSimpArgs false
set_option linter.unusedVariables false
set_option maxRecDepth 100000

theorem setN_all {α : Type} : ∀ (a b : List α), a.length = b.length → setN a 0 b = some b
  | [], [], _ => rfl
  | _ :: a, d :: b, h => by
    have := setN_all a b (by simpa using h)
    simp only [setN, this]; rfl
  | [], _ :: _, h => by simp at h
  | _ :: _, [], h => by simp at h
theorem repN_len (a : AV) : ∀ n, (repN [a] n).length = n
  | 0 => rfl
  | n + 1 => by
    have := repN_len a n
    simp only [repN, List.length_append, List.length_cons, List.length_nil, this]; omega
theorem c140 (s : List UInt8) (hl : s.length ≤ 1048576) : R T0 140 [.s s] (.s s) := by
  have ty87 : T0.ty 87 = some (.pointer 5) := by kernel_rfl
  have hz : T0.sz 5 = some 1 := by kernel_rfl
  have hzr : T0.zr 5 = some (.i .u8 0) := by kernel_rfl
  have hby : T0.by_ 5 = some 1 := by kernel_rfl
  refine r140 _ rfl rfl ?_
  unfold w140
  dsimp only [prims]
  by_cases h0 : s = []
  · subst h0
    simp (disch := first | omega | assumption | exact scell | exact clen_XStep | (simp only [clen_XStep]; omega)) only [Nat.zero_add, oV_some', oN_eq, oM_some, oH_some, oD_some, oE_some, oS_eq, oT_true, oI_true, oI_false, pick_t, pick_f, un_not, oI_not, decide_not, toNat_sub1, toNat_add1, decide_true, decide_false, not_true, not_false_eq_true, Bool.not_true, Bool.not_false, Bool.not_not, oZ_b, oZ_i, oZ_s, oZ_l, slen_map, wr64, Int.toNat_natCast, Int.toNat_zero, ne_eq, bin_eq, b_snil, beq_4, len_9, len_63, ia_63, List.length_nil, Int.natCast_zero, decide_true]
    first | done | rfl
  · have hpos : 0 < s.length := List.length_pos_iff.mpr h0
    have d0 : decide (((s.length : Nat) : Int) = 0) = false := decide_eq_false (by omega)
    have mk : evMake T0 63 (.i .i64 (s.length : Nat)) (.i .i64 (s.length : Nat)) = some (.cells (repN [.i .u8 0] s.length) 5 false, fun id => .sl id 0 s.length (some s.length)) := by
      unfold evMake
      simp only [ty63, hz, hzr, hby]
      rw [if_pos ⟨by omega, by omega, by omega, by omega⟩]; rfl
    have nw : ∀ h : Tr AB, newCells h 1 (Nat.min s.length s.length) (.s s) = some (s.map bA) := fun h => by
      rw [show Nat.min s.length s.length = s.length from Nat.min_self _]
      show some ((s.take s.length).map _) = _
      rw [List.take_length]; rfl
    have cp : evCopy T0 ⟨Tr.nil.put 0 (some (.cells (repN [.i .u8 0] s.length) 5 false)), 1⟩ 63 (.sl 0 0 s.length (some s.length)) (.s s) = some (.i .i64 (Nat.min s.length s.length : Nat), ⟨(Tr.nil.put 0 (some (.cells (repN [.i .u8 0] s.length) 5 false))).put 0 (some (.cells (s.map bA) 5 false)), 1⟩) := by
      have hset : setN (repN [.i .u8 0] s.length) 0 (s.map bA) = some (s.map bA) := setN_all _ _ (by rw [repN_len, List.length_map])
      unfold evCopy
      simp only [ty63, hz, lenA, nw, get_put_same, leafs_b, hset]
    have ia : evIndexAddr T0 63 (.sl 0 0 s.length (some s.length)) (.i .i64 0) = some (.ptr 0 0) := by
      unfold evIndexAddr
      simp only [ty63, hz]
      rw [if_pos ⟨by omega, by omega⟩]; rfl
    have ln : ∀ h : Tr AB, evBuiltin T0 h .len [63] [.sl 0 0 s.length (some s.length)] = some (.i .i64 (s.length : Nat)) := fun h => by simp [evBuiltin, ty63]
    have tk : takeN s.length (s.map bA) = some (s.map bA) := by
      have := takeN_all (s.map bA)
      rwa [List.length_map] at this
    have us : ∀ h : Tr AB, h.get 0 = some (.cells (s.map bA) 5 false) → evUStr T0 ⟨h, 1⟩ 87 (.ptr 0 0) (.i .i64 (s.length : Nat)) = some (.s s, ⟨h.put 0 none, 1⟩) := fun h hg => by
      unfold evUStr
      simp only [ty87, hg, hz, Int.toNat_natCast, tk, bytes_b, u8s_b, Nat.beq_refl]
      rw [if_pos ⟨by omega, by omega⟩]
    rw [len_9, oV_some', bin_eq, oV_some', d0, oI_false, oV_some', mk, oE_some, oN_eq]
    rw [cp, oM_some, ia, oV_some', ln, oV_some', us _ (get_put_same _ _ _), oM_some, oZ_s]
theorem e140 {s : List UInt8} (hl : s.length ≤ 1048576) {d : Nat} {σ : AS} {K : AV → AS → Prop} : oC T0 d 140 [.s s] σ K = K (.s s) σ := (c140 s hl).eq d σ K
end Go.Proofs.YtmfhmlhaofpeiaaGreatDoor.Ev
/- strconv's rangeError. -/
namespace Go.Proofs.YtmfhmlhaofpeiaaGreatDoor.Ev
open Go Go.RowKit
set_option linter.unusedSimpArgs false
set_option linter.unusedVariables false
set_option maxRecDepth 100000

def rgE (a s : List UInt8) : AV := .iptr [.s a, .s s, (.ifc 148 (.iptr [(.s [118, 97, 108, 117, 101, 32, 111, 117, 116, 32, 111, 102, 32, 114, 97, 110, 103, 101])]))]
theorem c128 (a s : List UInt8) (hl : s.length ≤ 1048576) : R T0 128 [.s a, .s s] (rgE a s) := by
  have ld : ∃ e : AV, evLoad T0 Tr.nil 67 (.iptr [(.ifc 148 (.iptr [(.s [118, 97, 108, 117, 101, 32, 111, 117, 116, 32, 111, 102, 32, 114, 97, 110, 103, 101])]))]) = some e ∧ e = (.ifc 148 (.iptr [(.s [118, 97, 108, 117, 101, 32, 111, 117, 116, 32, 111, 102, 32, 114, 97, 110, 103, 101])])) := ⟨_, by kernel_rfl, rfl⟩
  obtain ⟨e, ld, he⟩ := ld
  have bd : evBuild T0 144 [(0, .s a), (1, .s s), (2, (.ifc 148 (.iptr [(.s [118, 97, 108, 117, 101, 32, 111, 117, 116, 32, 111, 102, 32, 114, 97, 110, 103, 101])])))] = some (.agg [.s a, .s s, .ifc 148 (.iptr [(.s [118, 97, 108, 117, 101, 32, 111, 117, 116, 32, 111, 102, 32, 114, 97, 110, 103, 101])])]) := by kernel_rfl
  refine r128 _ _ rfl rfl ?_
  unfold w128
  dsimp only [prims]
  rw [e140 hl, ld, oV_some', he, bd, oV_some', oS_eq]
  refine ⟨9, rgE a s, ?_, rfl⟩
  kernel_rfl
theorem e128 {a s : List UInt8} (hl : s.length ≤ 1048576) {d : Nat} {σ : AS} {K : AV → AS → Prop} : oC T0 d 128 [.s a, .s s] σ K = K (rgE a s) σ := (c128 a s hl).eq d σ K
theorem c113 (a s : List UInt8) (hl : s.length ≤ 1048576) : R T0 113 [.s a, .s s, .i .i64 0, .i .i64 0, .ifc 126 (.i .i64 1)] (.ifc 129 (rgE a s)) := by
  have q1 : evBin T0 .eql 67 false (.ifc 126 (.i .i64 1)) (.ifc 126 (.i .i64 2)) = some (.b false) := by kernel_rfl
  have q2 : evBin T0 .eql 67 false (.ifc 126 (.i .i64 1)) (.ifc 126 (.i .i64 1)) = some (.b true) := by kernel_rfl
  refine r113 _ _ _ _ _ rfl rfl ?_
  unfold w113
  dsimp only [prims]
  rw [q1, oV_some', oI_false, q2, oV_some', oI_true, e128 hl]
  rw [oZ_free rfl]; rfl
theorem c112 (s : List UInt8) (hl : s.length ≤ 1048576) : R T0 112 [.s s] (atoiV s) := by
  have h : extR T0 112 [.s s] = extAtoi [.s s] := by kernel_rfl
  refine R.ext (by kernel_rfl) ?_
  rw [h]
  have hb : Nat.ble s.length 9223372036854775806 = true := Nat.ble_eq_true_of_le (by omega)
  unfold extAtoi
  simp only [hb]
/-- Atoi of the program at digits. -/
theorem c94 (s : List UInt8) (hl : s.length ≤ 1048576) (hne : s ≠ []) (hd : s.all digC = true) : (R T0 94 [.s s] (.tup [.i .i64 (valD 0 s : Nat), .nili]) ∧ valD 0 s < 9223372036854775808) ∨ ∃ x : Int, R T0 94 [.s s] (.tup [.i .i64 x, .ifc 129 (rgE [65, 116, 111, 105] s)]) ∧ 65 ≤ valD 0 s := by
  rcases atoi_dig hne hd with ⟨e, hv⟩ | ⟨e, hv⟩
  · have ea : atoiV s = .tup [.i .i64 (valD 0 s : Nat), .nili] := by unfold atoiV; rw [e]
    have q : evBin T0 .neq 67 true .nili .nili = some (.b false) := by kernel_rfl
    refine .inl ⟨r94 _ rfl rfl ?_, hv⟩
    unfold w94
    dsimp only [prims]
    rw [(c112 s hl).eq, ea]
    simp only [ext_t, List.getElem?_cons_zero, List.getElem?_cons_succ, oV_some', q, oI_false]
    rw [oZ_free rfl]; rfl
  · have ea : atoiV s = .tup [.i .i64 (Lib.atoiSat s), .ifc 126 (.i .i64 1)] := by unfold atoiV; rw [e]
    have q : evBin T0 .neq 67 true (.ifc 126 (.i .i64 1)) .nili = some (.b true) := by kernel_rfl
    refine .inr ⟨_, r94 _ rfl rfl (r := .tup [.i .i64 (Lib.atoiSat s), .ifc 129 (rgE [65, 116, 111, 105] s)]) ?_, by omega⟩
    unfold w94
    dsimp only [prims]
    rw [(c112 s hl).eq, ea]
    simp only [ext_t, List.getElem?_cons_zero, List.getElem?_cons_succ, oV_some', q, oI_true]
    rw [(c113 _ s hl).eq, oZ_free rfl]; rfl
end Go.Proofs.YtmfhmlhaofpeiaaGreatDoor.Ev
