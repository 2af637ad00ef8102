/- Names and texts. -/
import Derived.Test.YtmfhmlhaofpeiaaGreatDoorV0
import Derived.Test.YtmfhmlhaofpeiaaGreatDoorEvG
namespace Go.Proofs.YtmfhmlhaofpeiaaGreatDoor.Ev
open Go Go.RowKit
set_option linter.unusedSimpArgs false
set_option linter.unusedVariables false
set_option maxRecDepth 100000

theorem all_take_succ {α : Type} {p : α → Bool} {l : List α} {d : α} {j : Nat} (h : (l.take j).all p = true) (hj : j < l.length) (hp : p (l.getD j d) = true) : (l.take (j + 1)).all p = true := by
  rw [List.take_add_one, List.all_append, h]
  rw [List.getD_eq_getElem?_getD, List.getElem?_eq_getElem hj] at hp
  rw [List.getElem?_eq_getElem hj]
  simpa using hp
theorem all_false_at {α : Type} {p : α → Bool} {l : List α} {d : α} {j : Nat} (hj : j < l.length) (hp : p (l.getD j d) = false) : l.all p = false := by
  rw [List.getD_eq_getElem?_getD, List.getElem?_eq_getElem hj] at hp
  rw [List.all_eq_false]
  exact ⟨l[j], List.getElem_mem hj, by simpa using hp⟩
theorem all_end {α : Type} {p : α → Bool} {l : List α} {j : Nat} (h : (l.take j).all p = true) (hj : l.length ≤ j) : l.all p = true := by
  rwa [List.take_of_length_le hj] at h
theorem getD_mem {α : Type} [Inhabited α] {l : List α} {j : Nat} (h : j < l.length) : l.getD j default ∈ l := by
  rw [List.getD_eq_getElem?_getD, List.getElem?_eq_getElem h]; exact List.getElem_mem h
/-- A character of a name; of a text. -/
def nameI (r : Int) : Bool := decide ((97 ≤ r ∧ r ≤ 122) ∨ (65 ≤ r ∧ r ≤ 90) ∨ (48 ≤ r ∧ r ≤ 57) ∨ r = 45 ∨ r = 95 ∨ r = 47)
def textI (r : Int) : Bool := decide (r = 10 ∨ (32 ≤ r ∧ r ≤ 126))
def nmB (s : List UInt8) : Bool := s.all (fun c => nameI c.toNat) && decide (0 < s.length) && decide (s.length ≤ 40)
def txB (s : List UInt8) : Bool := s.all (fun c => textI c.toNat) && decide (s.length ≤ 200)
theorem c66 (r : Int) : R T0 66 [.i .i32 r] (.b (nameI r)) := by
  refine r66 _ rfl rfl ?_
  unfold w66
  dsimp only [prims]
  simp (disch := first | omega | assumption | exact scell | exact clen_XStep | (simp only [clen_XStep]; omega)) only [Nat.zero_add, oV_some', oN_eq, oM_some, oH_some, oD_some, oE_some, oS_eq, oT_true, oI_true, oI_false, pick_t, pick_f, un_not, oI_not, decide_not, toNat_sub1, toNat_add1, decide_true, decide_false, not_true, not_false_eq_true, Bool.not_true, Bool.not_false, Bool.not_not, oZ_b, oZ_i, oZ_s, oZ_l, slen_map, wr64, Int.toNat_natCast, Int.toNat_zero, ne_eq, bin_le, b_sle, bin_ge, bin_sge, bin_eq, b_snil, beq_4, ofc_encXStep, ofc0_encXStep, st_XStep, fld_XStep_kind_, fld_XStep_name_, fld_XStep_index_, fld_XStep_value_, prt_XStep_kind_, prt_XStep_name_, prt_XStep_index_, prt_XStep_value_, gtt_1, gff_1, gtf_1, gft_1, gvv_1, gnt_1, gnf_1, gtt_2, gff_2, gtf_2, gft_2, gvv_2, gnt_2, gnf_2, gtt_3, gff_3, gtf_3, gft_3, gvv_3, gnt_3, gnf_3]
  repeat' ((first | with_reducible refine oI_decd (fun h => ?_) (fun h => ?_) | with_reducible refine gdt_1 (fun h => ?_) (fun h => ?_) | with_reducible refine gdt_2 (fun h => ?_) (fun h => ?_) | with_reducible refine gdt_3 (fun h => ?_) (fun h => ?_) | with_reducible refine gdf_1 (fun h => ?_) (fun h => ?_) | with_reducible refine gdf_2 (fun h => ?_) (fun h => ?_) | with_reducible refine gdf_3 (fun h => ?_) (fun h => ?_) | with_reducible refine gbt_1 (fun h => ?_) (fun h => ?_) | with_reducible refine gbt_2 (fun h => ?_) (fun h => ?_) | with_reducible refine gbt_3 (fun h => ?_) (fun h => ?_) | with_reducible refine gbf_1 (fun h => ?_) (fun h => ?_) | with_reducible refine gbf_2 (fun h => ?_) (fun h => ?_) | with_reducible refine gbf_3 (fun h => ?_) (fun h => ?_) | with_reducible refine oI_bool (fun h => ?_) (fun h => ?_)) <;> try simp (disch := first | omega | assumption | exact scell | exact clen_XStep | (simp only [clen_XStep]; omega)) only [h, Nat.zero_add, oV_some', oN_eq, oM_some, oH_some, oD_some, oE_some, oS_eq, oT_true, oI_true, oI_false, pick_t, pick_f, un_not, oI_not, decide_not, toNat_sub1, toNat_add1, decide_true, decide_false, not_true, not_false_eq_true, Bool.not_true, Bool.not_false, Bool.not_not, oZ_b, oZ_i, oZ_s, oZ_l, slen_map, wr64, Int.toNat_natCast, Int.toNat_zero, ne_eq, bin_le, b_sle, bin_ge, bin_sge, bin_eq, b_snil, beq_4, ofc_encXStep, ofc0_encXStep, st_XStep, fld_XStep_kind_, fld_XStep_name_, fld_XStep_index_, fld_XStep_value_, prt_XStep_kind_, prt_XStep_name_, prt_XStep_index_, prt_XStep_value_, gtt_1, gff_1, gtf_1, gft_1, gvv_1, gnt_1, gnf_1, gtt_2, gff_2, gtf_2, gft_2, gvv_2, gnt_2, gnf_2, gtt_3, gff_3, gtf_3, gft_3, gvv_3, gnt_3, gnf_3])
  all_goals first
    | (unfold nameI; exact congrArg AV.b (decide_eq_true (by omega)).symm)
    | (unfold nameI; exact congrArg AV.b (decide_eq_false (by omega)).symm)
    | (unfold nameI; exact congrArg AV.b (decide_eq_decide.2 (by omega)))
theorem e66 {r : Int} {d : Nat} {σ : AS} {K : AV → AS → Prop} : oC T0 d 66 [.i .i32 r] σ K = K (.b (nameI r)) σ := (c66 r).eq d σ K
theorem c93 (r : Int) : R T0 93 [.i .u8 r] (.b (nameI r)) := by
  refine r93 _ rfl rfl ?_
  unfold w93
  dsimp only [prims]
  simp (disch := first | omega | assumption | exact scell | exact clen_XStep | (simp only [clen_XStep]; omega)) only [Nat.zero_add, oV_some', oN_eq, oM_some, oH_some, oD_some, oE_some, oS_eq, oT_true, oI_true, oI_false, pick_t, pick_f, un_not, oI_not, decide_not, toNat_sub1, toNat_add1, decide_true, decide_false, not_true, not_false_eq_true, Bool.not_true, Bool.not_false, Bool.not_not, oZ_b, oZ_i, oZ_s, oZ_l, slen_map, wr64, Int.toNat_natCast, Int.toNat_zero, ne_eq, bin_le, b_sle, bin_ge, bin_sge, bin_eq, b_snil, beq_4, ofc_encXStep, ofc0_encXStep, st_XStep, fld_XStep_kind_, fld_XStep_name_, fld_XStep_index_, fld_XStep_value_, prt_XStep_kind_, prt_XStep_name_, prt_XStep_index_, prt_XStep_value_, gtt_1, gff_1, gtf_1, gft_1, gvv_1, gnt_1, gnf_1, gtt_2, gff_2, gtf_2, gft_2, gvv_2, gnt_2, gnf_2, gtt_3, gff_3, gtf_3, gft_3, gvv_3, gnt_3, gnf_3]
  repeat' ((first | with_reducible refine oI_decd (fun h => ?_) (fun h => ?_) | with_reducible refine gdt_1 (fun h => ?_) (fun h => ?_) | with_reducible refine gdt_2 (fun h => ?_) (fun h => ?_) | with_reducible refine gdt_3 (fun h => ?_) (fun h => ?_) | with_reducible refine gdf_1 (fun h => ?_) (fun h => ?_) | with_reducible refine gdf_2 (fun h => ?_) (fun h => ?_) | with_reducible refine gdf_3 (fun h => ?_) (fun h => ?_) | with_reducible refine gbt_1 (fun h => ?_) (fun h => ?_) | with_reducible refine gbt_2 (fun h => ?_) (fun h => ?_) | with_reducible refine gbt_3 (fun h => ?_) (fun h => ?_) | with_reducible refine gbf_1 (fun h => ?_) (fun h => ?_) | with_reducible refine gbf_2 (fun h => ?_) (fun h => ?_) | with_reducible refine gbf_3 (fun h => ?_) (fun h => ?_) | with_reducible refine oI_bool (fun h => ?_) (fun h => ?_)) <;> try simp (disch := first | omega | assumption | exact scell | exact clen_XStep | (simp only [clen_XStep]; omega)) only [h, Nat.zero_add, oV_some', oN_eq, oM_some, oH_some, oD_some, oE_some, oS_eq, oT_true, oI_true, oI_false, pick_t, pick_f, un_not, oI_not, decide_not, toNat_sub1, toNat_add1, decide_true, decide_false, not_true, not_false_eq_true, Bool.not_true, Bool.not_false, Bool.not_not, oZ_b, oZ_i, oZ_s, oZ_l, slen_map, wr64, Int.toNat_natCast, Int.toNat_zero, ne_eq, bin_le, b_sle, bin_ge, bin_sge, bin_eq, b_snil, beq_4, ofc_encXStep, ofc0_encXStep, st_XStep, fld_XStep_kind_, fld_XStep_name_, fld_XStep_index_, fld_XStep_value_, prt_XStep_kind_, prt_XStep_name_, prt_XStep_index_, prt_XStep_value_, gtt_1, gff_1, gtf_1, gft_1, gvv_1, gnt_1, gnf_1, gtt_2, gff_2, gtf_2, gft_2, gvv_2, gnt_2, gnf_2, gtt_3, gff_3, gtf_3, gft_3, gvv_3, gnt_3, gnf_3])
  all_goals first
    | (unfold nameI; exact congrArg AV.b (decide_eq_true (by omega)).symm)
    | (unfold nameI; exact congrArg AV.b (decide_eq_false (by omega)).symm)
    | (unfold nameI; exact congrArg AV.b (decide_eq_decide.2 (by omega)))
theorem e93 {r : Int} {d : Nat} {σ : AS} {K : AV → AS → Prop} : oC T0 d 93 [.i .u8 r] σ K = K (.b (nameI r)) σ := (c93 r).eq d σ K
/-- Runes out of bytes. -/
theorem dec_lt {s : List UInt8} {j : Nat} (hj : j < s.length) (h : (s.getD j 0).toNat < 128) : Utf8.decode ⟨⟨s⟩⟩ j = ((s.getD j 0).toNat, 1) := by
  have e : ((⟨⟨s⟩⟩ : ByteArray).get! (j + 0)) = s.getD j 0 := by
    show (⟨s⟩ : Array UInt8)[j + 0]! = _
    simp [List.getD_eq_getElem?_getD, getElem!_def]
    cases s[j]? <;> rfl
  unfold Utf8.decode
  simp only [e]
  rw [if_pos h]
theorem dec_ge {s : List UInt8} {j : Nat} (h : 128 ≤ (s.getD j 0).toNat) : 128 ≤ (Utf8.decode ⟨⟨s⟩⟩ j).1 := by
  have e : ((⟨⟨s⟩⟩ : ByteArray).get! (j + 0)) = s.getD j 0 := by
    show (⟨s⟩ : Array UInt8)[j + 0]! = _
    simp [List.getD_eq_getElem?_getD, getElem!_def]
    cases s[j]? <;> rfl
  unfold Utf8.decode
  simp only [e]
  rw [if_neg (by omega)]
  split
  · split
    · assumption
    · simp [Utf8.runeError]
  · split
    · split
      · rename_i hq; simp only [Bool.and_eq_true, decide_eq_true_eq, ge_iff_le] at hq; simp only; omega
      · simp [Utf8.runeError]
    · split
      · split
        · rename_i hq; simp only [Bool.and_eq_true, decide_eq_true_eq, ge_iff_le] at hq; simp only; omega
        · simp [Utf8.runeError]
      · simp [Utf8.runeError]
theorem nameI_ge {r : Int} (h : 128 ≤ r) : nameI r = false := decide_eq_false (by omega)
theorem next_lt {h : Tr AB} {n id j : Nat} {s : List UInt8} (hg : h.get id = some (.siter s j)) (hj : j < s.length) (hc : (s.getD j 0).toNat < 128) : evNext ⟨h, n⟩ (.ptr id 0) = some (.tup [.b true, .i .i64 (j : Nat), .i .i32 ((s.getD j 0).toNat : Nat)], ⟨h.put id (some (.siter s (j + 1))), n⟩) := by
  simp only [evNext, hg, Nat.ble_eq_true_of_le (show j + 1 ≤ s.length from hj), dec_lt hj hc]
theorem next_ge {h : Tr AB} {n id j : Nat} {s : List UInt8} (hg : h.get id = some (.siter s j)) (hj : j < s.length) (hc : 128 ≤ (s.getD j 0).toNat) : ∃ r w : Nat, 128 ≤ r ∧ evNext ⟨h, n⟩ (.ptr id 0) = some (.tup [.b true, .i .i64 (j : Nat), .i .i32 (r : Nat)], ⟨h.put id (some (.siter s w)), n⟩) := by
  refine ⟨(Utf8.decode ⟨⟨s⟩⟩ j).1, j + (Utf8.decode ⟨⟨s⟩⟩ j).2, dec_ge hc, ?_⟩
  simp only [evNext, hg, Nat.ble_eq_true_of_le (show j + 1 ≤ s.length from hj)]
theorem next_no {h : Tr AB} {n id j : Nat} {s : List UInt8} (hg : h.get id = some (.siter s j)) (hj : s.length ≤ j) : evNext ⟨h, n⟩ (.ptr id 0) = some (.tup [.b false], ⟨h, n⟩) := by
  have : Nat.ble (j + 1) s.length = false := by
    cases q : Nat.ble (j + 1) s.length
    · rfl
    · have := Nat.le_of_ble_eq_true q; omega
  simp only [evNext, hg, this]
theorem pick_orn (c y : Bool) : evPick (.b !c) (some (.b true)) (some (cnd c (.b y))) = some (.b (!c || y)) := by cases c <;> rfl
theorem pick_andn (c y : Bool) : evPick (.b !c) (some (cnd (!c) (.b y))) (some (.b false)) = some (.b (!c && y)) := by cases c <;> rfl
theorem nest_and {l d : Nat} {c x y : Bool} {σ : AS} {K : AV → AS → Prop} : oG [l] (.b c) false (fun k : AV → AS → Prop => oV d (evPick (cnd (!c) (.b x)) (some (cnd (!c && x) (.b y))) (some (.b false))) fun v => k v σ) σ K = K (cnd (!c) (.b (x && y))) σ := by
  cases c <;> cases x <;> cases y <;> first | rfl | (simp [oG, cnd, evPick, oV, voidC])
theorem nest_andn {l d : Nat} {c x y : Bool} {σ : AS} {K : AV → AS → Prop} : oG [l] (.b (!c)) false (fun k : AV → AS → Prop => oV d (evPick (cnd c (.b x)) (some (cnd (c && x) (.b y))) (some (.b false))) fun v => k v σ) σ K = K (cnd c (.b (x && y))) σ := by
  cases c <;> cases x <;> cases y <;> first | rfl | (simp [oG, cnd, evPick, oV, voidC])
theorem nest_or {l d : Nat} {c x y : Bool} {σ : AS} {K : AV → AS → Prop} : oG [l] (.b c) true (fun k : AV → AS → Prop => oV d (evPick (cnd c (.b x)) (some (.b true)) (some (cnd (c && !x) (.b y)))) fun v => k v σ) σ K = K (cnd c (.b (x || y))) σ := by
  cases c <;> cases x <;> cases y <;> first | rfl | (simp [oG, cnd, evPick, oV, voidC])
theorem nest_orn {l d : Nat} {c x y : Bool} {σ : AS} {K : AV → AS → Prop} : oG [l] (.b (!c)) true (fun k : AV → AS → Prop => oV d (evPick (cnd (!c) (.b x)) (some (.b true)) (some (cnd (!c && !x) (.b y)))) fun v => k v σ) σ K = K (cnd (!c) (.b (x || y))) σ := by
  cases c <;> cases x <;> cases y <;> first | rfl | (simp [oG, cnd, evPick, oV, voidC])
theorem gct_1 {l0 : Nat} {x y : Bool} {body : (AV → AS → Prop) → Prop} {σ : AS} {K : AV → AS → Prop} : oG [l0] (cnd x (.b y)) true body σ K = oG [l0] (.b (x && y)) true body σ K := oG_cnd_t
theorem gcf_1 {l0 : Nat} {x y : Bool} {body : (AV → AS → Prop) → Prop} {σ : AS} {K : AV → AS → Prop} : oG [l0] (cnd x (.b y)) false body σ K = oG [l0] (.b (x && !y)) true body σ K := oG_cnd_f
theorem gct_2 {l0 l1 : Nat} {x y : Bool} {body : (AV → AV → AS → Prop) → Prop} {σ : AS} {K : AV → AV → AS → Prop} : oG [l0, l1] (cnd x (.b y)) true body σ K = oG [l0, l1] (.b (x && y)) true body σ K := oG_cnd_t
theorem gcf_2 {l0 l1 : Nat} {x y : Bool} {body : (AV → AV → AS → Prop) → Prop} {σ : AS} {K : AV → AV → AS → Prop} : oG [l0, l1] (cnd x (.b y)) false body σ K = oG [l0, l1] (.b (x && !y)) true body σ K := oG_cnd_f
theorem gct_3 {l0 l1 l2 : Nat} {x y : Bool} {body : (AV → AV → AV → AS → Prop) → Prop} {σ : AS} {K : AV → AV → AV → AS → Prop} : oG [l0, l1, l2] (cnd x (.b y)) true body σ K = oG [l0, l1, l2] (.b (x && y)) true body σ K := oG_cnd_t
theorem gcf_3 {l0 l1 l2 : Nat} {x y : Bool} {body : (AV → AV → AV → AS → Prop) → Prop} {σ : AS} {K : AV → AV → AV → AS → Prop} : oG [l0, l1, l2] (cnd x (.b y)) false body σ K = oG [l0, l1, l2] (.b (x && !y)) true body σ K := oG_cnd_f
theorem gct_4 {l0 l1 l2 l3 : Nat} {x y : Bool} {body : (AV → AV → AV → AV → AS → Prop) → Prop} {σ : AS} {K : AV → AV → AV → AV → AS → Prop} : oG [l0, l1, l2, l3] (cnd x (.b y)) true body σ K = oG [l0, l1, l2, l3] (.b (x && y)) true body σ K := oG_cnd_t
theorem gcf_4 {l0 l1 l2 l3 : Nat} {x y : Bool} {body : (AV → AV → AV → AV → AS → Prop) → Prop} {σ : AS} {K : AV → AV → AV → AV → AS → Prop} : oG [l0, l1, l2, l3] (cnd x (.b y)) false body σ K = oG [l0, l1, l2, l3] (.b (x && !y)) true body σ K := oG_cnd_f
theorem gct_5 {l0 l1 l2 l3 l4 : Nat} {x y : Bool} {body : (AV → AV → AV → AV → AV → AS → Prop) → Prop} {σ : AS} {K : AV → AV → AV → AV → AV → AS → Prop} : oG [l0, l1, l2, l3, l4] (cnd x (.b y)) true body σ K = oG [l0, l1, l2, l3, l4] (.b (x && y)) true body σ K := oG_cnd_t
theorem gcf_5 {l0 l1 l2 l3 l4 : Nat} {x y : Bool} {body : (AV → AV → AV → AV → AV → AS → Prop) → Prop} {σ : AS} {K : AV → AV → AV → AV → AV → AS → Prop} : oG [l0, l1, l2, l3, l4] (cnd x (.b y)) false body σ K = oG [l0, l1, l2, l3, l4] (.b (x && !y)) true body σ K := oG_cnd_f
theorem gct_6 {l0 l1 l2 l3 l4 l5 : Nat} {x y : Bool} {body : (AV → AV → AV → AV → AV → AV → AS → Prop) → Prop} {σ : AS} {K : AV → AV → AV → AV → AV → AV → AS → Prop} : oG [l0, l1, l2, l3, l4, l5] (cnd x (.b y)) true body σ K = oG [l0, l1, l2, l3, l4, l5] (.b (x && y)) true body σ K := oG_cnd_t
theorem gcf_6 {l0 l1 l2 l3 l4 l5 : Nat} {x y : Bool} {body : (AV → AV → AV → AV → AV → AV → AS → Prop) → Prop} {σ : AS} {K : AV → AV → AV → AV → AV → AV → AS → Prop} : oG [l0, l1, l2, l3, l4, l5] (cnd x (.b y)) false body σ K = oG [l0, l1, l2, l3, l4, l5] (.b (x && !y)) true body σ K := oG_cnd_f
theorem gct_7 {l0 l1 l2 l3 l4 l5 l6 : Nat} {x y : Bool} {body : (AV → AV → AV → AV → AV → AV → AV → AS → Prop) → Prop} {σ : AS} {K : AV → AV → AV → AV → AV → AV → AV → AS → Prop} : oG [l0, l1, l2, l3, l4, l5, l6] (cnd x (.b y)) true body σ K = oG [l0, l1, l2, l3, l4, l5, l6] (.b (x && y)) true body σ K := oG_cnd_t
theorem gcf_7 {l0 l1 l2 l3 l4 l5 l6 : Nat} {x y : Bool} {body : (AV → AV → AV → AV → AV → AV → AV → AS → Prop) → Prop} {σ : AS} {K : AV → AV → AV → AV → AV → AV → AV → AS → Prop} : oG [l0, l1, l2, l3, l4, l5, l6] (cnd x (.b y)) false body σ K = oG [l0, l1, l2, l3, l4, l5, l6] (.b (x && !y)) true body σ K := oG_cnd_f
theorem gct_8 {l0 l1 l2 l3 l4 l5 l6 l7 : Nat} {x y : Bool} {body : (AV → AV → AV → AV → AV → AV → AV → AV → AS → Prop) → Prop} {σ : AS} {K : AV → AV → AV → AV → AV → AV → AV → AV → AS → Prop} : oG [l0, l1, l2, l3, l4, l5, l6, l7] (cnd x (.b y)) true body σ K = oG [l0, l1, l2, l3, l4, l5, l6, l7] (.b (x && y)) true body σ K := oG_cnd_t
theorem gcf_8 {l0 l1 l2 l3 l4 l5 l6 l7 : Nat} {x y : Bool} {body : (AV → AV → AV → AV → AV → AV → AV → AV → AS → Prop) → Prop} {σ : AS} {K : AV → AV → AV → AV → AV → AV → AV → AV → AS → Prop} : oG [l0, l1, l2, l3, l4, l5, l6, l7] (cnd x (.b y)) false body σ K = oG [l0, l1, l2, l3, l4, l5, l6, l7] (.b (x && !y)) true body σ K := oG_cnd_f
theorem gct_9 {l0 l1 l2 l3 l4 l5 l6 l7 l8 : Nat} {x y : Bool} {body : (AV → AV → AV → AV → AV → AV → AV → AV → AV → AS → Prop) → Prop} {σ : AS} {K : AV → AV → AV → AV → AV → AV → AV → AV → AV → AS → Prop} : oG [l0, l1, l2, l3, l4, l5, l6, l7, l8] (cnd x (.b y)) true body σ K = oG [l0, l1, l2, l3, l4, l5, l6, l7, l8] (.b (x && y)) true body σ K := oG_cnd_t
theorem gcf_9 {l0 l1 l2 l3 l4 l5 l6 l7 l8 : Nat} {x y : Bool} {body : (AV → AV → AV → AV → AV → AV → AV → AV → AV → AS → Prop) → Prop} {σ : AS} {K : AV → AV → AV → AV → AV → AV → AV → AV → AV → AS → Prop} : oG [l0, l1, l2, l3, l4, l5, l6, l7, l8] (cnd x (.b y)) false body σ K = oG [l0, l1, l2, l3, l4, l5, l6, l7, l8] (.b (x && !y)) true body σ K := oG_cnd_f
theorem gct_10 {l0 l1 l2 l3 l4 l5 l6 l7 l8 l9 : Nat} {x y : Bool} {body : (AV → AV → AV → AV → AV → AV → AV → AV → AV → AV → AS → Prop) → Prop} {σ : AS} {K : AV → AV → AV → AV → AV → AV → AV → AV → AV → AV → AS → Prop} : oG [l0, l1, l2, l3, l4, l5, l6, l7, l8, l9] (cnd x (.b y)) true body σ K = oG [l0, l1, l2, l3, l4, l5, l6, l7, l8, l9] (.b (x && y)) true body σ K := oG_cnd_t
theorem gcf_10 {l0 l1 l2 l3 l4 l5 l6 l7 l8 l9 : Nat} {x y : Bool} {body : (AV → AV → AV → AV → AV → AV → AV → AV → AV → AV → AS → Prop) → Prop} {σ : AS} {K : AV → AV → AV → AV → AV → AV → AV → AV → AV → AV → AS → Prop} : oG [l0, l1, l2, l3, l4, l5, l6, l7, l8, l9] (cnd x (.b y)) false body σ K = oG [l0, l1, l2, l3, l4, l5, l6, l7, l8, l9] (.b (x && !y)) true body σ K := oG_cnd_f
theorem gct_11 {l0 l1 l2 l3 l4 l5 l6 l7 l8 l9 l10 : Nat} {x y : Bool} {body : (AV → AV → AV → AV → AV → AV → AV → AV → AV → AV → AV → AS → Prop) → Prop} {σ : AS} {K : AV → AV → AV → AV → AV → AV → AV → AV → AV → AV → AV → AS → Prop} : oG [l0, l1, l2, l3, l4, l5, l6, l7, l8, l9, l10] (cnd x (.b y)) true body σ K = oG [l0, l1, l2, l3, l4, l5, l6, l7, l8, l9, l10] (.b (x && y)) true body σ K := oG_cnd_t
theorem gcf_11 {l0 l1 l2 l3 l4 l5 l6 l7 l8 l9 l10 : Nat} {x y : Bool} {body : (AV → AV → AV → AV → AV → AV → AV → AV → AV → AV → AV → AS → Prop) → Prop} {σ : AS} {K : AV → AV → AV → AV → AV → AV → AV → AV → AV → AV → AV → AS → Prop} : oG [l0, l1, l2, l3, l4, l5, l6, l7, l8, l9, l10] (cnd x (.b y)) false body σ K = oG [l0, l1, l2, l3, l4, l5, l6, l7, l8, l9, l10] (.b (x && !y)) true body σ K := oG_cnd_f
theorem gct_12 {l0 l1 l2 l3 l4 l5 l6 l7 l8 l9 l10 l11 : Nat} {x y : Bool} {body : (AV → AV → AV → AV → AV → AV → AV → AV → AV → AV → AV → AV → AS → Prop) → Prop} {σ : AS} {K : AV → AV → AV → AV → AV → AV → AV → AV → AV → AV → AV → AV → AS → Prop} : oG [l0, l1, l2, l3, l4, l5, l6, l7, l8, l9, l10, l11] (cnd x (.b y)) true body σ K = oG [l0, l1, l2, l3, l4, l5, l6, l7, l8, l9, l10, l11] (.b (x && y)) true body σ K := oG_cnd_t
theorem gcf_12 {l0 l1 l2 l3 l4 l5 l6 l7 l8 l9 l10 l11 : Nat} {x y : Bool} {body : (AV → AV → AV → AV → AV → AV → AV → AV → AV → AV → AV → AV → AS → Prop) → Prop} {σ : AS} {K : AV → AV → AV → AV → AV → AV → AV → AV → AV → AV → AV → AV → AS → Prop} : oG [l0, l1, l2, l3, l4, l5, l6, l7, l8, l9, l10, l11] (cnd x (.b y)) false body σ K = oG [l0, l1, l2, l3, l4, l5, l6, l7, l8, l9, l10, l11] (.b (x && !y)) true body σ K := oG_cnd_f
theorem gct_13 {l0 l1 l2 l3 l4 l5 l6 l7 l8 l9 l10 l11 l12 : Nat} {x y : Bool} {body : (AV → AV → AV → AV → AV → AV → AV → AV → AV → AV → AV → AV → AV → AS → Prop) → Prop} {σ : AS} {K : AV → AV → AV → AV → AV → AV → AV → AV → AV → AV → AV → AV → AV → AS → Prop} : oG [l0, l1, l2, l3, l4, l5, l6, l7, l8, l9, l10, l11, l12] (cnd x (.b y)) true body σ K = oG [l0, l1, l2, l3, l4, l5, l6, l7, l8, l9, l10, l11, l12] (.b (x && y)) true body σ K := oG_cnd_t
theorem gcf_13 {l0 l1 l2 l3 l4 l5 l6 l7 l8 l9 l10 l11 l12 : Nat} {x y : Bool} {body : (AV → AV → AV → AV → AV → AV → AV → AV → AV → AV → AV → AV → AV → AS → Prop) → Prop} {σ : AS} {K : AV → AV → AV → AV → AV → AV → AV → AV → AV → AV → AV → AV → AV → AS → Prop} : oG [l0, l1, l2, l3, l4, l5, l6, l7, l8, l9, l10, l11, l12] (cnd x (.b y)) false body σ K = oG [l0, l1, l2, l3, l4, l5, l6, l7, l8, l9, l10, l11, l12] (.b (x && !y)) true body σ K := oG_cnd_f
theorem gct_14 {l0 l1 l2 l3 l4 l5 l6 l7 l8 l9 l10 l11 l12 l13 : Nat} {x y : Bool} {body : (AV → AV → AV → AV → AV → AV → AV → AV → AV → AV → AV → AV → AV → AV → AS → Prop) → Prop} {σ : AS} {K : AV → AV → AV → AV → AV → AV → AV → AV → AV → AV → AV → AV → AV → AV → AS → Prop} : oG [l0, l1, l2, l3, l4, l5, l6, l7, l8, l9, l10, l11, l12, l13] (cnd x (.b y)) true body σ K = oG [l0, l1, l2, l3, l4, l5, l6, l7, l8, l9, l10, l11, l12, l13] (.b (x && y)) true body σ K := oG_cnd_t
theorem gcf_14 {l0 l1 l2 l3 l4 l5 l6 l7 l8 l9 l10 l11 l12 l13 : Nat} {x y : Bool} {body : (AV → AV → AV → AV → AV → AV → AV → AV → AV → AV → AV → AV → AV → AV → AS → Prop) → Prop} {σ : AS} {K : AV → AV → AV → AV → AV → AV → AV → AV → AV → AV → AV → AV → AV → AV → AS → Prop} : oG [l0, l1, l2, l3, l4, l5, l6, l7, l8, l9, l10, l11, l12, l13] (cnd x (.b y)) false body σ K = oG [l0, l1, l2, l3, l4, l5, l6, l7, l8, l9, l10, l11, l12, l13] (.b (x && !y)) true body σ K := oG_cnd_f
theorem nest_andt {l d : Nat} {c x y : Bool} {σ : AS} {K : AV → AS → Prop} : oG [l] (.b c) true (fun k : AV → AS → Prop => oV d (evPick (cnd c (.b x)) (some (cnd (c && x) (.b y))) (some (.b false))) fun v => k v σ) σ K = K (cnd c (.b (x && y))) σ := by
  cases c <;> cases x <;> cases y <;> first | rfl | (simp [oG, cnd, evPick, oV, voidC])
theorem nest_orf {l d : Nat} {c x y : Bool} {σ : AS} {K : AV → AS → Prop} : oG [l] (.b c) false (fun k : AV → AS → Prop => oV d (evPick (cnd (!c) (.b x)) (some (.b true)) (some (cnd (!c && !x) (.b y)))) fun v => k v σ) σ K = K (cnd (!c) (.b (x || y))) σ := by
  cases c <;> cases x <;> cases y <;> first | rfl | (simp [oG, cnd, evPick, oV, voidC])
theorem nest_orx {l d : Nat} {c x y : Bool} {σ : AS} {K : AV → AS → Prop} : oG [l] (.b c) true (fun k : AV → AS → Prop => oV d (evPick (cnd c (.b (!x))) (some (.b true)) (some (cnd (c && x) (.b y)))) fun v => k v σ) σ K = K (cnd c (.b (!x || y))) σ := by
  cases c <;> cases x <;> cases y <;> first | rfl | (simp [oG, cnd, evPick, oV, voidC])
theorem nest_orfx {l d : Nat} {c x y : Bool} {σ : AS} {K : AV → AS → Prop} : oG [l] (.b c) false (fun k : AV → AS → Prop => oV d (evPick (cnd (!c) (.b (!x))) (some (.b true)) (some (cnd (!c && x) (.b y)))) fun v => k v σ) σ K = K (cnd (!c) (.b (!x || y))) σ := by
  cases c <;> cases x <;> cases y <;> first | rfl | (simp [oG, cnd, evPick, oV, voidC])
theorem ex0 (a : AV) (l : List AV) : evExtract 0 (.tup (a :: l)) = some a := rfl
theorem ex1 (a b : AV) (l : List AV) : evExtract 1 (.tup (a :: b :: l)) = some b := rfl
theorem ex2 (a b c : AV) (l : List AV) : evExtract 2 (.tup (a :: b :: c :: l)) = some c := rfl
theorem rng_9 (s : List UInt8) : evRange T0 9 (.s s) = some (.siter s 0, fun id => .ptr id 0) := by
  have e : T0.ty 9 = some .string := by kernel_rfl
  simp only [evRange, e]
end Go.Proofs.YtmfhmlhaofpeiaaGreatDoor.Ev
