/- Texts of this session's, one behind the other. -/
import Derived.Test.YtmfhmlhaofpeiaaGreatDoorV0
import Derived.Test.YtmfhmlhaofpeiaaGreatDoorEvG
import Derived.Test.YtmfhmlhaofpeiaaGreatDoorV6
import Derived.Test.YtmfhmlhaofpeiaaGreatDoorEvFb
import Derived.Test.YtmfhmlhaofpeiaaGreatDoorEvFc
import Derived.Test.YtmfhmlhaofpeiaaGreatDoorEv1
import Derived.Test.YtmfhmlhaofpeiaaGreatDoorEv2
import Derived.Test.YtmfhmlhaofpeiaaGreatDoorEv3
import Derived.Test.YtmfhmlhaofpeiaaGreatDoorEv4
import Derived.Test.YtmfhmlhaofpeiaaGreatDoorSh
import Derived.Test.YtmfhmlhaofpeiaaGreatDoorEvX
import Derived.Test.YtmfhmlhaofpeiaaGreatDoorEvT
import Derived.Test.YtmfhmlhaofpeiaaGreatDoorEvTy
import Derived.Test.YtmfhmlhaofpeiaaGreatDoorEvF
import Derived.Test.YtmfhmlhaofpeiaaGreatDoorOp
import Derived.Test.YtmfhmlhaofpeiaaGreatDoorEvLg
import Derived.Test.YtmfhmlhaofpeiaaGreatDoorEvLh
import Derived.Test.YtmfhmlhaofpeiaaGreatDoorEvLi
import Derived.Test.YtmfhmlhaofpeiaaGreatDoorEvFe
import Derived.Test.YtmfhmlhaofpeiaaGreatDoorEvFf
import Derived.Test.YtmfhmlhaofpeiaaGreatDoorEvFd
namespace Go.Proofs.YtmfhmlhaofpeiaaGreatDoor.Ev
open Go Go.RowKit
set_option linter.unusedSimpArgs false
set_option linter.unusedVariables false
set_option maxRecDepth 100000
theorem aR {α : Type} {p : α -> Bool} {l : List α} {d : α} {j : Nat} (h : (l.take j).all p = true) (hj : j < l.length) (hp : p (l.getD j d) = true) : (l.take (j + 1)).all p = true := by
 rw [List.take_add_one, List.all_append, h]
 rw [List.getD_eq_getElem?_getD, List.getElem?_eq_getElem hj] at hp
 rw [List.getElem?_eq_getElem hj]
 simpa using hp
theorem eB {α : Type} {p : α -> Bool} {l : List α} {d : α} {j : Nat} (hj : j < l.length) (hp : p (l.getD j d) = false) : l.all p = false := by
 rw [List.getD_eq_getElem?_getD, List.getElem?_eq_getElem hj] at hp
 rw [List.all_eq_false]
 exact ⟨l[j], List.getElem_mem hj, by simpa using hp⟩
theorem cF {α : Type} {p : α -> Bool} {l : List α} {j : Nat} (h : (l.take j).all p = true) (hj : l.length <= j) : l.all p = true := by
 rwa [List.take_of_length_le hj] at h
theorem aS {α : Type} [Inhabited α] {l : List α} {j : Nat} (h : j < l.length) : l.getD j default ∈ l := by
 rw [List.getD_eq_getElem?_getD, List.getElem?_eq_getElem h]; exact List.getElem_mem h
def dr (r : Int) : Bool := decide ((97 <= r /\ r <= 122) ∨ (65 <= r /\ r <= 90) ∨ (48 <= r /\ r <= 57) ∨ r = 45 ∨ r = 95 ∨ r = 47)
def ga (r : Int) : Bool := decide (r = 10 ∨ (32 <= r /\ r <= 126))
def nmB (s : List UInt8) : Bool := s.all (fun c => dr c.toNat) && decide (0 < s.length) && decide (s.length <= 40)
def txB (s : List UInt8) : Bool := s.all (fun c => ga c.toNat) && decide (s.length <= 200)
theorem vb0 : type_of% (And.intro @Nat.zero_add (And.intro @aa (And.intro @bu (And.intro @aP (And.intro @aH (And.intro @bI (And.intro @eV (And.intro @eD (And.intro @fE (And.intro @aD (And.intro @aA (And.intro @be (And.intro @bY (And.intro @cN (And.intro @tR (And.intro @decide_not (And.intro @jq (And.intro @jr (And.intro @decide_true (And.intro @decide_false (And.intro @not_true (And.intro @not_false_eq_true (And.intro @Bool.not_true (And.intro @Bool.not_false (And.intro @Bool.not_not (And.intro @jW (And.intro @pu (And.intro @wZ (And.intro @oZ_l (And.intro @cd (And.intro @cL (And.intro @Int.toNat_natCast (And.intro @Int.toNat_zero (And.intro @dz (And.intro @iw (And.intro @uG (And.intro @cC (And.intro @dE (And.intro @ez (And.intro @ew (And.intro @jL (And.intro @jK (And.intro @iO @iN))))))))))))))))))))))))))))))))))))))))))) := And.intro @Nat.zero_add (And.intro @aa (And.intro @bu (And.intro @aP (And.intro @aH (And.intro @bI (And.intro @eV (And.intro @eD (And.intro @fE (And.intro @aD (And.intro @aA (And.intro @be (And.intro @bY (And.intro @cN (And.intro @tR (And.intro @decide_not (And.intro @jq (And.intro @jr (And.intro @decide_true (And.intro @decide_false (And.intro @not_true (And.intro @not_false_eq_true (And.intro @Bool.not_true (And.intro @Bool.not_false (And.intro @Bool.not_not (And.intro @jW (And.intro @pu (And.intro @wZ (And.intro @oZ_l (And.intro @cd (And.intro @cL (And.intro @Int.toNat_natCast (And.intro @Int.toNat_zero (And.intro @dz (And.intro @iw (And.intro @uG (And.intro @cC (And.intro @dE (And.intro @ez (And.intro @ew (And.intro @jL (And.intro @jK (And.intro @iO @iN))))))))))))))))))))))))))))))))))))))))))
theorem vb5 : type_of% (And.intro @ja (And.intro @lw (And.intro @fJ (And.intro @mL (And.intro @yx (And.intro @yR @yU)))))) := And.intro @ja (And.intro @lw (And.intro @fJ (And.intro @mL (And.intro @yx (And.intro @yR @yU)))))
theorem vb8 : type_of% (And.intro @bZ (And.intro @ul @zK)) := And.intro @bZ (And.intro @ul @zK)
theorem vb9 : type_of% (And.intro @gX (And.intro @zM (And.intro @mJ (And.intro @lx (And.intro @mK (And.intro @pf (And.intro @yy (And.intro @yS @yV)))))))) := And.intro @gX (And.intro @zM (And.intro @mJ (And.intro @lx (And.intro @mK (And.intro @pf (And.intro @yy (And.intro @yS @yV)))))))
theorem lH : type_of% (And.intro @rr (And.intro @pR (And.intro @gtt_2 (And.intro @gff_2 (And.intro @gtf_2 (And.intro @gft_2 (And.intro @gvv_2 (And.intro @gnt_2 @gnf_2)))))))) := And.intro @rr (And.intro @pR (And.intro @gtt_2 (And.intro @gff_2 (And.intro @gtf_2 (And.intro @gft_2 (And.intro @gvv_2 (And.intro @gnt_2 @gnf_2)))))))
theorem c66 (r : Int) : R T0 66 [.i .i32 r] (.b (dr r)) := by
 refine r66 _ rfl rfl ?_
 unfold w66
 dsimp only [av]
 simp (disch := first | omega | assumption | (intros; simp only [dl0]; try omega)) only [vb0, ne_eq, vb9, lH, vb8, vb5]
 repeat' ((first | with_reducible refine aV (fun h => ?_) (fun h => ?_) | with_reducible refine pg (fun h => ?_) (fun h => ?_) | with_reducible refine yZ (fun h => ?_) (fun h => ?_) | with_reducible refine sP (fun h => ?_) (fun h => ?_) | with_reducible refine pi (fun h => ?_) (fun h => ?_) | with_reducible refine zb (fun h => ?_) (fun h => ?_) | with_reducible refine sQ (fun h => ?_) (fun h => ?_) | with_reducible refine pj (fun h => ?_) (fun h => ?_) | with_reducible refine ze (fun h => ?_) (fun h => ?_) | with_reducible refine sR (fun h => ?_) (fun h => ?_) | with_reducible refine pk (fun h => ?_) (fun h => ?_) | with_reducible refine zh (fun h => ?_) (fun h => ?_) | with_reducible refine sS (fun h => ?_) (fun h => ?_) | with_reducible refine gr (fun h => ?_) (fun h => ?_)) <;> try simp (disch := first | omega | assumption | (intros; simp only [dl0]; try omega)) only [h, vb0, ne_eq, vb9, lH, vb8, vb5])
 all_goals first
  | (unfold dr; exact congrArg AV.b (decide_eq_true (by omega)).symm)
  | (unfold dr; exact congrArg AV.b (decide_eq_false (by omega)).symm)
  | (unfold dr; exact congrArg AV.b (decide_eq_decide.2 (by omega)))
theorem e66 {r : Int} {d : Nat} {σ : AS} {K : AV -> AS -> Prop} : oC T0 d 66 [.i .i32 r] σ K = K (.b (dr r)) σ := (c66 r).eq d σ K
theorem c93 (r : Int) : R T0 93 [.i .u8 r] (.b (dr r)) := by
 refine r93 _ rfl rfl ?_
 unfold w93
 dsimp only [av]
 simp (disch := first | omega | assumption | (intros; simp only [dl0]; try omega)) only [vb0, ne_eq, vb9, lH, vb8, vb5]
 repeat' ((first | with_reducible refine aV (fun h => ?_) (fun h => ?_) | with_reducible refine pg (fun h => ?_) (fun h => ?_) | with_reducible refine yZ (fun h => ?_) (fun h => ?_) | with_reducible refine sP (fun h => ?_) (fun h => ?_) | with_reducible refine pi (fun h => ?_) (fun h => ?_) | with_reducible refine zb (fun h => ?_) (fun h => ?_) | with_reducible refine sQ (fun h => ?_) (fun h => ?_) | with_reducible refine pj (fun h => ?_) (fun h => ?_) | with_reducible refine ze (fun h => ?_) (fun h => ?_) | with_reducible refine sR (fun h => ?_) (fun h => ?_) | with_reducible refine pk (fun h => ?_) (fun h => ?_) | with_reducible refine zh (fun h => ?_) (fun h => ?_) | with_reducible refine sS (fun h => ?_) (fun h => ?_) | with_reducible refine gr (fun h => ?_) (fun h => ?_)) <;> try simp (disch := first | omega | assumption | (intros; simp only [dl0]; try omega)) only [h, vb0, ne_eq, vb9, lH, vb8, vb5])
 all_goals first
  | (unfold dr; exact congrArg AV.b (decide_eq_true (by omega)).symm)
  | (unfold dr; exact congrArg AV.b (decide_eq_false (by omega)).symm)
  | (unfold dr; exact congrArg AV.b (decide_eq_decide.2 (by omega)))
theorem e93 {r : Int} {d : Nat} {σ : AS} {K : AV -> AS -> Prop} : oC T0 d 93 [.i .u8 r] σ K = K (.b (dr r)) σ := (c93 r).eq d σ K
theorem dec_lt {s : List UInt8} {j : Nat} (hj : j < s.length) (h : (s.getD j 0).toNat < 128) : Utf8.decode ⟨⟨s⟩⟩ j = ((s.getD j 0).toNat, 1) := by
 have e : ((⟨⟨s⟩⟩ : ByteArray).get! (j + 0)) = s.getD j 0 := by
  show (⟨s⟩ : Array UInt8)[j + 0]! = _
  simp [List.getD_eq_getElem?_getD, getElem!_def]
  cases s[j]? <;> rfl
 unfold Utf8.decode
 simp only [e]
 rw [if_pos h]
theorem dec_ge {s : List UInt8} {j : Nat} (h : 128 <= (s.getD j 0).toNat) : 128 <= (Utf8.decode ⟨⟨s⟩⟩ j).1 := by
 have e : ((⟨⟨s⟩⟩ : ByteArray).get! (j + 0)) = s.getD j 0 := by
  show (⟨s⟩ : Array UInt8)[j + 0]! = _
  simp [List.getD_eq_getElem?_getD, getElem!_def]
  cases s[j]? <;> rfl
 unfold Utf8.decode
 simp only [e]
 rw [if_neg (by omega)]
 split
 ·split
  ·assumption
  ·simp [Utf8.runeError]
 ·split
  ·split
   ·rename_i hq; simp only [Bool.and_eq_true, decide_eq_true_eq, ge_iff_le] at hq; simp only; omega
   ·simp [Utf8.runeError]
  ·split
   ·split
    ·rename_i hq; simp only [Bool.and_eq_true, decide_eq_true_eq, ge_iff_le] at hq; simp only; omega
    ·simp [Utf8.runeError]
   ·simp [Utf8.runeError]
theorem vl {r : Int} (h : 128 <= r) : dr r = false := decide_eq_false (by omega)
theorem next_lt {h : Tr AB} {n id j : Nat} {s : List UInt8} (hg : h.get id = some (.siter s j)) (hj : j < s.length) (hc : (s.getD j 0).toNat < 128) : gW ⟨h, n⟩ (.ptr id 0) = some (.tup [.b true, .i .i64 (j : Nat), .i .i32 ((s.getD j 0).toNat : Nat)], ⟨h.put id (some (.siter s (j + 1))), n⟩) := by
 simp only [gW, hg, Nat.ble_eq_true_of_le (show j + 1 <= s.length from hj), dec_lt hj hc]
theorem next_ge {h : Tr AB} {n id j : Nat} {s : List UInt8} (hg : h.get id = some (.siter s j)) (hj : j < s.length) (hc : 128 <= (s.getD j 0).toNat) : ∃ r w : Nat, 128 <= r /\ gW ⟨h, n⟩ (.ptr id 0) = some (.tup [.b true, .i .i64 (j : Nat), .i .i32 (r : Nat)], ⟨h.put id (some (.siter s w)), n⟩) := by
 refine ⟨(Utf8.decode ⟨⟨s⟩⟩ j).1, j + (Utf8.decode ⟨⟨s⟩⟩ j).2, dec_ge hc, ?_⟩
 simp only [gW, hg, Nat.ble_eq_true_of_le (show j + 1 <= s.length from hj)]
theorem next_no {h : Tr AB} {n id j : Nat} {s : List UInt8} (hg : h.get id = some (.siter s j)) (hj : s.length <= j) : gW ⟨h, n⟩ (.ptr id 0) = some (.tup [.b false], ⟨h, n⟩) := by
 have : Nat.ble (j + 1) s.length = false := by
  cases q : Nat.ble (j + 1) s.length
  ·rfl
  ·have := Nat.le_of_ble_eq_true q; omega
 simp only [gW, hg, this]
theorem uZ (c y : Bool) : au (.b !c) (some (.b true)) (some (cnd c (.b y))) = some (.b (!c || y)) := by cases c <;> rfl
theorem nv (c y : Bool) : au (.b !c) (some (cnd (!c) (.b y))) (some (.b false)) = some (.b (!c && y)) := by cases c <;> rfl
theorem vk {l d : Nat} {c x y : Bool} {σ : AS} {K : AV -> AS -> Prop} : oG [l] (.b c) false (fun k : AV -> AS -> Prop => oV d (au (cnd (!c) (.b x)) (some (cnd (!c && x) (.b y))) (some (.b false))) fun v => k v σ) σ K = K (cnd (!c) (.b (x && y))) σ := by
 cases c <;> cases x <;> cases y <;> first | rfl | (simp [oG, cnd, au, oV, fq])
theorem sr {l d : Nat} {c x y : Bool} {σ : AS} {K : AV -> AS -> Prop} : oG [l] (.b (!c)) false (fun k : AV -> AS -> Prop => oV d (au (cnd c (.b x)) (some (cnd (c && x) (.b y))) (some (.b false))) fun v => k v σ) σ K = K (cnd c (.b (x && y))) σ := by
 cases c <;> cases x <;> cases y <;> first | rfl | (simp [oG, cnd, au, oV, fq])
theorem yi {l d : Nat} {c x y : Bool} {σ : AS} {K : AV -> AS -> Prop} : oG [l] (.b c) true (fun k : AV -> AS -> Prop => oV d (au (cnd c (.b x)) (some (.b true)) (some (cnd (c && !x) (.b y)))) fun v => k v σ) σ K = K (cnd c (.b (x || y))) σ := by
 cases c <;> cases x <;> cases y <;> first | rfl | (simp [oG, cnd, au, oV, fq])
theorem vi {l d : Nat} {c x y : Bool} {σ : AS} {K : AV -> AS -> Prop} : oG [l] (.b (!c)) true (fun k : AV -> AS -> Prop => oV d (au (cnd (!c) (.b x)) (some (.b true)) (some (cnd (!c && !x) (.b y)))) fun v => k v σ) σ K = K (cnd (!c) (.b (x || y))) σ := by
 cases c <;> cases x <;> cases y <;> first | rfl | (simp [oG, cnd, au, oV, fq])
theorem gct_1 {l0 : Nat} {x y : Bool} {body : (AV -> AS -> Prop) -> Prop} {σ : AS} {K : AV -> AS -> Prop} : oG [l0] (cnd x (.b y)) true body σ K = oG [l0] (.b (x && y)) true body σ K := df
theorem gcf_1 {l0 : Nat} {x y : Bool} {body : (AV -> AS -> Prop) -> Prop} {σ : AS} {K : AV -> AS -> Prop} : oG [l0] (cnd x (.b y)) false body σ K = oG [l0] (.b (x && !y)) true body σ K := dh
theorem gct_2 {l0 l1 : Nat} {x y : Bool} {body : (AV -> AV -> AS -> Prop) -> Prop} {σ : AS} {K : AV -> AV -> AS -> Prop} : oG [l0, l1] (cnd x (.b y)) true body σ K = oG [l0, l1] (.b (x && y)) true body σ K := df
theorem gcf_2 {l0 l1 : Nat} {x y : Bool} {body : (AV -> AV -> AS -> Prop) -> Prop} {σ : AS} {K : AV -> AV -> AS -> Prop} : oG [l0, l1] (cnd x (.b y)) false body σ K = oG [l0, l1] (.b (x && !y)) true body σ K := dh
theorem gct_3 {l0 l1 l2 : Nat} {x y : Bool} {body : (AV -> AV -> AV -> AS -> Prop) -> Prop} {σ : AS} {K : AV -> AV -> AV -> AS -> Prop} : oG [l0, l1, l2] (cnd x (.b y)) true body σ K = oG [l0, l1, l2] (.b (x && y)) true body σ K := df
theorem gcf_3 {l0 l1 l2 : Nat} {x y : Bool} {body : (AV -> AV -> AV -> AS -> Prop) -> Prop} {σ : AS} {K : AV -> AV -> AV -> AS -> Prop} : oG [l0, l1, l2] (cnd x (.b y)) false body σ K = oG [l0, l1, l2] (.b (x && !y)) true body σ K := dh
theorem gct_4 {l0 l1 l2 l3 : Nat} {x y : Bool} {body : (AV -> AV -> AV -> AV -> AS -> Prop) -> Prop} {σ : AS} {K : AV -> AV -> AV -> AV -> AS -> Prop} : oG [l0, l1, l2, l3] (cnd x (.b y)) true body σ K = oG [l0, l1, l2, l3] (.b (x && y)) true body σ K := df
theorem gcf_4 {l0 l1 l2 l3 : Nat} {x y : Bool} {body : (AV -> AV -> AV -> AV -> AS -> Prop) -> Prop} {σ : AS} {K : AV -> AV -> AV -> AV -> AS -> Prop} : oG [l0, l1, l2, l3] (cnd x (.b y)) false body σ K = oG [l0, l1, l2, l3] (.b (x && !y)) true body σ K := dh
theorem gct_5 {l0 l1 l2 l3 l4 : Nat} {x y : Bool} {body : (AV -> AV -> AV -> AV -> AV -> AS -> Prop) -> Prop} {σ : AS} {K : AV -> AV -> AV -> AV -> AV -> AS -> Prop} : oG [l0, l1, l2, l3, l4] (cnd x (.b y)) true body σ K = oG [l0, l1, l2, l3, l4] (.b (x && y)) true body σ K := df
theorem gcf_5 {l0 l1 l2 l3 l4 : Nat} {x y : Bool} {body : (AV -> AV -> AV -> AV -> AV -> AS -> Prop) -> Prop} {σ : AS} {K : AV -> AV -> AV -> AV -> AV -> AS -> Prop} : oG [l0, l1, l2, l3, l4] (cnd x (.b y)) false body σ K = oG [l0, l1, l2, l3, l4] (.b (x && !y)) true body σ K := dh
theorem gct_6 {l0 l1 l2 l3 l4 l5 : Nat} {x y : Bool} {body : (AV -> AV -> AV -> AV -> AV -> AV -> AS -> Prop) -> Prop} {σ : AS} {K : AV -> AV -> AV -> AV -> AV -> AV -> AS -> Prop} : oG [l0, l1, l2, l3, l4, l5] (cnd x (.b y)) true body σ K = oG [l0, l1, l2, l3, l4, l5] (.b (x && y)) true body σ K := df
theorem gcf_6 {l0 l1 l2 l3 l4 l5 : Nat} {x y : Bool} {body : (AV -> AV -> AV -> AV -> AV -> AV -> AS -> Prop) -> Prop} {σ : AS} {K : AV -> AV -> AV -> AV -> AV -> AV -> AS -> Prop} : oG [l0, l1, l2, l3, l4, l5] (cnd x (.b y)) false body σ K = oG [l0, l1, l2, l3, l4, l5] (.b (x && !y)) true body σ K := dh
theorem gct_7 {l0 l1 l2 l3 l4 l5 l6 : Nat} {x y : Bool} {body : (AV -> AV -> AV -> AV -> AV -> AV -> AV -> AS -> Prop) -> Prop} {σ : AS} {K : AV -> AV -> AV -> AV -> AV -> AV -> AV -> AS -> Prop} : oG [l0, l1, l2, l3, l4, l5, l6] (cnd x (.b y)) true body σ K = oG [l0, l1, l2, l3, l4, l5, l6] (.b (x && y)) true body σ K := df
theorem gcf_7 {l0 l1 l2 l3 l4 l5 l6 : Nat} {x y : Bool} {body : (AV -> AV -> AV -> AV -> AV -> AV -> AV -> AS -> Prop) -> Prop} {σ : AS} {K : AV -> AV -> AV -> AV -> AV -> AV -> AV -> AS -> Prop} : oG [l0, l1, l2, l3, l4, l5, l6] (cnd x (.b y)) false body σ K = oG [l0, l1, l2, l3, l4, l5, l6] (.b (x && !y)) true body σ K := dh
theorem gct_8 {l0 l1 l2 l3 l4 l5 l6 l7 : Nat} {x y : Bool} {body : (AV -> AV -> AV -> AV -> AV -> AV -> AV -> AV -> AS -> Prop) -> Prop} {σ : AS} {K : AV -> AV -> AV -> AV -> AV -> AV -> AV -> AV -> AS -> Prop} : oG [l0, l1, l2, l3, l4, l5, l6, l7] (cnd x (.b y)) true body σ K = oG [l0, l1, l2, l3, l4, l5, l6, l7] (.b (x && y)) true body σ K := df
theorem gcf_8 {l0 l1 l2 l3 l4 l5 l6 l7 : Nat} {x y : Bool} {body : (AV -> AV -> AV -> AV -> AV -> AV -> AV -> AV -> AS -> Prop) -> Prop} {σ : AS} {K : AV -> AV -> AV -> AV -> AV -> AV -> AV -> AV -> AS -> Prop} : oG [l0, l1, l2, l3, l4, l5, l6, l7] (cnd x (.b y)) false body σ K = oG [l0, l1, l2, l3, l4, l5, l6, l7] (.b (x && !y)) true body σ K := dh
theorem gct_9 {l0 l1 l2 l3 l4 l5 l6 l7 l8 : Nat} {x y : Bool} {body : (AV -> AV -> AV -> AV -> AV -> AV -> AV -> AV -> AV -> AS -> Prop) -> Prop} {σ : AS} {K : AV -> AV -> AV -> AV -> AV -> AV -> AV -> AV -> AV -> AS -> Prop} : oG [l0, l1, l2, l3, l4, l5, l6, l7, l8] (cnd x (.b y)) true body σ K = oG [l0, l1, l2, l3, l4, l5, l6, l7, l8] (.b (x && y)) true body σ K := df
theorem gcf_9 {l0 l1 l2 l3 l4 l5 l6 l7 l8 : Nat} {x y : Bool} {body : (AV -> AV -> AV -> AV -> AV -> AV -> AV -> AV -> AV -> AS -> Prop) -> Prop} {σ : AS} {K : AV -> AV -> AV -> AV -> AV -> AV -> AV -> AV -> AV -> AS -> Prop} : oG [l0, l1, l2, l3, l4, l5, l6, l7, l8] (cnd x (.b y)) false body σ K = oG [l0, l1, l2, l3, l4, l5, l6, l7, l8] (.b (x && !y)) true body σ K := dh
theorem gct_10 {l0 l1 l2 l3 l4 l5 l6 l7 l8 l9 : Nat} {x y : Bool} {body : (AV -> AV -> AV -> AV -> AV -> AV -> AV -> AV -> AV -> AV -> AS -> Prop) -> Prop} {σ : AS} {K : AV -> AV -> AV -> AV -> AV -> AV -> AV -> AV -> AV -> AV -> AS -> Prop} : oG [l0, l1, l2, l3, l4, l5, l6, l7, l8, l9] (cnd x (.b y)) true body σ K = oG [l0, l1, l2, l3, l4, l5, l6, l7, l8, l9] (.b (x && y)) true body σ K := df
theorem gcf_10 {l0 l1 l2 l3 l4 l5 l6 l7 l8 l9 : Nat} {x y : Bool} {body : (AV -> AV -> AV -> AV -> AV -> AV -> AV -> AV -> AV -> AV -> AS -> Prop) -> Prop} {σ : AS} {K : AV -> AV -> AV -> AV -> AV -> AV -> AV -> AV -> AV -> AV -> AS -> Prop} : oG [l0, l1, l2, l3, l4, l5, l6, l7, l8, l9] (cnd x (.b y)) false body σ K = oG [l0, l1, l2, l3, l4, l5, l6, l7, l8, l9] (.b (x && !y)) true body σ K := dh
theorem gct_11 {l0 l1 l2 l3 l4 l5 l6 l7 l8 l9 l10 : Nat} {x y : Bool} {body : (AV -> AV -> AV -> AV -> AV -> AV -> AV -> AV -> AV -> AV -> AV -> AS -> Prop) -> Prop} {σ : AS} {K : AV -> AV -> AV -> AV -> AV -> AV -> AV -> AV -> AV -> AV -> AV -> AS -> Prop} : oG [l0, l1, l2, l3, l4, l5, l6, l7, l8, l9, l10] (cnd x (.b y)) true body σ K = oG [l0, l1, l2, l3, l4, l5, l6, l7, l8, l9, l10] (.b (x && y)) true body σ K := df
theorem gcf_11 {l0 l1 l2 l3 l4 l5 l6 l7 l8 l9 l10 : Nat} {x y : Bool} {body : (AV -> AV -> AV -> AV -> AV -> AV -> AV -> AV -> AV -> AV -> AV -> AS -> Prop) -> Prop} {σ : AS} {K : AV -> AV -> AV -> AV -> AV -> AV -> AV -> AV -> AV -> AV -> AV -> AS -> Prop} : oG [l0, l1, l2, l3, l4, l5, l6, l7, l8, l9, l10] (cnd x (.b y)) false body σ K = oG [l0, l1, l2, l3, l4, l5, l6, l7, l8, l9, l10] (.b (x && !y)) true body σ K := dh
theorem gct_12 {l0 l1 l2 l3 l4 l5 l6 l7 l8 l9 l10 l11 : Nat} {x y : Bool} {body : (AV -> AV -> AV -> AV -> AV -> AV -> AV -> AV -> AV -> AV -> AV -> AV -> AS -> Prop) -> Prop} {σ : AS} {K : AV -> AV -> AV -> AV -> AV -> AV -> AV -> AV -> AV -> AV -> AV -> AV -> AS -> Prop} : oG [l0, l1, l2, l3, l4, l5, l6, l7, l8, l9, l10, l11] (cnd x (.b y)) true body σ K = oG [l0, l1, l2, l3, l4, l5, l6, l7, l8, l9, l10, l11] (.b (x && y)) true body σ K := df
theorem gcf_12 {l0 l1 l2 l3 l4 l5 l6 l7 l8 l9 l10 l11 : Nat} {x y : Bool} {body : (AV -> AV -> AV -> AV -> AV -> AV -> AV -> AV -> AV -> AV -> AV -> AV -> AS -> Prop) -> Prop} {σ : AS} {K : AV -> AV -> AV -> AV -> AV -> AV -> AV -> AV -> AV -> AV -> AV -> AV -> AS -> Prop} : oG [l0, l1, l2, l3, l4, l5, l6, l7, l8, l9, l10, l11] (cnd x (.b y)) false body σ K = oG [l0, l1, l2, l3, l4, l5, l6, l7, l8, l9, l10, l11] (.b (x && !y)) true body σ K := dh
theorem gct_13 {l0 l1 l2 l3 l4 l5 l6 l7 l8 l9 l10 l11 l12 : Nat} {x y : Bool} {body : (AV -> AV -> AV -> AV -> AV -> AV -> AV -> AV -> AV -> AV -> AV -> AV -> AV -> AS -> Prop) -> Prop} {σ : AS} {K : AV -> AV -> AV -> AV -> AV -> AV -> AV -> AV -> AV -> AV -> AV -> AV -> AV -> AS -> Prop} : oG [l0, l1, l2, l3, l4, l5, l6, l7, l8, l9, l10, l11, l12] (cnd x (.b y)) true body σ K = oG [l0, l1, l2, l3, l4, l5, l6, l7, l8, l9, l10, l11, l12] (.b (x && y)) true body σ K := df
theorem gcf_13 {l0 l1 l2 l3 l4 l5 l6 l7 l8 l9 l10 l11 l12 : Nat} {x y : Bool} {body : (AV -> AV -> AV -> AV -> AV -> AV -> AV -> AV -> AV -> AV -> AV -> AV -> AV -> AS -> Prop) -> Prop} {σ : AS} {K : AV -> AV -> AV -> AV -> AV -> AV -> AV -> AV -> AV -> AV -> AV -> AV -> AV -> AS -> Prop} : oG [l0, l1, l2, l3, l4, l5, l6, l7, l8, l9, l10, l11, l12] (cnd x (.b y)) false body σ K = oG [l0, l1, l2, l3, l4, l5, l6, l7, l8, l9, l10, l11, l12] (.b (x && !y)) true body σ K := dh
theorem gct_14 {l0 l1 l2 l3 l4 l5 l6 l7 l8 l9 l10 l11 l12 l13 : Nat} {x y : Bool} {body : (AV -> AV -> AV -> AV -> AV -> AV -> AV -> AV -> AV -> AV -> AV -> AV -> AV -> AV -> AS -> Prop) -> Prop} {σ : AS} {K : AV -> AV -> AV -> AV -> AV -> AV -> AV -> AV -> AV -> AV -> AV -> AV -> AV -> AV -> AS -> Prop} : oG [l0, l1, l2, l3, l4, l5, l6, l7, l8, l9, l10, l11, l12, l13] (cnd x (.b y)) true body σ K = oG [l0, l1, l2, l3, l4, l5, l6, l7, l8, l9, l10, l11, l12, l13] (.b (x && y)) true body σ K := df
theorem gcf_14 {l0 l1 l2 l3 l4 l5 l6 l7 l8 l9 l10 l11 l12 l13 : Nat} {x y : Bool} {body : (AV -> AV -> AV -> AV -> AV -> AV -> AV -> AV -> AV -> AV -> AV -> AV -> AV -> AV -> AS -> Prop) -> Prop} {σ : AS} {K : AV -> AV -> AV -> AV -> AV -> AV -> AV -> AV -> AV -> AV -> AV -> AV -> AV -> AV -> AS -> Prop} : oG [l0, l1, l2, l3, l4, l5, l6, l7, l8, l9, l10, l11, l12, l13] (cnd x (.b y)) false body σ K = oG [l0, l1, l2, l3, l4, l5, l6, l7, l8, l9, l10, l11, l12, l13] (.b (x && !y)) true body σ K := dh
theorem sq {l d : Nat} {c x y : Bool} {σ : AS} {K : AV -> AS -> Prop} : oG [l] (.b c) true (fun k : AV -> AS -> Prop => oV d (au (cnd c (.b x)) (some (cnd (c && x) (.b y))) (some (.b false))) fun v => k v σ) σ K = K (cnd c (.b (x && y))) σ := by
 cases c <;> cases x <;> cases y <;> first | rfl | (simp [oG, cnd, au, oV, fq])
theorem vj {l d : Nat} {c x y : Bool} {σ : AS} {K : AV -> AS -> Prop} : oG [l] (.b c) false (fun k : AV -> AS -> Prop => oV d (au (cnd (!c) (.b x)) (some (.b true)) (some (cnd (!c && !x) (.b y)))) fun v => k v σ) σ K = K (cnd (!c) (.b (x || y))) σ := by
 cases c <;> cases x <;> cases y <;> first | rfl | (simp [oG, cnd, au, oV, fq])
theorem vh {l d : Nat} {c x y : Bool} {σ : AS} {K : AV -> AS -> Prop} : oG [l] (.b c) true (fun k : AV -> AS -> Prop => oV d (au (cnd c (.b (!x))) (some (.b true)) (some (cnd (c && x) (.b y)))) fun v => k v σ) σ K = K (cnd c (.b (!x || y))) σ := by
 cases c <;> cases x <;> cases y <;> first | rfl | (simp [oG, cnd, au, oV, fq])
theorem so {l d : Nat} {c x y : Bool} {σ : AS} {K : AV -> AS -> Prop} : oG [l] (.b c) false (fun k : AV -> AS -> Prop => oV d (au (cnd (!c) (.b (!x))) (some (.b true)) (some (cnd (!c && x) (.b y)))) fun v => k v σ) σ K = K (cnd (!c) (.b (!x || y))) σ := by
 cases c <;> cases x <;> cases y <;> first | rfl | (simp [oG, cnd, au, oV, fq])
theorem ex0 (a : AV) (l : List AV) : aI 0 (.tup (a :: l)) = some a := rfl
theorem ex1 (a b : AV) (l : List AV) : aI 1 (.tup (a :: b :: l)) = some b := rfl
theorem rng_9 (s : List UInt8) : mU T0 9 (.s s) = some (.siter s 0, fun id => .ptr id 0) := by
 have e : T0.ty 9 = some .string := by kernel_rfl
 simp only [mU, e]
theorem vg {s : List UInt8} {j : Nat} (hj : j < s.length) (h : dr (s.getD j 0).toNat = false) : nmB s = false := by
 unfold nmB; rw [eB (p := fun c : UInt8 => dr c.toNat) (d := 0) hj h]; rfl
theorem tx_no {s : List UInt8} {j : Nat} (hj : j < s.length) (h : ga (s.getD j 0).toNat = false) : txB s = false := by
 unfold txB; rw [eB (p := fun c : UInt8 => ga c.toNat) (d := 0) hj h]; rfl
theorem vb4 : type_of% (And.intro @Nat.zero_add (And.intro @aa (And.intro @bu (And.intro @aP (And.intro @aH (And.intro @bI (And.intro @eV (And.intro @eD (And.intro @fE (And.intro @aD (And.intro @aA (And.intro @be (And.intro @bY (And.intro @cN (And.intro @tR (And.intro @decide_not (And.intro @jq (And.intro @jr (And.intro @decide_true (And.intro @decide_false (And.intro @not_true (And.intro @not_false_eq_true (And.intro @Bool.not_true (And.intro @Bool.not_false (And.intro @Bool.not_not (And.intro @jW (And.intro @pu (And.intro @wZ (And.intro @oZ_l (And.intro @cd (And.intro @cL (And.intro @Int.toNat_natCast @Int.toNat_zero)))))))))))))))))))))))))))))))) := And.intro @Nat.zero_add (And.intro @aa (And.intro @bu (And.intro @aP (And.intro @aH (And.intro @bI (And.intro @eV (And.intro @eD (And.intro @fE (And.intro @aD (And.intro @aA (And.intro @be (And.intro @bY (And.intro @cN (And.intro @tR (And.intro @decide_not (And.intro @jq (And.intro @jr (And.intro @decide_true (And.intro @decide_false (And.intro @not_true (And.intro @not_false_eq_true (And.intro @Bool.not_true (And.intro @Bool.not_false (And.intro @Bool.not_not (And.intro @jW (And.intro @pu (And.intro @wZ (And.intro @oZ_l (And.intro @cd (And.intro @cL (And.intro @Int.toNat_natCast @Int.toNat_zero)))))))))))))))))))))))))))))))
theorem eH : type_of% (And.intro @eb (And.intro @pS @th)) := And.intro @eb (And.intro @pS @th)
theorem eG : type_of% (And.intro @gX @zM) := And.intro @gX @zM
theorem c60 (s : List UInt8) (hl : s.length <= 140737488351232) : R T0 60 [.s s] (.b (nmB s)) := by
 refine r60 _ rfl rfl ?_
 unfold w60
 dsimp only [av]
 rw [rng_9, eV, bu]
 refine sC (X := Nat) (fun _ => .s s) (fun _ => .ptr 0 0) (fun j σ => j <= s.length /\ σ.h.get 0 = some (.siter s j) /\ (s.take j).all (fun c => dr c.toNat) = true) (fun j => s.length - j) ?_ 0 _ ⟨Nat.zero_le _, rfl, rfl⟩
 rintro R j ⟨h, n⟩ ⟨hj, hg, ha⟩ hR
 dsimp only at hg
 by_cases hj' : j < s.length
 ·rcases Nat.lt_or_ge (s.getD j 0).toNat 128 with hc | hc
  ·rw [next_lt hg hj' hc, aP]
   cases hq : dr ((s.getD j 0).toNat : Nat)
   ·simp (disch := first | omega | assumption | (intros; simp only [dl0]; try omega)) only [vb4, ne_eq, eG, eH, jU, List.getElem?_cons_zero, List.getElem?_cons_succ, dB, vb5, e66, hq, vg hj' hq]
   ·simp (disch := first | omega | assumption | (intros; simp only [dl0]; try omega)) only [vb4, ne_eq, eG, eH, jU, List.getElem?_cons_zero, List.getElem?_cons_succ, dB, vb5, e66, hq]
    exact hR (j + 1) _ ⟨by omega, ah _ _ _, aR (d := 0) ha hj' hq⟩ (by omega)
  ·obtain ⟨r, w, hr, he⟩ := next_ge (n := n) hg hj' hc
   rw [he, aP]
   simp (disch := first | omega | assumption | (intros; simp only [dl0]; try omega)) only [vb4, ne_eq, eG, eH, jU, List.getElem?_cons_zero, List.getElem?_cons_succ, dB, vb5, e66, vl (show (128 : Int) <= (r : Nat) by omega)]
   rw [vg hj' (vl (by omega))]
 ·rw [next_no hg (by omega), aP]
  have hall := cF ha (by omega)
  simp (disch := first | omega | assumption | (intros; simp only [dl0]; try omega)) only [vb4, ne_eq, eG, eH, jU, List.getElem?_cons_zero, List.getElem?_cons_succ, dB, vb5, lh, mI, iR, nv]
  rw [nmB, hall]
  have : (!decide (s.length = 0)) = decide (0 < s.length) := by
   by_cases q : s.length = 0 <;> simp [q, Nat.pos_iff_ne_zero]
  have q2 : ((s.length : Nat) : Int) <= 40 ↔ s.length <= 40 := by omega
  simp only [this, Bool.true_and, q2]
theorem e60 {s : List UInt8} (hl : s.length <= 140737488351232) {d : Nat} {σ : AS} {K : AV -> AS -> Prop} : oC T0 d 60 [.s s] σ K = K (.b (nmB s)) σ := (c60 s hl).eq d σ K
theorem aZ : type_of% (And.intro @dl @pQ) := And.intro @dl @pQ
theorem cm : type_of% (And.intro @aa @dl) := And.intro @aa @dl
theorem hI : type_of% (And.intro @aC (And.intro @dB @idx_9)) := And.intro @aC (And.intro @dB @idx_9)
theorem iF : type_of% (And.intro @cy @zN) := And.intro @cy @zN
theorem c62 (s : List UInt8) (hl : s.length <= 140737488351232) : R T0 62 [.s s] (.b (nmB s)) := by
 refine r62 _ rfl rfl ?_
 unfold w62
 dsimp only [av]
 refine sC (X := Nat) (fun _ => .s s) (fun j => .i .i64 (j : Nat)) (fun j σ => j <= s.length /\ (s.take j).all (fun c => dr c.toNat) = true) (fun j => s.length - j) ?_ 0 _ ⟨Nat.zero_le _, rfl⟩
 rintro R j σ ⟨hj, ha⟩ hR
 simp (disch := first | omega | assumption | (intros; simp only [dl0]; try omega)) only [cm, dB]
 refine aV (fun h => ?_) (fun h => ?_)
 ·have hj' : j < s.length := by omega
  cases hq : dr ((s.getD j 0).toNat : Nat)
  ·simp (disch := first | omega | assumption | (intros; simp only [dl0]; try omega)) only [vb0, ne_eq, aZ, eG, iF, hI, vb5, e93, hq, vg hj' hq]
  ·simp (disch := first | omega | assumption | (intros; simp only [dl0]; try omega)) only [vb0, ne_eq, aZ, eG, iF, hI, vb5, e93, hq]
   exact hR (j + 1) _ ⟨by omega, aR (d := 0) ha hj' hq⟩ (by omega)
 ·have hall := cF ha (by omega)
  simp (disch := first | omega | assumption | (intros; simp only [dl0]; try omega)) only [vb0, ne_eq, aZ, eG, iF, hI, vb5, lh, iR]
  rw [nmB, hall]
  have q1 : (0 : Int) < (s.length : Nat) ↔ 0 < s.length := by omega
  have q2 : ((s.length : Nat) : Int) <= 40 ↔ s.length <= 40 := by omega
  simp only [Bool.true_and, q1, q2]
theorem e62 {s : List UInt8} (hl : s.length <= 140737488351232) {d : Nat} {σ : AS} {K : AV -> AS -> Prop} : oC T0 d 62 [.s s] σ K = K (.b (nmB s)) σ := (c62 s hl).eq d σ K
theorem hP : type_of% (And.intro @sL (And.intro @sN (And.intro @vQ (And.intro @sM (And.intro @vG (And.intro @yQ @yT)))))) := And.intro @sL (And.intro @sN (And.intro @vQ (And.intro @sM (And.intro @vG (And.intro @yQ @yT)))))
theorem jZ : type_of% (And.intro @gtt_5 (And.intro @gff_5 (And.intro @gtf_5 (And.intro @gft_5 (And.intro @gvv_5 (And.intro @gnt_5 @gnf_5)))))) := And.intro @gtt_5 (And.intro @gff_5 (And.intro @gtf_5 (And.intro @gft_5 (And.intro @gvv_5 (And.intro @gnt_5 @gnf_5)))))
theorem c63 (s : List UInt8) (hl : s.length <= 140737488351232) : R T0 63 [.s s] (.b (txB s)) := by
 refine r63 _ rfl rfl ?_
 unfold w63
 dsimp only [av]
 refine sC (X := Nat) (fun _ => .s s) (fun j => .i .i64 (j : Nat)) (fun j σ => j <= s.length /\ (s.take j).all (fun c => ga c.toNat) = true) (fun j => s.length - j) ?_ 0 _ ⟨Nat.zero_le _, rfl⟩
 rintro R j σ ⟨hj, ha⟩ hR
 simp (disch := first | omega | assumption | (intros; simp only [dl0]; try omega)) only [cm, dB]
 refine aV (fun h => ?_) (fun h => ?_)
 ·have hj' : j < s.length := by omega
  generalize hc : (s.getD j 0).toNat = c
  have no : ga (c : Nat) = false -> txB s = false := fun q => tx_no hj' (by rw [hc]; exact q)
  have yes : ga (c : Nat) = true -> (s.take (j + 1)).all (fun c => ga c.toNat) = true := fun q => aR (d := 0) ha hj' (by rw [hc]; exact q)
  simp (disch := first | omega | assumption | (intros; simp only [dl0]; try omega)) only [vb0, ne_eq, aZ, vb9, iF, eH, hI, hP, jZ, hc]
  repeat' ((first | with_reducible refine aV (fun h => ?_) (fun h => ?_) | with_reducible refine pg (fun h => ?_) (fun h => ?_) | with_reducible refine yY (fun h => ?_) (fun h => ?_) | with_reducible refine gdt_5 (fun h => ?_) (fun h => ?_) | with_reducible refine pi (fun h => ?_) (fun h => ?_) | with_reducible refine za (fun h => ?_) (fun h => ?_) | with_reducible refine gdf_5 (fun h => ?_) (fun h => ?_) | with_reducible refine pj (fun h => ?_) (fun h => ?_) | with_reducible refine zd (fun h => ?_) (fun h => ?_) | with_reducible refine gbt_5 (fun h => ?_) (fun h => ?_) | with_reducible refine pk (fun h => ?_) (fun h => ?_) | with_reducible refine zg (fun h => ?_) (fun h => ?_) | with_reducible refine gbf_5 (fun h => ?_) (fun h => ?_) | with_reducible refine gr (fun h => ?_) (fun h => ?_)) <;> try simp (disch := first | omega | assumption | (intros; simp only [dl0]; try omega)) only [h, vb0, ne_eq, aZ, vb9, iF, eH, hI, hP, jZ, hc])
  all_goals first
   | exact hR (j + 1) _ ⟨by omega, yes (decide_eq_true (by omega))⟩ (by omega)
   | rw [no (decide_eq_false (by omega))]
 ·have hall := cF ha (by omega)
  simp (disch := first | omega | assumption | (intros; simp only [dl0]; try omega)) only [vb0, ne_eq, aZ, vb9, iF, eH, hI, hP, jZ]
  rw [txB, hall]
  have q2 : ((s.length : Nat) : Int) <= 200 ↔ s.length <= 200 := by omega
  simp only [Bool.true_and, q2]
theorem e63 {s : List UInt8} (hl : s.length <= 140737488351232) {d : Nat} {σ : AS} {K : AV -> AS -> Prop} : oC T0 d 63 [.s s] σ K = K (.b (txB s)) σ := (c63 s hl).eq d σ K
theorem c119 (s : List UInt8) (hl : s.length <= 140737488351232) : R T0 119 [.s s] (.b (txB s)) := by
 refine r119 _ rfl rfl ?_
 unfold w119
 dsimp only [av]
 simp (disch := first | omega | assumption | (intros; simp only [dl0]; try omega)) only [aa, dB]
 refine fL (X := Nat) (fun _ => .s s) (fun _ => .i .i64 (s.length : Nat)) (fun j => .i .i64 (j : Nat)) (fun j σ => j <= s.length /\ (s.take j).all (fun c => ga c.toNat) = true) (fun j => s.length - j) ?_ 0 _ ⟨Nat.zero_le _, rfl⟩
 rintro R j σ ⟨hj, ha⟩ hR
 simp (disch := first | omega | assumption | (intros; simp only [dl0]; try omega)) only [cm]
 refine aV (fun h => ?_) (fun h => ?_)
 ·have hj' : j < s.length := by omega
  generalize hc : (s.getD j 0).toNat = c
  have no : ga (c : Nat) = false -> txB s = false := fun q => tx_no hj' (by rw [hc]; exact q)
  have yes : ga (c : Nat) = true -> (s.take (j + 1)).all (fun c => ga c.toNat) = true := fun q => aR (d := 0) ha hj' (by rw [hc]; exact q)
  simp (disch := first | omega | assumption | (intros; simp only [dl0]; try omega)) only [vb0, ne_eq, aZ, vb9, iF, eH, hI, hP, jZ, hc]
  repeat' ((first | with_reducible refine aV (fun h => ?_) (fun h => ?_) | with_reducible refine pg (fun h => ?_) (fun h => ?_) | with_reducible refine yY (fun h => ?_) (fun h => ?_) | with_reducible refine gdt_5 (fun h => ?_) (fun h => ?_) | with_reducible refine pi (fun h => ?_) (fun h => ?_) | with_reducible refine za (fun h => ?_) (fun h => ?_) | with_reducible refine gdf_5 (fun h => ?_) (fun h => ?_) | with_reducible refine pj (fun h => ?_) (fun h => ?_) | with_reducible refine zd (fun h => ?_) (fun h => ?_) | with_reducible refine gbt_5 (fun h => ?_) (fun h => ?_) | with_reducible refine pk (fun h => ?_) (fun h => ?_) | with_reducible refine zg (fun h => ?_) (fun h => ?_) | with_reducible refine gbf_5 (fun h => ?_) (fun h => ?_) | with_reducible refine gr (fun h => ?_) (fun h => ?_)) <;> try simp (disch := first | omega | assumption | (intros; simp only [dl0]; try omega)) only [h, vb0, ne_eq, aZ, vb9, iF, eH, hI, hP, jZ, hc])
  all_goals first
   | exact hR (j + 1) _ ⟨by omega, yes (decide_eq_true (by omega))⟩ (by omega)
   | rw [no (decide_eq_false (by omega))]
 ·have hall := cF ha (by omega)
  simp (disch := first | omega | assumption | (intros; simp only [dl0]; try omega)) only [vb0, ne_eq, aZ, vb9, iF, eH, hI, hP, jZ]
  rw [txB, hall]
  have q2 : ((s.length : Nat) : Int) <= 200 ↔ s.length <= 200 := by omega
  simp only [Bool.true_and, q2]
theorem e119 {s : List UInt8} (hl : s.length <= 140737488351232) {d : Nat} {σ : AS} {K : AV -> AS -> Prop} : oC T0 d 119 [.s s] σ K = K (.b (txB s)) σ := (c119 s hl).eq d σ K
theorem c103 (s : List UInt8) (hl : s.length <= 140737488351232) : R T0 103 [.s s] (.b (nmB s)) := by
 refine r103 _ rfl rfl ?_
 unfold w103
 dsimp only [av]
 simp (disch := first | omega | assumption | (intros; simp only [dl0]; try omega)) only [aa, dB]
 refine fL (X := Nat) (fun _ => .s s) (fun _ => .i .i64 (s.length : Nat)) (fun j => .i .i64 (j : Nat)) (fun j σ => j <= s.length /\ (s.take j).all (fun c => dr c.toNat) = true) (fun j => s.length - j) ?_ 0 _ ⟨Nat.zero_le _, rfl⟩
 rintro R j σ ⟨hj, ha⟩ hR
 simp (disch := first | omega | assumption | (intros; simp only [dl0]; try omega)) only [cm]
 refine aV (fun h => ?_) (fun h => ?_)
 ·have hj' : j < s.length := by omega
  generalize hc : (s.getD j 0).toNat = c
  have no : dr (c : Nat) = false -> nmB s = false := fun q => vg hj' (by rw [hc]; exact q)
  have yes : dr (c : Nat) = true -> (s.take (j + 1)).all (fun c => dr c.toNat) = true := fun q => aR (d := 0) ha hj' (by rw [hc]; exact q)
  simp (disch := first | omega | assumption | (intros; simp only [dl0]; try omega)) only [vb0, ne_eq, aZ, vb9, lH, vb8, hI, vb5, hc]
  repeat' ((first | with_reducible refine aV (fun h => ?_) (fun h => ?_) | with_reducible refine pg (fun h => ?_) (fun h => ?_) | with_reducible refine yZ (fun h => ?_) (fun h => ?_) | with_reducible refine sP (fun h => ?_) (fun h => ?_) | with_reducible refine pi (fun h => ?_) (fun h => ?_) | with_reducible refine zb (fun h => ?_) (fun h => ?_) | with_reducible refine sQ (fun h => ?_) (fun h => ?_) | with_reducible refine pj (fun h => ?_) (fun h => ?_) | with_reducible refine ze (fun h => ?_) (fun h => ?_) | with_reducible refine sR (fun h => ?_) (fun h => ?_) | with_reducible refine pk (fun h => ?_) (fun h => ?_) | with_reducible refine zh (fun h => ?_) (fun h => ?_) | with_reducible refine sS (fun h => ?_) (fun h => ?_) | with_reducible refine gr (fun h => ?_) (fun h => ?_)) <;> try simp (disch := first | omega | assumption | (intros; simp only [dl0]; try omega)) only [h, vb0, ne_eq, aZ, vb9, lH, vb8, hI, vb5, hc])
  all_goals first
   | exact hR (j + 1) _ ⟨by omega, yes (decide_eq_true (by omega))⟩ (by omega)
   | rw [no (decide_eq_false (by omega))]
 ·have hall := cF ha (by omega)
  simp (disch := first | omega | assumption | (intros; simp only [dl0]; try omega)) only [vb0, ne_eq, aZ, vb9, lH, vb8, hI, vb5, lh, pM, mI, iR]
  rw [nmB, hall]
  have q1 : (1 : Int) <= (s.length : Nat) ↔ 0 < s.length := by omega
  have q2 : ((s.length : Nat) : Int) <= 40 ↔ s.length <= 40 := by omega
  simp only [Bool.true_and, q1, q2]
theorem AF {s : List UInt8} (hl : s.length <= 140737488351232) {d : Nat} {σ : AS} {K : AV -> AS -> Prop} : oC T0 d 103 [.s s] σ K = K (.b (nmB s)) σ := (c103 s hl).eq d σ K
theorem c92 (s : List UInt8) (hl : s.length <= 140737488351232) : R T0 92 [.s s] (.b (nmB s)) := by
 refine r92 _ rfl rfl ?_
 unfold w92
 dsimp only [av]
 refine sC (X := Nat) (fun _ => .s s) (fun j => .i .i64 (j : Nat)) (fun j σ => j <= s.length /\ (s.take j).all (fun c => dr c.toNat) = true) (fun j => s.length - j) ?_ 0 _ ⟨Nat.zero_le _, rfl⟩
 rintro R j σ ⟨hj, ha⟩ hR
 simp (disch := first | omega | assumption | (intros; simp only [dl0]; try omega)) only [cm, dB]
 refine aV (fun h => ?_) (fun h => ?_)
 ·have hj' : j < s.length := by omega
  generalize hc : (s.getD j 0).toNat = c
  have no : dr (c : Nat) = false -> nmB s = false := fun q => vg hj' (by rw [hc]; exact q)
  have yes : dr (c : Nat) = true -> (s.take (j + 1)).all (fun c => dr c.toNat) = true := fun q => aR (d := 0) ha hj' (by rw [hc]; exact q)
  simp (disch := first | omega | assumption | (intros; simp only [dl0]; try omega)) only [vb0, ne_eq, aZ, vb9, lH, eH, hI, vb5, hc]
  repeat' ((first | with_reducible refine aV (fun h => ?_) (fun h => ?_) | with_reducible refine pg (fun h => ?_) (fun h => ?_) | with_reducible refine yZ (fun h => ?_) (fun h => ?_) | with_reducible refine sP (fun h => ?_) (fun h => ?_) | with_reducible refine pi (fun h => ?_) (fun h => ?_) | with_reducible refine zb (fun h => ?_) (fun h => ?_) | with_reducible refine sQ (fun h => ?_) (fun h => ?_) | with_reducible refine pj (fun h => ?_) (fun h => ?_) | with_reducible refine ze (fun h => ?_) (fun h => ?_) | with_reducible refine sR (fun h => ?_) (fun h => ?_) | with_reducible refine pk (fun h => ?_) (fun h => ?_) | with_reducible refine zh (fun h => ?_) (fun h => ?_) | with_reducible refine sS (fun h => ?_) (fun h => ?_) | with_reducible refine gr (fun h => ?_) (fun h => ?_)) <;> try simp (disch := first | omega | assumption | (intros; simp only [dl0]; try omega)) only [h, vb0, ne_eq, aZ, vb9, lH, eH, hI, vb5, hc])
  all_goals first
   | exact hR (j + 1) _ ⟨by omega, yes (decide_eq_true (by omega))⟩ (by omega)
   | rw [no (decide_eq_false (by omega))]
 ·have hall := cF ha (by omega)
  simp (disch := first | omega | assumption | (intros; simp only [dl0]; try omega)) only [vb0, ne_eq, aZ, vb9, lH, eH, hI, vb5, lh, pM, mI, iR]
  rw [nmB, hall]
  have q1 : (1 : Int) <= (s.length : Nat) ↔ 0 < s.length := by omega
  have q2 : ((s.length : Nat) : Int) <= 40 ↔ s.length <= 40 := by omega
  simp only [Bool.true_and, q1, q2]
theorem e92 {s : List UInt8} (hl : s.length <= 140737488351232) {d : Nat} {σ : AS} {K : AV -> AS -> Prop} : oC T0 d 92 [.s s] σ K = K (.b (nmB s)) σ := (c92 s hl).eq d σ K
theorem c111 (s : List UInt8) (hl : s.length <= 140737488351232) : R T0 111 [.s s] (.b (txB s)) := by
 refine r111 _ rfl rfl ?_
 unfold w111
 dsimp only [av]
 refine sC (X := Nat) (fun _ => .s s) (fun j => .i .i64 (j : Nat)) (fun j σ => j <= s.length /\ (s.take j).all (fun c => ga c.toNat) = true) (fun j => s.length - j) ?_ 0 _ ⟨Nat.zero_le _, rfl⟩
 rintro R j σ ⟨hj, ha⟩ hR
 simp (disch := first | omega | assumption | (intros; simp only [dl0]; try omega)) only [cm, dB]
 refine aV (fun h => ?_) (fun h => ?_)
 ·have hj' : j < s.length := by omega
  generalize hc : (s.getD j 0).toNat = c
  have no : ga (c : Nat) = false -> txB s = false := fun q => tx_no hj' (by rw [hc]; exact q)
  have yes : ga (c : Nat) = true -> (s.take (j + 1)).all (fun c => ga c.toNat) = true := fun q => aR (d := 0) ha hj' (by rw [hc]; exact q)
  simp (disch := first | omega | assumption | (intros; simp only [dl0]; try omega)) only [vb0, ne_eq, aZ, vb9, iF, eH, hI, hP, jZ, hc]
  repeat' ((first | with_reducible refine aV (fun h => ?_) (fun h => ?_) | with_reducible refine pg (fun h => ?_) (fun h => ?_) | with_reducible refine yY (fun h => ?_) (fun h => ?_) | with_reducible refine gdt_5 (fun h => ?_) (fun h => ?_) | with_reducible refine pi (fun h => ?_) (fun h => ?_) | with_reducible refine za (fun h => ?_) (fun h => ?_) | with_reducible refine gdf_5 (fun h => ?_) (fun h => ?_) | with_reducible refine pj (fun h => ?_) (fun h => ?_) | with_reducible refine zd (fun h => ?_) (fun h => ?_) | with_reducible refine gbt_5 (fun h => ?_) (fun h => ?_) | with_reducible refine pk (fun h => ?_) (fun h => ?_) | with_reducible refine zg (fun h => ?_) (fun h => ?_) | with_reducible refine gbf_5 (fun h => ?_) (fun h => ?_) | with_reducible refine gr (fun h => ?_) (fun h => ?_)) <;> try simp (disch := first | omega | assumption | (intros; simp only [dl0]; try omega)) only [h, vb0, ne_eq, aZ, vb9, iF, eH, hI, hP, jZ, hc])
  all_goals first
   | exact hR (j + 1) _ ⟨by omega, yes (decide_eq_true (by omega))⟩ (by omega)
   | rw [no (decide_eq_false (by omega))]
 ·have hall := cF ha (by omega)
  simp (disch := first | omega | assumption | (intros; simp only [dl0]; try omega)) only [vb0, ne_eq, aZ, vb9, iF, eH, hI, hP, jZ]
  rw [txB, hall]
  have q2 : ((s.length : Nat) : Int) <= 200 ↔ s.length <= 200 := by omega
  simp only [Bool.true_and, q2]
theorem e111 {s : List UInt8} (hl : s.length <= 140737488351232) {d : Nat} {σ : AS} {K : AV -> AS -> Prop} : oC T0 d 111 [.s s] σ K = K (.b (txB s)) σ := (c111 s hl).eq d σ K
mutual
inductive Val where
 | mk (kind n : Int) (s : List UInt8) (list : List Val) (fields : List Fld)
inductive Fld where
 | mk (name : List UInt8) (v : Val)
end
def Val.kind : Val -> Int | .mk k _ _ _ _ => k
def Val.n : Val -> Int | .mk _ n _ _ _ => n
def Val.s : Val -> List UInt8 | .mk _ _ s _ _ => s
def Val.list : Val -> List Val | .mk _ _ _ l _ => l
def Val.fields : Val -> List Fld | .mk _ _ _ _ f => f
def Fld.name : Fld -> List UInt8 | .mk n _ => n
def Fld.v : Fld -> Val | .mk _ v => v
instance : Inhabited Val := ⟨.mk 0 0 [] [] []⟩
instance : Inhabited Fld := ⟨.mk [] default⟩
mutual
def ak : Val -> AV
 | .mk k n s l fs => .agg [.i .i64 k, .i .i64 n, .s s, .lst (wn l), .lst (wo fs)]
def ay : Fld -> AV
 | .mk nm v => .agg (.s nm :: (ak v).cells)
def wn : List Val -> List AV
 | [] => []
 | v :: vs => ak v :: wn vs
def wo : List Fld -> List AV
 | [] => []
 | f :: fs => ay f :: wo fs
end
theorem encVs_eq (l : List Val) : wn l = l.map ak := by
 induction l with
 | nil => rw [wn]; rfl
 | cons v vs ih => rw [wn, ih]; rfl
theorem encFs_eq (l : List Fld) : wo l = l.map ay := by
 induction l with
 | nil => rw [wo]; rfl
 | cons v vs ih => rw [wo, ih]; rfl
theorem ax (v : Val) : ak v = .agg [.i .i64 v.kind, .i .i64 v.n, .s v.s, .lst (v.list.map ak), .lst (v.fields.map ay)] := by
 cases v; rw [ak, encVs_eq, encFs_eq]; rfl
theorem bh (f : Fld) : ay f = .agg (.s f.name :: (ak f.v).cells) := by
 cases f; rw [ay]; rfl
mutual
inductive okV : Val -> Prop where
 | mk {k n : Int} {s : List UInt8} {l : List Val} {fs : List Fld} : (Lit.int .i64 k).wf = true -> (Lit.int .i64 n).wf = true -> s.length <= 140737488351232 -> l.length <= 140737488351232 -> fs.length <= 140737488351232 -> (∀ x ∈ l, okV x) -> (∀ f ∈ fs, okF f) -> okV (.mk k n s l fs)
inductive okF : Fld -> Prop where
 | mk {nm : List UInt8} {v : Val} : nm.length <= 140737488351232 -> okV v -> okF (.mk nm v)
end
theorem opnVF (m : Nat) : OpV Tryz.prog 35 ak okV m /\ OpV Tryz.prog 52 ay okF m := by
 induction m with
 | zero =>
  refine ⟨⟨fun v => ?_, fun v => ?_, fun h => ?_⟩, ⟨fun v => ?_, fun v => ?_, fun h => ?_⟩⟩
  ·rw [ax]; kernel_rfl
  ·rw [ax]; rfl
  ·simp [DataW.trod] at h
  ·rw [bh, ax]; kernel_rfl
  ·rw [bh, ax]; rfl
  ·simp [DataW.trod] at h
 | succ m ih =>
  have sl := (OpV.slice (B := 80) (m := m) Tryz.underlying32 (by kernel_rfl) (by kernel_rfl) (of_decide_eq_true (by kernel_rfl)) ih.1).le (Nat.le_succ m)
  have sf := (OpV.slice (B := 96) (m := m) Tryz.underlying33 (by kernel_rfl) (by kernel_rfl) (of_decide_eq_true (by kernel_rfl)) ih.2).le (Nat.le_succ m)
  refine ⟨?_, ?_⟩
  ·refine (OpV.struct Tryz.underlying35 (by kernel_rfl) (OpF.cons (z := 1) (z' := 4) rfl (by kernel_rfl) (tP m) (OpF.cons (z := 1) (z' := 3) rfl (by kernel_rfl) (tP m) (OpF.cons (z := 1) (z' := 2) rfl (by kernel_rfl) (tO m) (OpF.cons (z := 1) (z' := 1) rfl (by kernel_rfl) sl (OpF.one (z := 1) rfl (by kernel_rfl) sf)))))).iso (fun p => .mk p.1 p.2.1 p.2.2.1 p.2.2.2.1 p.2.2.2.2) (fun v => (v.kind, v.n, v.s, v.list, v.fields)) (fun v => ?_) (fun _ => rfl) (fun a h => ?_)
   ·rw [ax]; rfl
   ·obtain ⟨h1, h2, h3, h4, h5⟩ := h
    exact .mk h1 h2 h3 (Nat.le_trans (Nat.le_mul_of_pos_right _ (by decide)) h4.1) (Nat.le_trans (Nat.le_mul_of_pos_right _ (by decide)) h5.1) h4.2 h5.2
  ·refine (OpV.struct Tryz.underlying52 (by kernel_rfl) (OpF.cons (z := 1) (z' := 5) rfl (by kernel_rfl) (tO m) (OpF.one (z := 5) rfl (by kernel_rfl) ih.1))).iso (fun p => .mk p.1 p.2) (fun f => (f.name, f.v)) (fun f => ?_) (fun _ => rfl) (fun a h => ?_)
   ·rw [bh]; rfl
   ·exact .mk h.1 h.2
theorem opnV_35 (m : Nat) : OpV Tryz.prog 35 ak okV m := (opnVF m).1
theorem bo (v : Val) : (ak v).cells.length = 5 := by rw [ax]; rfl
theorem bq (f : Fld) : (ay f).cells.length = 6 := by rw [bh, ax]; rfl
theorem dl3 : type_of% (And.intro @bq (And.intro @bo (And.intro @bw (And.intro @jJ (And.intro @dlA (And.intro @dlC @dlN)))))) := And.intro @bq (And.intro @bo (And.intro @bw (And.intro @jJ (And.intro @dlA (And.intro @dlC @dlN)))))
theorem dl1 : type_of% (And.intro @bq (And.intro @bo (And.intro @bw @jJ))) := And.intro @bq (And.intro @bo (And.intro @bw @jJ))
theorem qY (v : Val) : aJ T0 3 ((ak v).cells.drop 0) = some (.i .i64 v.kind) := by rw [ax]; exact oY _ _
theorem zt (v : Val) : aJ T0 3 ((ak v).cells.drop 1) = some (.i .i64 v.n) := by rw [ax]; exact oY _ _
theorem zq (v : Val) : aJ T0 9 ((ak v).cells.drop 2) = some (.s v.s) := by rw [ax]; exact mn _ _
theorem jC (v : Val) : aJ T0 32 ((ak v).cells.drop 3) = some (.lst (v.list.map ak)) := by rw [ax]; exact ofc_32 _ _
theorem gx (v : Val) : aJ T0 33 ((ak v).cells.drop 4) = some (.lst (v.fields.map ay)) := by rw [ax]; exact ofc_33 _ _
theorem iU (v : Val) : aJ T0 35 (ak v).cells = some (ak v) := by rw [ax, lM]; rfl
theorem iV (v : Val) : aJ T0 35 ((ak v).cells.drop 0) = some (ak v) := iU v
theorem jD (f : Fld) : aJ T0 9 ((ay f).cells.drop 0) = some (.s f.name) := by rw [bh]; exact mn _ _
theorem mO (f : Fld) : aJ T0 35 ((ay f).cells.drop 1) = some (ak f.v) := by rw [bh]; exact iU f.v
theorem dp (v : Val) {x : Val} (h : x ∈ v.list) : SizeOf.sizeOf x < SizeOf.sizeOf v := by
 obtain ⟨k, n, s, l, fs⟩ := v
 have := List.sizeOf_lt_of_mem (show x ∈ l from h)
 simp only [Val.mk.sizeOf_spec]; omega
theorem cr (v : Val) {f : Fld} (h : f ∈ v.fields) : SizeOf.sizeOf f.v < SizeOf.sizeOf v := by
 obtain ⟨k, n, s, l, fs⟩ := v
 have := List.sizeOf_lt_of_mem (show f ∈ fs from h)
 obtain ⟨nm, w⟩ := f
 simp only [Val.mk.sizeOf_spec, Fld.mk.sizeOf_spec, Fld.v] at this |-; omega
theorem dA {v : Val} (h : okV v) : v.s.length <= 140737488351232 /\ v.list.length <= 140737488351232 /\ v.fields.length <= 140737488351232 /\ (∀ x ∈ v.list, okV x) /\ (∀ f ∈ v.fields, okF f) := by
 cases h with
 | mk h1 h2 h3 h4 h5 h6 h7 => exact ⟨h3, h4, h5, h6, h7⟩
theorem ml {f : Fld} (h : okF f) : f.name.length <= 140737488351232 /\ okV f.v := by
 cases h with
 | mk h1 h2 => exact ⟨h1, h2⟩
theorem fX (v : Val) : aO (ak v).cells = true := by rw [ax]; rfl
theorem mA (f : Fld) : aO (ay f).cells = true := by rw [bh, ax]; rfl
theorem free_V (v : Val) : (ak v).idfree = true := by rw [ax]; rfl
theorem norm_V (v : Val) : (ak v).norm = ak v := by rw [ax]; rfl
theorem frees_V (v : Val) : AV.idfree.idfrees (ak v).cells = true := by rw [ax]; rfl
theorem norms_V (v : Val) : AV.norm.norms (ak v).cells = (ak v).cells := by rw [ax]; rfl
theorem mm (f : Fld) : aJ T0 52 (ay f).cells = some (ay f) := by rw [bh, ax, ofc_52]; rfl
theorem kY (f : Fld) : aJ T0 52 ((ay f).cells.drop 0) = some (ay f) := mm f
theorem st_V {h : Tr AB} {id e : Nat} {g : Bool} {cs : List AV} (v : Val) (hc : cs.length = 5) : az T0 (h.put id (some (.cells cs e g))) 35 (.ptr id 0) (ak v) = some ((h.put id (some (.cells cs e g))).put id (some (.cells (ak v).cells e g))) := kP ic (bo v) hc (fX v)
theorem st_F {h : Tr AB} {id e : Nat} {g : Bool} {cs : List AV} (v : Fld) (hc : cs.length = 6) : az T0 (h.put id (some (.cells cs e g))) 52 (.ptr id 0) (ay v) = some ((h.put id (some (.cells cs e g))).put id (some (.cells (ay v).cells e g))) := kP uB (bq v) hc (mA v)
theorem st_V0 {h : Tr AB} {id e : Nat} {g : Bool} (v : Val) : az T0 (h.put id (some (.cells [.i .i64 0, .i .i64 0, .s [], .nilz true, .nilz true] e g))) 35 (.ptr id 0) (ak v) = some ((h.put id (some (.cells [.i .i64 0, .i .i64 0, .s [], .nilz true, .nilz true] e g))).put id (some (.cells (ak v).cells e g))) := st_V v rfl
theorem uH {h : Tr AB} {id e : Nat} {g : Bool} (v : Fld) : az T0 (h.put id (some (.cells [.s [], .i .i64 0, .i .i64 0, .s [], .nilz true, .nilz true] e g))) 52 (.ptr id 0) (ay v) = some ((h.put id (some (.cells [.s [], .i .i64 0, .i .i64 0, .s [], .nilz true, .nilz true] e g))).put id (some (.cells (ay v).cells e g))) := st_F v rfl
theorem fld_F_v0 (f : Fld) : aJ T0 3 ((ay f).cells.drop 1) = some (.i .i64 f.v.kind) := by rw [bh, ax]; exact oY _ _
theorem fld_F_v2 (f : Fld) : aJ T0 9 ((ay f).cells.drop 3) = some (.s f.v.s) := by rw [bh, ax]; exact mn _ _
theorem oZ_V {v : Val} {σ : AS} {K : AV -> Prop} : oZ T0 σ (ak v) K = K (ak v) := by rw [dP (free_V v), norm_V]
def scB (v : Val) : Bool := if v.kind = 1 then decide (v.s.length = 0) && (decide (v.n = 0) || decide (v.n = 1)) else if v.kind = 2 then decide (v.s.length = 0) && decide (-1000000000000000 <= v.n) && decide (v.n <= 1000000000000000)
 else if v.kind = 3 then decide (v.n = 0) && txB v.s else if v.kind = 0 ∨ v.kind = 4 ∨ v.kind = 5 then decide (v.n = 0) && decide (v.s.length = 0) else false
theorem gk (v : Val) : AV.idfree.idfrees [ak v] = true := by rw [ax]; rfl
theorem iy (v : Val) : AV.norm.norms [ak v] = [ak v] := by rw [ax]; rfl
theorem nQ (v : Val) (n : Int) : AV.idfree.idfrees [ak v, .i .i64 n] = true := by rw [ax]; rfl
theorem nz (v : Val) (n : Int) : AV.norm.norms [ak v, .i .i64 n] = [ak v, .i .i64 n] := by rw [ax]; rfl
theorem vb1 : type_of% (And.intro @cQ (And.intro @bN (And.intro @ah (And.intro @ae (And.intro @yg (And.intro @fS (And.intro @qY (And.intro @zt (And.intro @zq (And.intro @jC (And.intro @gx (And.intro @iU (And.intro @iV (And.intro @jD (And.intro @mO (And.intro @mm (And.intro @kY (And.intro @st_V0 (And.intro @uH (And.intro @nJ (And.intro @nI (And.intro @sK @qR)))))))))))))))))))))) := And.intro @cQ (And.intro @bN (And.intro @ah (And.intro @ae (And.intro @yg (And.intro @fS (And.intro @qY (And.intro @zt (And.intro @zq (And.intro @jC (And.intro @gx (And.intro @iU (And.intro @iV (And.intro @jD (And.intro @mO (And.intro @mm (And.intro @kY (And.intro @st_V0 (And.intro @uH (And.intro @nJ (And.intro @nI (And.intro @sK @qR)))))))))))))))))))))
theorem bx : type_of% (And.intro @oX @cG) := And.intro @oX @cG
theorem fK : type_of% (And.intro @rr @pR) := And.intro @rr @pR
theorem c102 (v : Val) (ov : okV v) : R T0 102 [ak v] (.b (scB v)) := by
 have hs := (dA ov).1
 refine r102 _ (gk v) (iy v) ?_
 unfold w102
 dsimp only [av]
 simp (disch := first | omega | assumption | (intros; simp only [dl1]; try omega)) only [vb0, ne_eq, vb9, fK, vb8, vb1, bx, fG, vb5, hP, e119 hs]
 repeat' ((first | with_reducible refine aV (fun h => ?_) (fun h => ?_) | with_reducible refine pg (fun h => ?_) (fun h => ?_) | with_reducible refine sP (fun h => ?_) (fun h => ?_) | with_reducible refine yY (fun h => ?_) (fun h => ?_) | with_reducible refine pi (fun h => ?_) (fun h => ?_) | with_reducible refine sQ (fun h => ?_) (fun h => ?_) | with_reducible refine za (fun h => ?_) (fun h => ?_) | with_reducible refine pj (fun h => ?_) (fun h => ?_) | with_reducible refine sR (fun h => ?_) (fun h => ?_) | with_reducible refine zd (fun h => ?_) (fun h => ?_) | with_reducible refine pk (fun h => ?_) (fun h => ?_) | with_reducible refine sS (fun h => ?_) (fun h => ?_) | with_reducible refine zg (fun h => ?_) (fun h => ?_) | with_reducible refine gr (fun h => ?_) (fun h => ?_)) <;> try simp (disch := first | omega | assumption | (intros; simp only [dl1]; try omega)) only [h, vb0, ne_eq, vb9, fK, vb8, vb1, bx, fG, vb5, hP, e119 hs])
 all_goals first | (simp_all [scB]; done) | (simp_all [scB]; omega)
theorem e102 {v : Val} (ov : okV v) {d : Nat} {σ : AS} {K : AV -> AS -> Prop} : oC T0 d 102 [ak v] σ K = K (.b (scB v)) σ := (c102 v ov).eq d σ K
theorem c91 (v : Val) (ov : okV v) : R T0 91 [ak v] (.b (scB v)) := by
 have hs := (dA ov).1
 refine r91 _ (gk v) (iy v) ?_
 unfold w91
 dsimp only [av]
 simp (disch := first | omega | assumption | (intros; simp only [dl1]; try omega)) only [vb0, ne_eq, eG, fK, vb8, vb1, bx, fG, vb5, e111 hs]
 repeat' ((first | with_reducible refine aV (fun h => ?_) (fun h => ?_) | with_reducible refine sP (fun h => ?_) (fun h => ?_) | with_reducible refine sQ (fun h => ?_) (fun h => ?_) | with_reducible refine sR (fun h => ?_) (fun h => ?_) | with_reducible refine sS (fun h => ?_) (fun h => ?_) | with_reducible refine gr (fun h => ?_) (fun h => ?_)) <;> try simp (disch := first | omega | assumption | (intros; simp only [dl1]; try omega)) only [h, vb0, ne_eq, eG, fK, vb8, vb1, bx, fG, vb5, e111 hs])
 all_goals first | (simp_all [scB]; done) | (simp_all [scB]; omega)
theorem e91 {v : Val} (ov : okV v) {d : Nat} {σ : AS} {K : AV -> AS -> Prop} : oC T0 d 91 [ak v] σ K = K (.b (scB v)) σ := (c91 v ov).eq d σ K
def kr (fs : List Fld) (i : Nat) : Bool := decide (i = 0) || Op.bytesLess (fs.getD (i - 1) default).name (fs.getD i default).name
def fI (v : Val) : Bool := scB v && !(!decide (v.kind = 4) && decide (0 < v.list.length)) && !(!decide (v.kind = 5) && decide (0 < v.fields.length)) && decide (v.list.length <= 64) && decide (v.fields.length <= 64)
def aF : Nat -> Val -> Bool
 | 0, _ => false
 | k + 1, v => fI v && v.list.all (aF k) && (List.range v.fields.length).all (fun i => nmB (v.fields.getD i default).name && kr v.fields i && aF k (v.fields.getD i default).v)
theorem fx {p : Nat -> Bool} {j : Nat} (h : (List.range j).all p = true) (hp : p j = true) : (List.range (j + 1)).all p = true := by
 rw [List.range_succ, List.all_append, h]; simpa using hp
theorem uU {p : Nat -> Bool} {n j : Nat} (hj : j < n) (hp : p j = false) : (List.range n).all p = false := by
 rw [List.all_eq_false]
 exact ⟨j, List.mem_range.2 hj, by simpa using hp⟩
theorem head_eq (v : Val) : (!scB v || !decide (v.kind = 4) && decide ((0 : Int) < (v.list.length : Nat)) || !decide (v.kind = 5) && decide ((0 : Int) < (v.fields.length : Nat)) || decide ((64 : Int) < (v.list.length : Nat)) || decide ((64 : Int) < (v.fields.length : Nat))) = !fI v := by
 have q1 : (0 : Int) < (v.list.length : Nat) ↔ 0 < v.list.length := by omega
 have q2 : (0 : Int) < (v.fields.length : Nat) ↔ 0 < v.fields.length := by omega
 have q3 : (64 : Int) < (v.list.length : Nat) ↔ ¬ v.list.length <= 64 := by omega
 have q4 : (64 : Int) < (v.fields.length : Nat) ↔ ¬ v.fields.length <= 64 := by omega
 unfold fI
 simp only [q1, q2, q3, q4, decide_not, Bool.not_and, Bool.not_not]
 cases scB v <;> cases decide (v.kind = 4) <;> cases decide (v.kind = 5) <;> cases decide (0 < v.list.length) <;> cases decide (0 < v.fields.length) <;> rfl
theorem lJ {k : Nat} {v : Val} (h : fI v = false) : aF (k + 1) v = false := by
 unfold aF; rw [h]; rfl
theorem qc {k j : Nat} {v : Val} (hj : j < v.list.length) (h : aF k (v.list.getD j default) = false) : aF (k + 1) v = false := by
 unfold aF; rw [eB (d := default) hj h]; simp
theorem dv {k j : Nat} {v : Val} (hj : j < v.fields.length) (h : (nmB (v.fields.getD j default).name && kr v.fields j && aF k (v.fields.getD j default).v) = false) : aF (k + 1) v = false := by
 unfold aF; rw [uU (p := fun i => nmB (v.fields.getD i default).name && kr v.fields i && aF k (v.fields.getD i default).v) hj h]; simp
theorem vb2 : type_of% (And.intro @wq (And.intro @td (And.intro @yM (And.intro @yN (And.intro @pM (And.intro @yL (And.intro @lh (And.intro @mI (And.intro @yJ (And.intro @yK (And.intro @yH (And.intro @yI (And.intro @yF (And.intro @yG (And.intro @yD (And.intro @yE (And.intro @yB (And.intro @yC (And.intro @yz (And.intro @yA (And.intro @vL (And.intro @vM (And.intro @vJ (And.intro @vK (And.intro @vH (And.intro @vI (And.intro @gct_1 (And.intro @gcf_1 (And.intro @gct_2 (And.intro @gcf_2 (And.intro @gct_3 (And.intro @gcf_3 (And.intro @gct_4 (And.intro @gcf_4 (And.intro @gct_5 (And.intro @gcf_5 (And.intro @gct_6 (And.intro @gcf_6 (And.intro @gct_7 (And.intro @gcf_7 (And.intro @gct_8 (And.intro @gcf_8 (And.intro @gct_9 (And.intro @gcf_9 (And.intro @gct_10 (And.intro @gcf_10 (And.intro @gct_11 (And.intro @gcf_11 (And.intro @gct_12 (And.intro @gcf_12 (And.intro @gct_13 (And.intro @gcf_13 (And.intro @gct_14 (And.intro @gcf_14 (And.intro @iR (And.intro @yc (And.intro @nv (And.intro @uZ (And.intro @vk (And.intro @yi (And.intro @sr (And.intro @vi (And.intro @sq (And.intro @vj (And.intro @vh (And.intro @so @oZ_V)))))))))))))))))))))))))))))))))))))))))))))))))))))))))))))))))) := And.intro @wq (And.intro @td (And.intro @yM (And.intro @yN (And.intro @pM (And.intro @yL (And.intro @lh (And.intro @mI (And.intro @yJ (And.intro @yK (And.intro @yH (And.intro @yI (And.intro @yF (And.intro @yG (And.intro @yD (And.intro @yE (And.intro @yB (And.intro @yC (And.intro @yz (And.intro @yA (And.intro @vL (And.intro @vM (And.intro @vJ (And.intro @vK (And.intro @vH (And.intro @vI (And.intro @gct_1 (And.intro @gcf_1 (And.intro @gct_2 (And.intro @gcf_2 (And.intro @gct_3 (And.intro @gcf_3 (And.intro @gct_4 (And.intro @gcf_4 (And.intro @gct_5 (And.intro @gcf_5 (And.intro @gct_6 (And.intro @gcf_6 (And.intro @gct_7 (And.intro @gcf_7 (And.intro @gct_8 (And.intro @gcf_8 (And.intro @gct_9 (And.intro @gcf_9 (And.intro @gct_10 (And.intro @gcf_10 (And.intro @gct_11 (And.intro @gcf_11 (And.intro @gct_12 (And.intro @gcf_12 (And.intro @gct_13 (And.intro @gcf_13 (And.intro @gct_14 (And.intro @gcf_14 (And.intro @iR (And.intro @yc (And.intro @nv (And.intro @uZ (And.intro @vk (And.intro @yi (And.intro @sr (And.intro @vi (And.intro @sq (And.intro @vj (And.intro @vh (And.intro @so @oZ_V)))))))))))))))))))))))))))))))))))))))))))))))))))))))))))))))))
theorem vb3 : type_of% (And.intro @dl (And.intro @pQ (And.intro @cy (And.intro @zN (And.intro @bZ (And.intro @ul (And.intro @zK (And.intro @eb (And.intro @pS (And.intro @th (And.intro @aC (And.intro @bB (And.intro @oX (And.intro @cG (And.intro @mJ (And.intro @lx (And.intro @mK (And.intro @pf (And.intro @yy (And.intro @yS (And.intro @yV (And.intro @ja (And.intro @lw (And.intro @fJ (And.intro @mL (And.intro @yx (And.intro @yR (And.intro @yU (And.intro @sL (And.intro @sN (And.intro @vQ (And.intro @sM (And.intro @vG (And.intro @yQ (And.intro @yT (And.intro @gtt_10 (And.intro @gff_10 (And.intro @gtf_10 (And.intro @gft_10 (And.intro @gvv_10 (And.intro @gnt_10 @gnf_10))))))))))))))))))))))))))))))))))))))))) := And.intro @dl (And.intro @pQ (And.intro @cy (And.intro @zN (And.intro @bZ (And.intro @ul (And.intro @zK (And.intro @eb (And.intro @pS (And.intro @th (And.intro @aC (And.intro @bB (And.intro @oX (And.intro @cG (And.intro @mJ (And.intro @lx (And.intro @mK (And.intro @pf (And.intro @yy (And.intro @yS (And.intro @yV (And.intro @ja (And.intro @lw (And.intro @fJ (And.intro @mL (And.intro @yx (And.intro @yR (And.intro @yU (And.intro @sL (And.intro @sN (And.intro @vQ (And.intro @sM (And.intro @vG (And.intro @yQ (And.intro @yT (And.intro @gtt_10 (And.intro @gff_10 (And.intro @gtf_10 (And.intro @gft_10 (And.intro @gvv_10 (And.intro @gnt_10 @gnf_10))))))))))))))))))))))))))))))))))))))))
theorem jo : type_of% (And.intro @gtt_6 (And.intro @gff_6 (And.intro @gtf_6 (And.intro @gft_6 (And.intro @gvv_6 (And.intro @gnt_6 @gnf_6)))))) := And.intro @gtt_6 (And.intro @gff_6 (And.intro @gtf_6 (And.intro @gft_6 (And.intro @gvv_6 (And.intro @gnt_6 @gnf_6)))))
theorem c83 : ∀ (k : Nat) (v : Val), okV v -> k <= 1000 -> R T0 83 [ak v, .i .i64 (k : Nat)] (.b (aF k v)) := by
 intro k
 induction k with
 | zero =>
  intro v ov _
  refine r83 _ _ (nQ v _) (nz v _) ?_
  unfold w83
  dsimp only [av]
  simp (disch := first | omega | assumption | (intros; simp only [dl1]; try omega)) only [vb0, ne_eq, vb3, fK, vb1, jo, vb2, Bool.true_and, Int.ofNat_zero, Int.natCast_zero]
  rfl
 | succ k ih =>
  intro v ov hk
  obtain ⟨ls, ll, lf, ol, of_⟩ := dA ov
  have er : ∀ x, okV x -> ∀ (d : Nat) (σ : AS) (K : AV -> AS -> Prop), oC T0 d 83 [ak x, .i .i64 (k : Nat)] σ K = K (.b (aF k x)) σ := fun x hx d σ K => (ih x hx (by omega)).eq d σ K
  have z0 : decide (((k + 1 : Nat) : Int) = 0) = false := decide_eq_false (by omega)
  refine r83 _ _ (nQ v _) (nz v _) ?_
  unfold w83
  dsimp only [av]
  simp (config := { maxSteps := 1000000 }) (disch := first | omega | assumption | (intros; simp only [dl1]; try omega)) only [vb0, ne_eq, vb3, fK, vb1, jo, vb2, Bool.true_and, z0, e102 ov]
  rw [head_eq]
  cases hd : fI v
  ·rw [Bool.not_false, aD, lJ hd]
  rw [Bool.not_true, aA]
  refine ij (X := Nat) (fun _ => .i .i64 ((k + 1 : Nat) : Int)) (fun _ => .ptr 0 0) (fun _ => .lst (v.list.map ak)) (fun _ => .i .i64 (v.list.length : Nat)) (fun j => .i .i64 (j : Nat))
   (fun j σ => j <= v.list.length /\ 1 <= σ.n /\ σ.h.get 0 = some (.cells (ak v).cells 35 false) /\ (v.list.take j).all (aF k) = true) (fun j => v.list.length - j) ?_ 0 _ ⟨Nat.zero_le _, Nat.le_refl _, ah _ _ _, rfl⟩
  rintro R j σ ⟨hj, hn, hg, ha⟩ hR
  simp only [cm]
  have kk : ((k + 1 : Nat) : Int) - 1 = (k : Nat) := by omega
  refine aV (fun h => ?_) (fun h => ?_)
  ·have hj' : j < v.list.length := by omega
   have hm := ol _ (aS hj')
   have er' := er _ hm
   cases hv : aF k (v.list.getD j default)
   ·simp (disch := first | omega | assumption | (intros; simp only [dl1]; try omega)) only [vb0, ne_eq, vb3, fK, vb1, jo, kk, er', hv, qc hj' hv]
   ·simp (disch := first | omega | assumption | (intros; simp only [dl1]; try omega)) only [vb0, ne_eq, vb3, fK, vb1, jo, kk, er', hv]
    refine hR (j + 1) _ ⟨by omega, Nat.le_succ_of_le hn, ?_, aR (d := default) ha hj' hv⟩ (by omega)
    dsimp only
    rw [ae _ _ (by omega), ae _ _ (by omega)]; exact hg
  ·have hall := cF ha (by omega)
   clear hR ha
   simp (disch := first | omega | assumption | (intros; simp only [dl1]; try omega)) only [vb0, ne_eq, vb3, fK, vb1, jo, hg]
   refine ij (X := Nat) (fun _ => .i .i64 ((k + 1 : Nat) : Int)) (fun _ => .ptr 0 0) (fun _ => .lst (v.fields.map ay)) (fun _ => .i .i64 (v.fields.length : Nat)) (fun j => .i .i64 (j : Nat))
    (fun j σ => j <= v.fields.length /\ 1 <= σ.n /\ σ.h.get 0 = some (.cells (ak v).cells 35 false) /\ (List.range j).all (fun i => nmB (v.fields.getD i default).name && kr v.fields i && aF k (v.fields.getD i default).v) = true) (fun j => v.fields.length - j) ?_ 0 _ ⟨Nat.zero_le _, hn, hg, rfl⟩
   rintro R j σ ⟨hj, hn, hg, ha⟩ hR
   simp only [cm]
   refine aV (fun h => ?_) (fun h => ?_)
   ·have hj' : j < v.fields.length := by omega
    obtain ⟨hfn, hfv⟩ := ml (of_ _ (aS hj'))
    have er' := er _ hfv
    cases hnm : nmB (v.fields.getD j default).name
    ·have hF : aF (k + 1) v = false := dv hj' (by rw [hnm]; rfl)
     simp (disch := first | omega | assumption | (intros; simp only [dl1]; try omega)) only [vb0, ne_eq, vb3, fK, vb1, jo, kk, AF hfn, hnm, hF]
    ·by_cases j0 : j = 0
     ·subst j0
      have d0 : decide ((0 : Int) < ((0 : Nat) : Int)) = false := rfl
      cases hv : aF k (v.fields.getD 0 default).v
      ·have hF : aF (k + 1) v = false := dv hj' (by rw [hv]; simp)
       simp (disch := first | omega | assumption | (intros; simp only [dl1]; try omega)) only [vb0, ne_eq, vb3, fK, vb1, jo, kk, AF hfn, hnm, d0, er', hv, hF]
      ·simp (disch := first | omega | assumption | (intros; simp only [dl1]; try omega)) only [vb0, ne_eq, vb3, fK, vb1, jo, kk, AF hfn, hnm, d0, er', hv]
       refine hR (0 + 1) _ ⟨by omega, Nat.le_succ_of_le hn, ?_, fx ha (by rw [hnm, hv]; rfl)⟩ (by omega)
       dsimp only
       rw [ae _ _ (by omega), ae _ _ (by omega)]; exact hg
     ·have d0 : decide ((0 : Int) < (j : Nat)) = true := decide_eq_true (by omega)
      have jm : ((j : Nat) : Int) - 1 = ((j - 1 : Nat) : Int) := by omega
      cases ho : Op.bytesLess (v.fields.getD (j - 1) default).name (v.fields.getD j default).name
      ·have hF : aF (k + 1) v = false := dv hj' (by unfold kr; rw [ho, decide_eq_false j0]; simp)
       simp (disch := first | omega | assumption | (intros; simp only [dl1]; try omega)) only [vb0, ne_eq, vb3, fK, vb1, jo, kk, AF hfn, hnm, d0, hg, jm, ho, hF]
      ·have ho' : kr v.fields j = true := by unfold kr; rw [ho]; simp
       cases hv : aF k (v.fields.getD j default).v
       ·have hF : aF (k + 1) v = false := dv hj' (by rw [hv]; simp)
        simp (disch := first | omega | assumption | (intros; simp only [dl1]; try omega)) only [vb0, ne_eq, vb3, fK, vb1, jo, kk, AF hfn, hnm, d0, hg, jm, ho, er', hv, hF]
       ·simp (disch := first | omega | assumption | (intros; simp only [dl1]; try omega)) only [vb0, ne_eq, vb3, fK, vb1, jo, kk, AF hfn, hnm, d0, hg, jm, ho, er', hv]
        refine hR (j + 1) _ ⟨by omega, Nat.le_succ_of_le hn, ?_, fx ha (by rw [hnm, ho', hv]; rfl)⟩ (by omega)
        dsimp only
        rw [ae _ _ (by omega), ae _ _ (by omega)]; exact hg
   ·have hj0 : j = v.fields.length := by omega
    subst hj0
    unfold aF
    rw [hd, hall, ha]; rfl
theorem e83 {k : Nat} {v : Val} (ov : okV v) (hk : k <= 1000) {d : Nat} {σ : AS} {K : AV -> AS -> Prop} : oC T0 d 83 [ak v, .i .i64 (k : Nat)] σ K = K (.b (aF k v)) σ := (c83 k v ov hk).eq d σ K
theorem head_two (v : Val) : fI v = (!(!scB v || decide ((64 : Int) < (v.list.length : Nat)) || decide ((64 : Int) < (v.fields.length : Nat))) && !(!decide (v.kind = 4) && decide ((0 : Int) < (v.list.length : Nat)) || !decide (v.kind = 5) && decide ((0 : Int) < (v.fields.length : Nat)))) := by
 have q1 : (0 : Int) < (v.list.length : Nat) ↔ 0 < v.list.length := by omega
 have q2 : (0 : Int) < (v.fields.length : Nat) ↔ 0 < v.fields.length := by omega
 have q3 : (64 : Int) < (v.list.length : Nat) ↔ ¬ v.list.length <= 64 := by omega
 have q4 : (64 : Int) < (v.fields.length : Nat) ↔ ¬ v.fields.length <= 64 := by omega
 unfold fI
 simp only [q1, q2, q3, q4, decide_not]
 cases scB v <;> cases decide (v.kind = 4) <;> cases decide (v.kind = 5) <;> cases decide (0 < v.list.length) <;> cases decide (0 < v.fields.length) <;> cases decide (v.list.length <= 64) <;> cases decide (v.fields.length <= 64) <;> rfl
theorem lG : type_of% (And.intro @gtt_14 (And.intro @gff_14 (And.intro @gtf_14 (And.intro @gft_14 (And.intro @gvv_14 (And.intro @gnt_14 @gnf_14)))))) := And.intro @gtt_14 (And.intro @gff_14 (And.intro @gtf_14 (And.intro @gft_14 (And.intro @gvv_14 (And.intro @gnt_14 @gnf_14)))))
theorem c57 : ∀ (k : Nat) (v : Val), okV v -> k <= 1000 -> R T0 57 [ak v, .i .i64 (k : Nat)] (.b (aF k v)) := by
 intro k
 induction k with
 | zero =>
  intro v ov _
  refine r57 _ _ (nQ v _) (nz v _) ?_
  unfold w57
  dsimp only [av]
  simp (disch := first | omega | assumption | (intros; simp only [dl1]; try omega)) only [vb0, ne_eq, vb3, eG, vb1, lG, vb2, Bool.true_and, Int.ofNat_zero, Int.natCast_zero]
  rfl
 | succ k ih =>
  intro v ov hk
  obtain ⟨ls, ll, lf, ol, of_⟩ := dA ov
  have er : ∀ x, okV x -> ∀ (d : Nat) (σ : AS) (K : AV -> AS -> Prop), oC T0 d 57 [ak x, .i .i64 (k : Nat)] σ K = K (.b (aF k x)) σ := fun x hx d σ K => (ih x hx (by omega)).eq d σ K
  have z0 : decide (((k + 1 : Nat) : Int) = 0) = false := decide_eq_false (by omega)
  have kk : ((k + 1 : Nat) : Int) - 1 = (k : Nat) := by omega
  refine r57 _ _ (nQ v _) (nz v _) ?_
  unfold w57
  dsimp only [av]
  simp (config := { maxSteps := 1000000 }) (disch := first | omega | assumption | (intros; simp only [dl1]; try omega)) only [vb0, ne_eq, vb3, eG, vb1, lG, vb2, Bool.true_and, z0, e91 ov]
  have h2 := head_two v
  generalize (!scB v || decide ((64 : Int) < (v.list.length : Nat)) || decide ((64 : Int) < (v.fields.length : Nat))) = b1 at h2 |-
  generalize (!decide (v.kind = 4) && decide ((0 : Int) < (v.list.length : Nat)) || !decide (v.kind = 5) && decide ((0 : Int) < (v.fields.length : Nat))) = b2 at h2 |-
  cases b1
  rotate_left
  ·rw [aD, lJ h2]
  cases b2
  rotate_left
  ·rw [aA, aD, lJ h2]
  rw [aA, aA]
  have hd : fI v = true := h2
  refine fL (X := Nat) (fun _ => .i .i64 ((k + 1 : Nat) : Int)) (fun _ => .ptr 0 0) (fun j => .i .i64 (j : Nat))
   (fun j σ => j <= v.list.length /\ σ.h.get 0 = some (.cells (ak v).cells 35 false) /\ (v.list.take j).all (aF k) = true) (fun j => v.list.length - j) ?_ 0 _ ⟨Nat.zero_le _, ah _ _ _, rfl⟩
  rintro R j σ ⟨hj, hg, ha⟩ hR
  simp (disch := first | omega | assumption | (intros; simp only [dl1]; try omega)) only [cm, cG, Nat.zero_add, cQ, hg, bN, jC, nJ, cd]
  refine aV (fun h => ?_) (fun h => ?_)
  ·have hj' : j < v.list.length := by omega
   have hm := ol _ (aS hj')
   have er' := er _ hm
   cases hv : aF k (v.list.getD j default)
   ·simp (disch := first | omega | assumption | (intros; simp only [dl1]; try omega)) only [vb0, ne_eq, vb3, eG, vb1, lG, kk, hg, er', hv, qc hj' hv]
   ·simp (disch := first | omega | assumption | (intros; simp only [dl1]; try omega)) only [vb0, ne_eq, vb3, eG, vb1, lG, kk, hg, er', hv]
    exact hR (j + 1) _ ⟨by omega, hg, aR (d := default) ha hj' hv⟩ (by omega)
  ·have hall := cF ha (by omega)
   clear hR ha
   refine fL (X := Nat) (fun _ => .i .i64 ((k + 1 : Nat) : Int)) (fun _ => .ptr 0 0) (fun j => .i .i64 (j : Nat))
    (fun j σ => j <= v.fields.length /\ σ.h.get 0 = some (.cells (ak v).cells 35 false) /\ (List.range j).all (fun i => nmB (v.fields.getD i default).name && kr v.fields i && aF k (v.fields.getD i default).v) = true) (fun j => v.fields.length - j) ?_ 0 _ ⟨Nat.zero_le _, hg, rfl⟩
   rintro R j σ ⟨hj, hg, ha⟩ hR
   simp (disch := first | omega | assumption | (intros; simp only [dl1]; try omega)) only [cm, cG, Nat.zero_add, cQ, hg, bN, gx, nI, cd]
   refine aV (fun h => ?_) (fun h => ?_)
   ·have hj' : j < v.fields.length := by omega
    obtain ⟨hfn, hfv⟩ := ml (of_ _ (aS hj'))
    have er' := er _ hfv
    cases hnm : nmB (v.fields.getD j default).name
    ·have hF : aF (k + 1) v = false := dv hj' (by rw [hnm]; rfl)
     simp (disch := first | omega | assumption | (intros; simp only [dl1]; try omega)) only [vb0, ne_eq, vb3, eG, vb1, lG, kk, hg, e92 hfn, hnm, hF]
    ·by_cases j0 : j = 0
     ·subst j0
      have d0 : decide ((0 : Int) < ((0 : Nat) : Int)) = false := rfl
      cases hv : aF k (v.fields.getD 0 default).v
      ·have hF : aF (k + 1) v = false := dv hj' (by rw [hv]; simp)
       simp (disch := first | omega | assumption | (intros; simp only [dl1]; try omega)) only [vb0, ne_eq, vb3, eG, vb1, lG, kk, hg, e92 hfn, hnm, d0, er', hv, hF]
      ·simp (disch := first | omega | assumption | (intros; simp only [dl1]; try omega)) only [vb0, ne_eq, vb3, eG, vb1, lG, kk, hg, e92 hfn, hnm, d0, er', hv]
       exact hR (0 + 1) _ ⟨by omega, hg, fx ha (by rw [hnm, hv]; rfl)⟩ (by omega)
     ·have d0 : decide ((0 : Int) < (j : Nat)) = true := decide_eq_true (by omega)
      have jm : ((j : Nat) : Int) - 1 = ((j - 1 : Nat) : Int) := by omega
      cases ho : Op.bytesLess (v.fields.getD (j - 1) default).name (v.fields.getD j default).name
      ·have hF : aF (k + 1) v = false := dv hj' (by unfold kr; rw [ho, decide_eq_false j0]; simp)
       simp (disch := first | omega | assumption | (intros; simp only [dl1]; try omega)) only [vb0, ne_eq, vb3, eG, vb1, lG, kk, e92 hfn, hnm, d0, hg, jm, ho, hF]
      ·have ho' : kr v.fields j = true := by unfold kr; rw [ho]; simp
       cases hv : aF k (v.fields.getD j default).v
       ·have hF : aF (k + 1) v = false := dv hj' (by rw [hv]; simp)
        simp (disch := first | omega | assumption | (intros; simp only [dl1]; try omega)) only [vb0, ne_eq, vb3, eG, vb1, lG, kk, e92 hfn, hnm, d0, hg, jm, ho, er', hv, hF]
       ·simp (disch := first | omega | assumption | (intros; simp only [dl1]; try omega)) only [vb0, ne_eq, vb3, eG, vb1, lG, kk, e92 hfn, hnm, d0, hg, jm, ho, er', hv]
        exact hR (j + 1) _ ⟨by omega, hg, fx ha (by rw [hnm, ho', hv]; rfl)⟩ (by omega)
   ·have hj0 : j = v.fields.length := by omega
    subst hj0
    try rw [jW]
    unfold aF
    rw [hd, hall, ha]; rfl
theorem e57 {k : Nat} {v : Val} (ov : okV v) (hk : k <= 1000) {d : Nat} {σ : AS} {K : AV -> AS -> Prop} : oC T0 d 57 [ak v, .i .i64 (k : Nat)] σ K = K (.b (aF k v)) σ := (c57 k v ov hk).eq d σ K
mutual
def ct : Val -> Nat
 | .mk _ _ _ l fs => 1 + bR l + bX fs
def sizeF : Fld -> Nat
 | .mk _ v => ct v
def bR : List Val -> Nat
 | [] => 0
 | v :: vs => ct v + bR vs
def bX : List Fld -> Nat
 | [] => 0
 | f :: fs => sizeF f + bX fs
end
theorem dV (v : Val) : ct v = 1 + bR v.list + bX v.fields := by cases v; rw [ct]; rfl
theorem kg (f : Fld) : sizeF f = ct f.v := by cases f; rw [sizeF]; rfl
theorem gI (a b : List Val) : bR (a ++ b) = bR a + bR b := by
 induction a with
 | nil => rw [List.nil_append, bR, Nat.zero_add]
 | cons x a ih => rw [List.cons_append, bR, bR, ih]; omega
theorem gJ (a b : List Fld) : bX (a ++ b) = bX a + bX b := by
 induction a with
 | nil => rw [List.nil_append, bX, Nat.zero_add]
 | cons x a ih => rw [List.cons_append, bX, bX, ih]; omega
theorem dF {α : Type} [Inhabited α] {l : List α} {j : Nat} (hj : j < l.length) : l.take (j + 1) = l.take j ++ [l.getD j default] := by
 rw [List.take_add_one, List.getD_eq_getElem?_getD, List.getElem?_eq_getElem hj]; rfl
theorem oB {l : List Val} {j : Nat} (hj : j < l.length) : bR (l.take (j + 1)) = bR (l.take j) + ct (l.getD j default) := by
 rw [dF hj, gI, bR, bR, Nat.add_zero]
theorem oK {l : List Fld} {j : Nat} (hj : j < l.length) : bX (l.take (j + 1)) = bX (l.take j) + ct (l.getD j default).v := by
 rw [dF hj, gJ, bX, bX, Nat.add_zero, kg]
theorem lW (x : Int) : IntKind.wrap .i64 x = (x + 9223372036854775808) % 18446744073709551616 - 9223372036854775808 := by
 have : IntKind.wrap .i64 x = if (x % 18446744073709551616) ≥ 9223372036854775808 then x % 18446744073709551616 - 18446744073709551616 else x % 18446744073709551616 := by
  unfold IntKind.wrap; simp [IntKind.bits, IntKind.signed]
 rw [this]
 split <;> omega
theorem xI (x : Int) : ∃ k : Int, IntKind.wrap .i64 x = x + 18446744073709551616 * k := ⟨-((x + 9223372036854775808) / 18446744073709551616), by rw [lW]; omega⟩
theorem wrap_add (a b : Int) : IntKind.wrap .i64 (IntKind.wrap .i64 a + IntKind.wrap .i64 b) = IntKind.wrap .i64 (a + b) := by
 obtain ⟨k, hk⟩ := xI a
 obtain ⟨m, hm⟩ := xI b
 rw [hk, hm, lW, lW]
 have : a + 18446744073709551616 * k + (b + 18446744073709551616 * m) + 9223372036854775808 = a + b + 9223372036854775808 + 18446744073709551616 * (k + m) := by omega
 rw [this, Int.add_mul_emod_self_left]
def szW (n : Nat) : Int := IntKind.wrap .i64 (n : Nat)
theorem pC (a b : Nat) : IntKind.wrap .i64 (szW a + szW b) = szW (a + b) := by unfold szW; rw [wrap_add]; congr 1
theorem szW_one : szW 1 = 1 := by unfold szW; rw [lW]; rfl
theorem c84 (m : Nat) : ∀ v : Val, SizeOf.sizeOf v <= m -> okV v -> R T0 84 [ak v] (.i .i64 (szW (ct v))) := by
 induction m with
 | zero => intro v h; obtain ⟨_, _, _, _, _⟩ := v; simp only [Val.mk.sizeOf_spec] at h; omega
 | succ m ih =>
  intro v hsz ov
  obtain ⟨ls, ll, lf, ol, of_⟩ := dA ov
  refine r84 _ (gk v) (iy v) ?_
  unfold w84
  dsimp only [av]
  simp (disch := first | omega | assumption | (intros; simp only [dl1]; try omega)) only [vb0, ne_eq, aZ, aC, vb1, bx]
  refine ij (X := Nat) (fun j => .i .i64 (szW (1 + bR (v.list.take j)))) (fun _ => .ptr 0 0) (fun _ => .lst (v.list.map ak)) (fun _ => .i .i64 (v.list.length : Nat)) (fun j => .i .i64 (j : Nat))
   (fun j σ => j <= v.list.length /\ 1 <= σ.n /\ σ.h.get 0 = some (.cells (ak v).cells 35 false)) (fun j => v.list.length - j) ?_ 0 _ ⟨Nat.zero_le _, Nat.le_refl _, ah _ _ _⟩
  rintro R j σ ⟨hj, hn, hg⟩ hR
  simp only [cm]
  refine aV (fun h => ?_) (fun h => ?_)
  ·have hj' : j < v.list.length := by omega
   have hm := aS hj'
   have er : ∀ (d : Nat) (σ : AS) (K : AV -> AS -> Prop), oC T0 d 84 [ak (v.list.getD j default)] σ K = K (.i .i64 (szW (ct (v.list.getD j default)))) σ := fun d σ K => (ih _ (by have := dp v hm; omega) (ol _ hm)).eq d σ K
   simp (disch := first | omega | assumption | (intros; simp only [dl1]; try omega)) only [vb0, ne_eq, aZ, aC, vb1, bx, er, pC, Nat.add_assoc, <- oB hj']
   refine hR (j + 1) _ ⟨by omega, Nat.le_succ_of_le hn, ?_⟩ (by omega)
   dsimp only
   rw [ae _ _ (by omega), ae _ _ (by omega)]; exact hg
  ·have hall : v.list.take j = v.list := List.take_of_length_le (by omega)
   rw [hall]
   clear hR
   simp (disch := first | omega | assumption | (intros; simp only [dl1]; try omega)) only [vb0, ne_eq, aZ, aC, vb1, bx, hg]
   refine kw (X := Nat) (fun j => .i .i64 (szW (1 + (bR v.list + bX (v.fields.take j))))) (fun _ => .lst (v.fields.map ay)) (fun _ => .i .i64 (v.fields.length : Nat)) (fun j => .i .i64 (j : Nat))
    (fun j σ => j <= v.fields.length) (fun j => v.fields.length - j) ?_ 0 _ (Nat.zero_le _)
   rintro R j σ hj hR
   simp only [cm]
   refine aV (fun h => ?_) (fun h => ?_)
   ·have hj' : j < v.fields.length := by omega
    have hm := aS hj'
    have er : ∀ (d : Nat) (σ : AS) (K : AV -> AS -> Prop), oC T0 d 84 [ak (v.fields.getD j default).v] σ K = K (.i .i64 (szW (ct (v.fields.getD j default).v))) σ := fun d σ K => (ih _ (by have := cr v hm; omega) (ml (of_ _ hm)).2).eq d σ K
    simp (disch := first | omega | assumption | (intros; simp only [dl1]; try omega)) only [vb0, ne_eq, aZ, aC, vb1, bx, er, pC, Nat.add_assoc, <- oK hj']
    exact hR (j + 1) _ (show j + 1 <= v.fields.length by omega) (by omega)
   ·have hall : v.fields.take j = v.fields := List.take_of_length_le (by omega)
    rw [hall, <- Nat.add_assoc, <- dV]
    try rw [pu]
theorem e84 {v : Val} (ov : okV v) {d : Nat} {σ : AS} {K : AV -> AS -> Prop} : oC T0 d 84 [ak v] σ K = K (.i .i64 (szW (ct v))) σ := (c84 _ v (Nat.le_refl _) ov).eq d σ K
theorem c58 (m : Nat) : ∀ v : Val, SizeOf.sizeOf v <= m -> okV v -> R T0 58 [ak v] (.i .i64 (szW (ct v))) := by
 induction m with
 | zero => intro v h; obtain ⟨_, _, _, _, _⟩ := v; simp only [Val.mk.sizeOf_spec] at h; omega
 | succ m ih =>
  intro v hsz ov
  obtain ⟨ls, ll, lf, ol, of_⟩ := dA ov
  refine r58 _ (gk v) (iy v) ?_
  unfold w58
  dsimp only [av]
  rw [bu]
  refine fL (X := Nat) (fun j => .i .i64 (szW (1 + bR (v.list.take j)))) (fun _ => .ptr 0 0) (fun j => .i .i64 (j : Nat))
   (fun j σ => j <= v.list.length /\ σ.h.get 0 = some (.cells (ak v).cells 35 false)) (fun j => v.list.length - j) ?_ 0 _ ⟨Nat.zero_le _, ah _ _ _⟩
  rintro R j σ ⟨hj, hg⟩ hR
  simp (disch := first | omega | assumption | (intros; simp only [dl1]; try omega)) only [cm, cG, Nat.zero_add, cQ, hg, bN, jC, nJ, cd]
  refine aV (fun h => ?_) (fun h => ?_)
  ·have hj' : j < v.list.length := by omega
   have hm := aS hj'
   have er : ∀ (d : Nat) (σ : AS) (K : AV -> AS -> Prop), oC T0 d 58 [ak (v.list.getD j default)] σ K = K (.i .i64 (szW (ct (v.list.getD j default)))) σ := fun d σ K => (ih _ (by have := dp v hm; omega) (ol _ hm)).eq d σ K
   simp (disch := first | omega | assumption | (intros; simp only [dl1]; try omega)) only [vb0, ne_eq, aZ, aC, vb1, bx, hg, er, pC, Nat.add_assoc, <- oB hj']
   exact hR (j + 1) _ ⟨by omega, hg⟩ (by omega)
  ·have hall : v.list.take j = v.list := List.take_of_length_le (by omega)
   rw [hall]
   clear hR
   refine fL (X := Nat) (fun j => .i .i64 (szW (1 + (bR v.list + bX (v.fields.take j))))) (fun _ => .ptr 0 0) (fun j => .i .i64 (j : Nat))
    (fun j σ => j <= v.fields.length /\ σ.h.get 0 = some (.cells (ak v).cells 35 false)) (fun j => v.fields.length - j) ?_ 0 _ ⟨Nat.zero_le _, hg⟩
   rintro R j σ ⟨hj, hg⟩ hR
   simp (disch := first | omega | assumption | (intros; simp only [dl1]; try omega)) only [cm, cG, Nat.zero_add, cQ, hg, bN, gx, nI, cd]
   refine aV (fun h => ?_) (fun h => ?_)
   ·have hj' : j < v.fields.length := by omega
    have hm := aS hj'
    have er : ∀ (d : Nat) (σ : AS) (K : AV -> AS -> Prop), oC T0 d 58 [ak (v.fields.getD j default).v] σ K = K (.i .i64 (szW (ct (v.fields.getD j default).v))) σ := fun d σ K => (ih _ (by have := cr v hm; omega) (ml (of_ _ hm)).2).eq d σ K
    simp (disch := first | omega | assumption | (intros; simp only [dl1]; try omega)) only [vb0, ne_eq, aZ, aC, vb1, bx, hg, er, pC, Nat.add_assoc, <- oK hj']
    exact hR (j + 1) _ ⟨by omega, hg⟩ (by omega)
   ·have hall : v.fields.take j = v.fields := List.take_of_length_le (by omega)
    rw [hall, <- Nat.add_assoc, <- dV]
    try rw [pu]
theorem e58 {v : Val} (ov : okV v) {d : Nat} {σ : AS} {K : AV -> AS -> Prop} : oC T0 d 58 [ak v] σ K = K (.i .i64 (szW (ct v))) σ := (c58 _ v (Nat.le_refl _) ov).eq d σ K
def ee (v : Val) : Bool := aF 12 v && decide (szW (ct v) <= 600)
theorem c54 (v : Val) (ov : okV v) : R T0 54 [ak v] (.b (ee v)) := by
 refine r54 _ (gk v) (iy v) ?_
 unfold w54
 dsimp only [av]
 have er : ∀ (d : Nat) (σ : AS) (K : AV -> AS -> Prop), oC T0 d 83 [ak v, .i .i64 12] σ K = K (.b (aF 12 v)) σ := fun d σ K => e83 (k := 12) ov (by decide)
 simp (disch := first | omega | assumption | (intros; simp only [dl1]; try omega)) only [vb4, ne_eq, eG, vb1, vb5, vb2, Bool.true_and, er, e84 ov]
 rfl
theorem e54 {v : Val} (ov : okV v) {d : Nat} {σ : AS} {K : AV -> AS -> Prop} : oC T0 d 54 [ak v] σ K = K (.b (ee v)) σ := (c54 v ov).eq d σ K
theorem c30 (v : Val) (ov : okV v) : R T0 30 [ak v] (.b (ee v)) := by
 refine r30 _ (gk v) (iy v) ?_
 unfold w30
 dsimp only [av]
 have er : ∀ (d : Nat) (σ : AS) (K : AV -> AS -> Prop), oC T0 d 57 [ak v, .i .i64 12] σ K = K (.b (aF 12 v)) σ := fun d σ K => e57 (k := 12) ov (by decide)
 simp (disch := first | omega | assumption | (intros; simp only [dl1]; try omega)) only [vb4, ne_eq, eG, vb1, vb5, vb2, Bool.true_and, er, e58 ov]
 rfl
theorem e30 {v : Val} (ov : okV v) {d : Nat} {σ : AS} {K : AV -> AS -> Prop} : oC T0 d 30 [ak v] σ K = K (.b (ee v)) σ := (c30 v ov).eq d σ K
def lr (s : List UInt8) : Val := .mk 3 0 s [] []
theorem okV_str {s : List UInt8} (hs : s.length <= 140737488351232) : okV (lr s) := .mk rfl rfl hs (by simp) (by simp) (fun x h => by cases h) (fun x h => by cases h)
theorem vld_str (s : List UInt8) : ee (lr s) = txB s := by
 have h1 : szW (ct (lr s)) = 1 := by
  have : ct (lr s) = 1 := by rw [dV]; show 1 + bR [] + bX [] = 1; rw [bR, bX]
  rw [this, szW_one]
 have h2 : aF 12 (lr s) = txB s := by
  show (fI (lr s) && ([] : List Val).all (aF 11) && (List.range 0).all _) = txB s
  have : fI (lr s) = txB s := by
   unfold fI scB lr Val.kind Val.n Val.s Val.list Val.fields; simp
  rw [this]; simp
 unfold ee; rw [h1, h2]; simp
theorem bld_35 (s : List UInt8) : bF T0 35 [(0, .i .i64 3), (2, .s s)] = some (.agg [.i .i64 3, .i .i64 0, .s s, .nilz true, .nilz true]) := by kernel_rfl
theorem c61 (s : List UInt8) : R T0 61 [.s s] (ak (lr s)) := by
 refine r61 _ rfl rfl ?_
 unfold w61
 dsimp only [av]
 rw [bu, bld_35, aa, kP ic rfl rfl rfl, aH, dk (ah _ _ _) (Nat.zero_le _), List.drop_zero, lM]
 refine ⟨1, _, rfl, ?_⟩
 rw [ax]; rfl
theorem e61 {s : List UInt8} {d : Nat} {σ : AS} {K : AV -> AS -> Prop} : oC T0 d 61 [.s s] σ K = K (ak (lr s)) σ := (c61 s).eq d σ K
def bt (x : XStep) : Bool := if x.kind_ = 1 then nmB x.name_ && decide (x.index_ = 0) && decide (x.value_.length = 0) else if x.kind_ = 2 then decide (0 <= x.index_) && decide (x.index_ <= 64) && decide (x.name_.length = 0) && decide (x.value_.length = 0)
 else if x.kind_ = 3 then nmB x.name_ && decide (x.index_ = 0) && txB x.value_ else false
theorem vb7 : type_of% (And.intro @cQ (And.intro @bN (And.intro @ah (And.intro @ae (And.intro @yg @fS))))) := And.intro @cQ (And.intro @bN (And.intro @ah (And.intro @ae (And.intro @yg @fS))))
theorem c35 (x : XStep) (ox : bz x) : R T0 35 [am x] (.b (bt x)) := by
 have hn : x.name_.length <= 140737488351232 := ox.2.1
 have hv : x.value_.length <= 140737488351232 := ox.2.2.2
 have es : ∀ (d : Nat) (σ : AS) (K : AV -> AS -> Prop), oC T0 d 54 [ak (lr x.value_)] σ K = K (.b (txB x.value_)) σ := fun d σ K => by rw [e54 (okV_str hv), vld_str]
 refine r35 _ rfl rfl ?_
 unfold w35
 dsimp only [av]
 by_cases k1 : x.kind_ = 1
 ·simp (disch := first | omega | assumption | (intros; simp only [dl0]; try omega)) only [vb0, ne_eq, eG, fK, vb8, vb7, bx, vb5, hP, vb2, Bool.true_and, e60 hn, decide_eq_true k1]
  unfold bt; rw [if_pos k1]
 ·by_cases k2 : x.kind_ = 2
  ·simp (disch := first | omega | assumption | (intros; simp only [dl0]; try omega)) only [vb0, ne_eq, eG, fK, vb8, vb7, bx, vb5, hP, vb2, Bool.true_and, e60 hn, decide_eq_false k1, decide_eq_true k2]
   unfold bt; rw [if_neg k1, if_pos k2]
  ·by_cases k3 : x.kind_ = 3
   ·simp (disch := first | omega | assumption | (intros; simp only [dl0]; try omega)) only [vb0, ne_eq, eG, fK, vb8, vb7, bx, vb5, hP, vb2, Bool.true_and, e60 hn, e61, es, decide_eq_false k1, decide_eq_false k2, decide_eq_true k3]
    unfold bt; rw [if_neg k1, if_neg k2, if_pos k3]
   ·simp (disch := first | omega | assumption | (intros; simp only [dl0]; try omega)) only [vb0, ne_eq, eG, fK, vb8, vb7, bx, vb5, hP, vb2, Bool.true_and, e60 hn, decide_eq_false k1, decide_eq_false k2, decide_eq_false k3]
    unfold bt; rw [if_neg k1, if_neg k2, if_neg k3]
theorem e35 {x : XStep} (ox : bz x) {d : Nat} {σ : AS} {K : AV -> AS -> Prop} : oC T0 d 35 [am x] σ K = K (.b (bt x)) σ := (c35 x ox).eq d σ K
theorem c36 (x : XStep) (ox : bz x) : R T0 36 [am x] (.b (bt x)) := by
 have hn : x.name_.length <= 140737488351232 := ox.2.1
 have hv : x.value_.length <= 140737488351232 := ox.2.2.2
 refine r36 _ rfl rfl ?_
 unfold w36
 dsimp only [av]
 by_cases k1 : x.kind_ = 1
 ·simp (disch := first | omega | assumption | (intros; simp only [dl0]; try omega)) only [vb0, ne_eq, eG, fK, vb8, vb7, bx, vb5, vb2, Bool.true_and, e62 hn, decide_eq_true k1]
  unfold bt; rw [if_pos k1]
 ·by_cases k2 : x.kind_ = 2
  ·simp (disch := first | omega | assumption | (intros; simp only [dl0]; try omega)) only [vb0, ne_eq, eG, fK, vb8, vb7, bx, vb5, vb2, Bool.true_and, e62 hn, decide_eq_false k1, decide_eq_true k2]
   unfold bt; rw [if_neg k1, if_pos k2]
  ·by_cases k3 : x.kind_ = 3
   ·simp (disch := first | omega | assumption | (intros; simp only [dl0]; try omega)) only [vb0, ne_eq, eG, fK, vb8, vb7, bx, vb5, vb2, Bool.true_and, e62 hn, e63 hv, decide_eq_false k1, decide_eq_false k2, decide_eq_true k3]
    unfold bt; rw [if_neg k1, if_neg k2, if_pos k3]
    cases nmB x.name_ <;> cases txB x.value_ <;> cases decide (x.index_ = 0) <;> rfl
   ·simp (disch := first | omega | assumption | (intros; simp only [dl0]; try omega)) only [vb0, ne_eq, eG, fK, vb8, vb7, bx, vb5, vb2, Bool.true_and, e62 hn, decide_eq_false k1, decide_eq_false k2, decide_eq_false k3]
    unfold bt; rw [if_neg k1, if_neg k2, if_neg k3]; try rfl
theorem e36 {x : XStep} (ox : bz x) {d : Nat} {σ : AS} {K : AV -> AS -> Prop} : oC T0 d 36 [am x] σ K = K (.b (bt x)) σ := (c36 x ox).eq d σ K
def dw (p : List XStep) : Bool := decide (p.length <= 16) && p.all bt
theorem eq50 (a b : XStep) : jV T0 20 50 (am a) (am b) = some ((a.kind_ == b.kind_) && ((a.name_ == b.name_) && ((a.index_ == b.index_) && ((a.value_ == b.value_) && true)))) := by kernel_rfl
theorem step_beq (a b : XStep) : ((a.kind_ == b.kind_) && ((a.name_ == b.name_) && ((a.index_ == b.index_) && ((a.value_ == b.value_) && true)))) = decide (a = b) := by
 rw [Bool.eq_iff_iff]
 cases a; cases b
 simp [XStep.mk.injEq]
theorem bne_50 (a b : XStep) (c : Bool) : af T0 .neq 50 c (am a) (am b) = some (.b (!decide (a = b))) := by
 have h : T0.eq 50 = true := by kernel_rfl
 have e : af T0 .neq 50 c (am a) (am b) = (match BinOp.neq, T0.eq 50 with
  | .eql, true => (jV T0 20 50 (am a) (am b)).map .b
  | .neq, true => (jV T0 20 50 (am a) (am b)).map fun r => .b (!r)
  | _, _ => none) := rfl
 rw [e, h, eq50, step_beq]; rfl
theorem c34 (x : XStep) (ox : bz x) : R T0 34 [am x] (.b (!bt x)) := by
 refine r34 _ rfl rfl ?_
 unfold w34
 dsimp only [av]
 simp (disch := first | omega | assumption | (intros; simp only [dl0]; try omega)) only [vb0, ne_eq, vb7, e35 ox]
theorem e34 {x : XStep} (ox : bz x) {d : Nat} {σ : AS} {K : AV -> AS -> Prop} : oC T0 d 34 [am x] σ K = K (.b (!bt x)) σ := (c34 x ox).eq d σ K
theorem xn {α : Type} {q : α -> Bool} {l : List α} {j : Nat} {d : α} (ha : (l.take j).all (fun x => !q x) = true) (hj : j < l.length) (hp : q (l.getD j d) = true) : l.findIdx q = j := by
 rw [List.findIdx_eq hj]
 have hg : l.getD j d = l[j] := by simp [List.getD_eq_getElem?_getD, hj]
 refine ⟨by rw [<- hg]; exact hp, fun i hi => ?_⟩
 rw [List.all_eq_true] at ha
 have : l[i] ∈ l.take j := by
  rw [List.mem_take_iff_getElem]
  exact ⟨i, by omega, rfl⟩
 simpa using ha _ this
def cS {α : Type} (q : α -> Bool) (l : List α) : Int := if l.findIdx q < l.length then (l.findIdx q : Nat) else -1
theorem jA {α : Type} {q : α -> Bool} {l : List α} {j : Nat} {d : α} (ha : (l.take j).all (fun x => !q x) = true) (hj : j < l.length) (hp : q (l.getD j d) = true) : cS q l = (j : Nat) := by
 unfold cS; rw [xn ha hj hp, if_pos hj]
theorem ik {α : Type} {q : α -> Bool} {l : List α} (ha : l.all (fun x => !q x) = true) : cS q l = -1 := by
 have : l.findIdx q = l.length := by
  rw [List.findIdx_eq_length]
  intro x hx
  rw [List.all_eq_true] at ha
  simpa using ha x hx
 unfold cS; rw [this, if_neg (by omega)]
theorem idxB_ge {α : Type} (q : α -> Bool) (l : List α) : decide (0 <= cS q l) = l.any q := by
 unfold cS
 cases h : l.any q
 ·have : ¬ l.findIdx q < l.length := by
   intro hlt
   have := List.findIdx_lt_length.1 hlt
   obtain ⟨x, hx, hq⟩ := this
   rw [List.any_eq_false] at h
   exact h x hx hq
  rw [if_neg this]; rfl
 ·have : l.findIdx q < l.length := by
   rw [List.any_eq_true] at h
   exact List.findIdx_lt_length.2 h
  rw [if_pos this]; simp
theorem hJ : type_of% (And.intro @aC (And.intro @dK @vE)) := And.intro @aC (And.intro @dK @vE)
theorem c59 (p : List XStep) (hp : p.length <= 140737488351232) (ox : ∀ x ∈ p, bz x) : R T0 59 [.lst (p.map am), .fn 34 [] []] (.i .i64 (cS (fun x => !bt x) p)) := by
 refine r59 _ _ rfl rfl ?_
 unfold w59
 dsimp only [av]
 simp (disch := first | omega | assumption | (intros; simp only [dl0]; try omega)) only [aa, dK, cd]
 refine kw (X := Nat) (fun _ => .lst (p.map am)) (fun _ => .fn 34 [] []) (fun _ => .i .i64 (p.length : Nat)) (fun j => .i .i64 (j : Nat)) (fun j σ => j <= p.length /\ (p.take j).all (fun x => !(!bt x)) = true) (fun j => p.length - j) ?_ 0 _ ⟨Nat.zero_le _, rfl⟩
 rintro R j σ ⟨hj, ha⟩ hR
 simp only [cm]
 refine aV (fun h => ?_) (fun h => ?_)
 ·have hj' : j < p.length := by omega
  have e34' := fun (d : Nat) (σ : AS) (K : AV -> AS -> Prop) => e34 (ox _ (aS hj')) (d := d) (σ := σ) (K := K)
  cases hs : bt (p.getD j default)
  ·simp (disch := first | omega | assumption | (intros; simp only [dl0]; try omega)) only [vb0, ne_eq, aZ, hJ, vb7, lv, List.nil_append, List.append_nil, e34', hs]
   rw [jA (d := default) ha hj' (by rw [hs]; rfl)]
  ·simp (disch := first | omega | assumption | (intros; simp only [dl0]; try omega)) only [vb0, ne_eq, aZ, hJ, vb7, lv, List.nil_append, List.append_nil, e34', hs]
   exact hR (j + 1) _ ⟨by omega, aR (d := default) ha hj' (by rw [hs]; rfl)⟩ (by omega)
 ·rw [ik (cF ha (by omega)), pu]
theorem c33 (p : List XStep) (hp : p.length <= 140737488351232) (ox : ∀ x ∈ p, bz x) : R T0 33 [.lst (p.map am), .fn 34 [] []] (.b (!p.all bt)) := by
 refine r33 _ _ rfl rfl ?_
 unfold w33
 dsimp only [av]
 have e : ∀ (d : Nat) (σ : AS) (K : AV -> AS -> Prop), oC T0 d 59 [.lst (p.map am), .fn 34 [] []] σ K = K (.i .i64 (cS (fun x => !bt x) p)) σ := fun d σ K => (c59 p hp ox).eq d σ K
 simp (disch := first | omega | assumption | (intros; simp only [dl0]; try omega)) only [vb4, ne_eq, fK, e, idxB_ge]
 rw [List.not_all_eq_any_not]
theorem c13 (p : List XStep) (hp : p.length <= 140737488351232) (ox : ∀ x ∈ p, bz x) : R T0 13 [.lst (p.map am)] (.b (dw p)) := by
 refine r13 _ rfl rfl ?_
 unfold w13
 dsimp only [av]
 have e : ∀ (d : Nat) (σ : AS) (K : AV -> AS -> Prop), oC T0 d 33 [.lst (p.map am), .fn 34 [] []] σ K = K (.b (!p.all bt)) σ := fun d σ K => (c33 p hp ox).eq d σ K
 have q : ((p.length : Nat) : Int) <= 16 ↔ p.length <= 16 := by omega
 simp (disch := first | omega | assumption | (intros; simp only [dl0]; try omega)) only [vb0, ne_eq, eG, dK, vb5, vb2, Bool.true_and, e, q]
 rfl
theorem e13 {p : List XStep} (hp : p.length <= 140737488351232) (ox : ∀ x ∈ p, bz x) {d : Nat} {σ : AS} {K : AV -> AS -> Prop} : oC T0 d 13 [.lst (p.map am)] σ K = K (.b (dw p)) σ := (c13 p hp ox).eq d σ K
theorem c14 (p : List XStep) (hp : p.length <= 140737488351232) (ox : ∀ x ∈ p, bz x) : R T0 14 [.lst (p.map am)] (.b (dw p)) := by
 refine r14 _ rfl rfl ?_
 unfold w14
 dsimp only [av]
 refine sC (X := Nat) (fun _ => .lst (p.map am)) (fun j => .i .i64 (j : Nat)) (fun j σ => j <= p.length /\ (p.take j).all bt = true) (fun j => p.length - j) ?_ 0 _ ⟨Nat.zero_le _, rfl⟩
 rintro R j σ ⟨hj, ha⟩ hR
 simp (disch := first | omega | assumption | (intros; simp only [dl0]; try omega)) only [cm, dK, cd]
 refine aV (fun h => ?_) (fun h => ?_)
 ·have hj' : j < p.length := by omega
  have e36' := fun (d : Nat) (σ : AS) (K : AV -> AS -> Prop) => e36 (ox _ (aS hj')) (d := d) (σ := σ) (K := K)
  cases hs : bt (p.getD j default)
  ·simp (disch := first | omega | assumption | (intros; simp only [dl0]; try omega)) only [vb0, ne_eq, aZ, eG, hJ, vb7, e36', hs]
   unfold dw; rw [eB (d := default) hj' hs, Bool.and_false]
  ·simp (disch := first | omega | assumption | (intros; simp only [dl0]; try omega)) only [vb0, ne_eq, aZ, eG, hJ, vb7, e36', hs]
   exact hR (j + 1) _ ⟨by omega, aR (d := default) ha hj' hs⟩ (by omega)
 ·have q : ((p.length : Nat) : Int) <= 16 ↔ p.length <= 16 := by omega
  simp (disch := first | omega | assumption | (intros; simp only [dl0]; try omega)) only [vb0, ne_eq, aZ, eG, hJ, vb7, q]
  unfold dw; rw [cF ha (by omega), Bool.and_true]
theorem e14 {p : List XStep} (hp : p.length <= 140737488351232) (ox : ∀ x ∈ p, bz x) {d : Nat} {σ : AS} {K : AV -> AS -> Prop} : oC T0 d 14 [.lst (p.map am)] σ K = K (.b (dw p)) σ := (c14 p hp ox).eq d σ K
theorem rA {α : Type} {enc : α -> AV} {z : Nat} (h : ∀ x, (enc x).cells.length = z) (l : List α) : kL z (l.map enc) = true := by
 induction l with
 | nil => rfl
 | cons x l ih => simp only [List.map_cons, kL, h, Nat.beq_refl, ih, Bool.and_self]
theorem sl_pre {α : Type} {T : Tab} {enc : α -> AV} {t e z : Nat} {l : List α} {n : Nat} {k : IntKind} (ht : T.ty t = some (.slice e)) (hz : T.sz e = some (z + 1)) (hE : ∀ x, (enc x).cells.length = z + 1) (hn : n <= l.length) : cX T t (.lst (l.map enc)) none (some (.i k (n : Nat))) none = some (.lst ((l.take n).map enc)) := by
 have b1 : eU (l.map enc).length (l.map enc).length (some (.i k (n : Nat))) = some n := by
  simp only [eU, bnd, List.length_map]; rw [if_pos ⟨by omega, by omega⟩]; simp
 have b : bK (l.map enc).length none none (some (.i k (n : Nat))) none = some (0, n, none) := by
  simp only [bK, Option.getD_none, eU]
  simp only [eU] at b1
  rw [b1]
 unfold cX
 simp only [ht, hz, b, rA hE, List.drop_zero, Nat.sub_zero, List.map_take]
theorem wN {α : Type} {T : Tab} {enc : α -> AV} {t e z : Nat} {l : List α} {n : Nat} {k : IntKind} (ht : T.ty t = some (.slice e)) (hz : T.sz e = some (z + 1)) (hE : ∀ x, (enc x).cells.length = z + 1) (hn : n <= l.length) : cX T t (.lst (l.map enc)) (some (.i k (n : Nat))) none none = some (.lst ((l.drop n).map enc)) := by
 have b1 : eU (l.map enc).length 0 (some (.i k (n : Nat))) = some n := by
  simp only [eU, bnd, List.length_map]; rw [if_pos ⟨by omega, by omega⟩]; simp
 have b : bK (l.map enc).length none (some (.i k (n : Nat))) none none = some (n, (l.map enc).length, none) := by
  simp only [bK, Option.getD_none, eU, b1]
  simp only [eU] at b1
  rw [b1]
 have e2 : (l.map enc).drop n = (l.drop n).map enc := by rw [List.map_drop]
 have e3 : ((l.drop n).map enc).take ((l.map enc).length - n) = (l.drop n).map enc := List.take_of_length_le (by simp)
 unfold cX
 simp only [ht, hz, b, rA hE, e2, e3]
theorem ty22 : T0.ty 22 = some (.slice 50) := by kernel_rfl
theorem slS_suf {p : List XStep} {h : Tr AB} {n : Nat} {k : IntKind} (hn : n <= p.length) : aL T0 h 22 (.lst (p.map am)) (some (.i k (n : Nat))) none none = some (.lst ((p.drop n).map am)) := iv (wN ty22 sz_50 (fun _ => rfl) hn)
theorem tC {α : Type} [Inhabited α] {a b : List α} {j : Nat} (ha : j < a.length) (hb : j < b.length) (h : a.take j = b.take j) (he : a.getD j default = b.getD j default) : a.take (j + 1) = b.take (j + 1) := by
 rw [dF ha, dF hb, h, he]
theorem take_ne {α : Type} [Inhabited α] {a b : List α} {j : Nat} (he : ¬ a.getD j default = b.getD j default) : ¬ a = b := fun e => he (by rw [e])
theorem c37 (a b : List XStep) (ha : a.length <= 140737488351232) (hb : b.length <= 140737488351232) : R T0 37 [.lst (a.map am), .lst (b.map am)] (.b (decide (a = b))) := by
 refine r37 _ _ rfl rfl ?_
 unfold w37
 dsimp only [av]
 by_cases hl : a.length = b.length
 ·have hl' : decide (((a.length : Nat) : Int) = (b.length : Nat)) = true := decide_eq_true (by omega)
  simp (disch := first | omega | assumption | (intros; simp only [dl0]; try omega)) only [vb0, ne_eq, aZ, eH, hJ, vb7, hl']
  refine kw (X := Nat) (fun _ => .lst (b.map am)) (fun _ => .lst (a.map am)) (fun _ => .i .i64 (a.length : Nat)) (fun j => .i .i64 (j : Nat)) (fun j σ => j <= a.length /\ a.take j = b.take j) (fun j => a.length - j) ?_ 0 _ ⟨Nat.zero_le _, rfl⟩
  rintro R j σ ⟨hj, ht⟩ hR
  simp only [cm]
  refine aV (fun h => ?_) (fun h => ?_)
  ·have hj' : j < a.length := by omega
   by_cases q : a.getD j default = b.getD j default
   ·simp (disch := first | omega | assumption | (intros; simp only [dl0]; try omega)) only [vb0, ne_eq, aZ, eH, hJ, vb7, bne_50, decide_eq_true q]
    exact hR (j + 1) _ ⟨by omega, tC hj' (by omega) ht q⟩ (by omega)
   ·simp (disch := first | omega | assumption | (intros; simp only [dl0]; try omega)) only [vb0, ne_eq, aZ, eH, hJ, vb7, bne_50, decide_eq_false q]
    rw [decide_eq_false (take_ne q)]
  ·have : a = b := by
    have h1 : a.take j = a := List.take_of_length_le (by omega)
    have h2 : b.take j = b := List.take_of_length_le (by omega)
    rw [<- h1, ht, h2]
   try rw [jW]
   rw [decide_eq_true this]
 ·have hl' : decide (((a.length : Nat) : Int) = (b.length : Nat)) = false := decide_eq_false (by omega)
  simp (disch := first | omega | assumption | (intros; simp only [dl0]; try omega)) only [vb0, ne_eq, aZ, eH, hJ, vb7, hl']
  rw [decide_eq_false (fun e => hl (by rw [e]))]
def ub (p : List XStep) : Bool := decide (p.length <= 20) && p.all (fun x => decide (x.name_.length <= 300) && decide (x.value_.length <= 300))
theorem c11 (p : List XStep) (hp : p.length <= 140737488351232) (ox : ∀ x ∈ p, bz x) : R T0 11 [.lst (p.map am)] (.b (ub p)) := by
 refine r11 _ rfl rfl ?_
 unfold w11
 dsimp only [av]
 by_cases hl : p.length <= 20
 ·have hl' : decide ((20 : Int) < (p.length : Nat)) = false := decide_eq_false (by omega)
  simp (disch := first | omega | assumption | (intros; simp only [dl0]; try omega)) only [dK, cd, aa, cy, hl', aA]
  refine fL (X := Nat) (fun _ => .lst (p.map am)) (fun _ => .i .i64 (p.length : Nat)) (fun j => .i .i64 (j : Nat)) (fun j σ => j <= p.length /\ (p.take j).all (fun x => decide (x.name_.length <= 300) && decide (x.value_.length <= 300)) = true) (fun j => p.length - j) ?_ 0 _ ⟨Nat.zero_le _, rfl⟩
  rintro R j σ ⟨hj, ha⟩ hR
  simp only [cm]
  refine aV (fun h => ?_) (fun h => ?_)
  ·have hj' : j < p.length := by omega
   have no : (decide ((p.getD j default).name_.length <= 300) && decide ((p.getD j default).value_.length <= 300)) = false -> ub p = false := fun q => by
    unfold ub; rw [eB (p := fun x : XStep => decide (x.name_.length <= 300) && decide (x.value_.length <= 300)) (d := default) hj' q, Bool.and_false]
   by_cases q1 : (p.getD j default).name_.length <= 300
   ·have q1' : decide ((300 : Int) < ((p.getD j default).name_.length : Nat)) = false := decide_eq_false (by omega)
    by_cases q2 : (p.getD j default).value_.length <= 300
    ·have q2' : decide ((300 : Int) < ((p.getD j default).value_.length : Nat)) = false := decide_eq_false (by omega)
     simp (disch := first | omega | assumption | (intros; simp only [dl0]; try omega)) only [vb0, ne_eq, aZ, iF, hJ, vb7, bx, dB, hP, q1', q2']
     exact hR (j + 1) _ ⟨by omega, aR (d := default) ha hj' (by rw [decide_eq_true q1, decide_eq_true q2]; rfl)⟩ (by omega)
    ·have q2' : decide ((300 : Int) < ((p.getD j default).value_.length : Nat)) = true := decide_eq_true (by omega)
     simp (disch := first | omega | assumption | (intros; simp only [dl0]; try omega)) only [vb0, ne_eq, aZ, iF, hJ, vb7, bx, dB, hP, q1', q2', no (by rw [decide_eq_false q2, Bool.and_false])]
   ·have q1' : decide ((300 : Int) < ((p.getD j default).name_.length : Nat)) = true := decide_eq_true (by omega)
    simp (disch := first | omega | assumption | (intros; simp only [dl0]; try omega)) only [vb0, ne_eq, aZ, iF, hJ, vb7, bx, dB, hP, q1', no (by rw [decide_eq_false q1, Bool.false_and])]
  ·try rw [jW]
   unfold ub; rw [decide_eq_true hl, cF ha (by omega)]; rfl
 ·have hl' : decide ((20 : Int) < (p.length : Nat)) = true := decide_eq_true (by omega)
  simp (disch := first | omega | assumption | (intros; simp only [dl0]; try omega)) only [dK, cd, aa, cy, hl', aD, jW]
  unfold ub; rw [decide_eq_false hl, Bool.false_and]
theorem e11 {p : List XStep} (hp : p.length <= 140737488351232) (ox : ∀ x ∈ p, bz x) {d : Nat} {σ : AS} {K : AV -> AS -> Prop} : oC T0 d 11 [.lst (p.map am)] σ K = K (.b (ub p)) σ := (c11 p hp ox).eq d σ K
theorem c12 : R T0 12 [] (.b true) := ⟨200, fun σ => by kernel_rfl⟩
theorem e12 {d : Nat} {σ : AS} {K : AV -> AS -> Prop} : oC T0 d 12 [] σ K = K (.b true) σ := c12.eq d σ K
def bA (c : UInt8) : AV := .i .u8 (c.toNat : Nat)
def OwnB (h : Tr AB) (n : Nat) (l : List UInt8) : Option Nat -> Prop
 | none => l = []
 | some b => l ≠ [] /\ b < n /\ h.get b = some (.cells (l.map bA) 5 true)
def Bld (h : Tr AB) (n id : Nat) (l : List UInt8) (o : Option Nat) : Prop := id < n /\ (∃ a g, h.get id = some (.cells [a, vOf o l.length] 65 g) /\ (a = .nilp ∨ a = .ptr id 0)) /\ OwnB h n l o /\ ∀ i, o = some i -> i ≠ id
theorem tB : T0.ty 63 = some (.slice 5) := by kernel_rfl
theorem yo (l : List UInt8) : aO (l.map bA) = true := by
 induction l with
 | nil => rfl
 | cons c l ih => simp only [List.map_cons, aO]; exact ih
theorem zH (l : List UInt8) : bytesOf (l.map bA) = some l := by
 induction l with
 | nil => rfl
 | cons c l ih =>
  have e : bytesOf ((c :: l).map bA) = (bytesOf (l.map bA)).map (UInt8.ofNat ((c.toNat : Nat) : Int).toNat :: ·) := rfl
  rw [e, ih]
  simp
theorem small1 {n : Nat} (h : n <= 140737488351232) : cq n 1 = true := by
 unfold cq
 rw [Nat.ble_eq_true_of_le h, Nat.ble_eq_true_of_le (by omega), Nat.ble_eq_true_of_le (by omega)]; rfl
theorem appB {h : Tr AB} {n : Nat} {l xs : List UInt8} {o : Option Nat} {x : AV} {xt : Nat} {xd : TypeDesc} (ho : OwnB h n l o) (hxt : T0.ty xt = some xd) (hxd : xd = .string ∨ ∃ e, xd = .slice e) (hlen : iW x = some xs.length) (hnew : bM h 1 xs.length x = some (xs.map bA)) (hs : (l ++ xs).length <= 140737488351232) (hne : xs ≠ []) :
  aG T0 ⟨h, n⟩ 63 xt (vOf o l.length) x = some (vOf (some n) (l ++ xs).length, ⟨(gg h o).put n (some (.cells ((l ++ xs).map bA) 5 true)), n + 1⟩) := by
 have hz : T0.sz 5 = some 1 := by kernel_rfl
 have hb : T0.by_ 5 = some 1 := by kernel_rfl
 obtain ⟨zv, hzv⟩ : ∃ zv, T0.zr 5 = some zv := Option.isSome_iff_exists.1 (by kernel_rfl)
 obtain ⟨m, hm⟩ : ∃ m, xs.length = m + 1 := by
  cases xs with
  | nil => exact absurd rfl hne
  | cons a b => exact ⟨b.length, rfl⟩
 rw [List.length_append] at hs
 rw [hm] at hlen hnew hs
 have hsm := small1 hs
 unfold aG
 rcases hxd with rfl | ⟨e, rfl⟩
 all_goals
  simp only [tB, hz, hb, hxt, hlen, hzv, Nat.zero_add, hnew]
  cases o with
  | none =>
   have hl : l = [] := ho
   subst hl
   simp only [List.length_nil, Nat.zero_add] at hsm
   simp only [vOf, List.length_nil, hsm, iD, gg, List.nil_append, hm]
  | some b =>
   obtain ⟨h1, h2, h3⟩ := ho
   have b1 : Nat.beq 5 5 = true := rfl
   have b2 : Nat.beq (l.length * 1) (l.map bA).length = true := by rw [List.length_map, Nat.mul_one]; exact Nat.beq_refl _
   simp only [vOf, h3, yo, hsm, b1, b2, gg, List.map_append, List.length_append, hm]
theorem appB0 {h : Tr AB} {n : Nat} {l : List UInt8} {o : Option Nat} {x : AV} {xt : Nat} {xd : TypeDesc} (ho : OwnB h n l o) (hxt : T0.ty xt = some xd) (hxd : xd = .string ∨ ∃ e, xd = .slice e) (hlen : iW x = some 0) (hnew : bM h 1 0 x = some []) :
  aG T0 ⟨h, n⟩ 63 xt (vOf o l.length) x = some (vOf o l.length, ⟨h, n⟩) := by
 have hz : T0.sz 5 = some 1 := by kernel_rfl
 have hb : T0.by_ 5 = some 1 := by kernel_rfl
 obtain ⟨zv, hzv⟩ : ∃ zv, T0.zr 5 = some zv := Option.isSome_iff_exists.1 (by kernel_rfl)
 unfold aG
 rcases hxd with rfl | ⟨e, rfl⟩
 all_goals
  simp only [tB, hz, hb, hxt, hlen, hzv, Nat.zero_add, hnew]
  cases o <;> rfl
def BldTo (h : Tr AB) (n id : Nat) (o : Option Nat) (l' : List UInt8) (σ' : AS) : Prop := ∃ o', Bld σ'.h σ'.n id l' o' /\ n <= σ'.n /\ (∀ j, j < n -> j ≠ id -> o ≠ some j -> σ'.h.get j = h.get j) /\ (∀ i, o' = some i -> o = some i ∨ n <= i)
theorem e98 (x : AV) {d : Nat} {σ : AS} {K : AV -> AS -> Prop} : oC T0 d 98 [x] σ K = K x σ := by
 have hp : T0.prim 98 = some iP := by kernel_rfl
 have : R T0 98 [x] x := ⟨1, fun σ => by unfold aE; simp only [hp, iP]⟩
 exact this.eq d σ K
theorem cv1 {h : Tr AB} {id : Nat} {a b : AV} {e : Nat} {g : Bool} (hg : h.get id = some (.cells [a, b] e g)) : cV T0 h 62 106 (.ptr id 0) = some (.ptr id 0) := by
 have h1 : T0.ty 62 = some (.pointer 65) := by kernel_rfl
 have h2 : T0.ty 106 = some .unsafePointer := by kernel_rfl
 have h3 : T0.sz 65 = some 2 := by kernel_rfl
 unfold cV; simp only [h1, h2, hg, h3]
theorem cv2 {h : Tr AB} {id : Nat} {a b : AV} {g : Bool} (hg : h.get id = some (.cells [a, b] 65 g)) : cV T0 h 106 62 (.ptr id 0) = some (.ptr id 0) := by
 have h1 : T0.ty 62 = some (.pointer 65) := by kernel_rfl
 have h2 : T0.ty 106 = some .unsafePointer := by kernel_rfl
 have h3 : T0.sz 65 = some 2 := by kernel_rfl
 unfold cV; simp only [h1, h2, hg, h3]; rfl
theorem peq {id : Nat} {c : Bool} : af T0 .neq 62 c (.ptr id 0) (.ptr id 0) = some (.b false) := by
 have h1 : T0.ty 62 = some (.pointer 65) := by kernel_rfl
 have h3 : T0.sz 65 = some 2 := by kernel_rfl
 simp only [af, Nat.beq_refl, h1, h3, Bool.and_self]
theorem pnil {a : AV} {id : Nat} (ha : a = .nilp ∨ a = .ptr id 0) : af T0 .eql 62 true a .nilp = some (.b (match a with | .nilp => true | _ => false)) := by
 have h1 : T0.ty 62 = some (.pointer 65) := by kernel_rfl
 rcases ha with rfl | rfl <;> simp only [af, h1, kH, sH, qI, Option.map_some] <;> rfl
theorem c69 {h : Tr AB} {n id : Nat} {l : List UInt8} {o : Option Nat} (hb : Bld h n id l o) : ∃ h', Runs T0 69 [.ptr id 0] ⟨h, n⟩ (.tup []) ⟨h', n⟩ /\ (∃ g, h'.get id = some (.cells [.ptr id 0, vOf o l.length] 65 g)) /\ ∀ j, j ≠ id -> h'.get j = h.get j := by
 obtain ⟨hid, ⟨a, g, hg, ha⟩, ho, hne⟩ := hb
 have ld : ac T0 h 62 (.ptr id 0) = some a := by
  rw [dk hg (Nat.zero_le _)]
  rcases ha with rfl | rfl <;> exact ofc_62 _ _
 rcases ha with rfl | rfl
 ·have st : az T0 h 62 (.ptr id 0) (.ptr id 0) = some (h.put id (some (.cells [.ptr id 0, vOf o l.length] 65 g))) := em sz_62 hg rfl rfl rfl
  refine ⟨_, r69 _ ?_, ⟨g, ah _ _ _⟩, fun j hj => ae _ _ hj⟩
  unfold w69
  dsimp only [av]
  simp only [nB, aa, cG, Nat.zero_add, ld, pnil (id := id) (.inl rfl), aD, cv1 hg, e98, cv2 hg, st, aH, and_self]
 ·refine ⟨h, r69 _ ?_, ⟨g, hg⟩, fun j hj => rfl⟩
  unfold w69
  dsimp only [av]
  simp only [nB, aa, cG, Nat.zero_add, ld, pnil (id := id) (.inr rfl), aA, peq, and_self]
theorem vOf_leaf (o : Option Nat) (k : Nat) : (vOf o k).leaf = true := by cases o <;> rfl
theorem nj (o : Option Nat) (k : Nat) : (vOf o k).cells = [vOf o k] := by cases o <;> rfl
theorem wy {h h' : Tr AB} {n id : Nat} {l xs : List UInt8} {o : Option Nat} {g : Bool} (hb : Bld h n id l o) (hg : h'.get id = some (.cells [.ptr id 0, vOf o l.length] 65 g)) (hs : ∀ j, j ≠ id -> h'.get j = h.get j) (hne : xs ≠ []) :
  BldTo h n id o (l ++ xs) ⟨((gg h' o).put n (some (.cells ((l ++ xs).map bA) 5 true))).put id (some (.cells [.ptr id 0, vOf (some n) (l ++ xs).length] 65 g)), n + 1⟩ := by
 have hid := hb.1
 refine ⟨some n, ⟨by dsimp only; omega, ⟨_, g, ah _ _ _, .inr rfl⟩, ⟨by simp [hne], by dsimp only; omega, ?_⟩, fun i e => by injection e with e; omega⟩, by dsimp only; omega, fun j hj hji ho => ?_, fun i e => by injection e with e; right; omega⟩
 ·dsimp only; rw [ae _ _ (by omega), ah]
 ·dsimp only; rw [ae _ _ hji, ae _ _ (by omega), vx ho, hs j hji]
theorem mh {h h' : Tr AB} {n id : Nat} {l : List UInt8} {o : Option Nat} (hb : Bld h n id l o) (hs : ∀ j, j ≠ id -> h'.get j = h.get j) : OwnB h' n l o := by
 obtain ⟨_, _, ho, hne⟩ := hb
 cases o with
 | none => exact ho
 | some b => exact ⟨ho.1, ho.2.1, by rw [hs b (hne b rfl)]; exact ho.2.2⟩
theorem st_buf {h : Tr AB} {n id : Nat} {o : Option Nat} {k k' : Nat} {g : Bool} {blk : AB} (hid : id < n) (ho : o ≠ some id) (hg : h.get id = some (.cells [.ptr id 0, vOf o k] 65 g)) :
  az T0 ((gg h o).put n (some blk)) 63 (.ptr id 1) (vOf (some n) k') = some (((gg h o).put n (some blk)).put id (some (.cells [.ptr id 0, vOf (some n) k'] 65 g))) :=
 em sz_63 (by rw [ae _ _ (by omega), vx ho]; exact hg) rfl rfl rfl
theorem st_buf0 {h : Tr AB} {id : Nat} {o : Option Nat} {k : Nat} {g : Bool} (hg : h.get id = some (.cells [.ptr id 0, vOf o k] 65 g)) :
  az T0 h 63 (.ptr id 1) (vOf o k) = some (h.put id (some (.cells [.ptr id 0, vOf o k] 65 g))) :=
 em sz_63 hg (by rw [nj]; rfl) (by rw [nj]; simp [aO, vOf_leaf]) (by rw [nj]; rfl)
theorem tX {h : Tr AB} {id : Nat} {o : Option Nat} {k : Nat} {a : AV} {g : Bool} (hg : h.get id = some (.cells [a, vOf o k] 65 g)) : ac T0 h 63 (.ptr id 1) = some (vOf o k) := by
 rw [dk hg (by show 1 <= 2; decide)]; exact ofc_63 _ _
theorem ice63 (x : Int) : eE T0 63 1 [(0, .i .u8 x)] = some (.lst [.i .u8 x]) := by kernel_rfl
theorem ty9 : T0.ty 9 = some .string := by kernel_rfl
theorem c41 {h : Tr AB} {n id : Nat} {l : List UInt8} {o : Option Nat} (c : UInt8) (hb : Bld h n id l o) (hl : l.length + 1 <= 140737488351232) : ∃ σ', Runs T0 41 [.ptr id 0, bA c] ⟨h, n⟩ .nili σ' /\ BldTo h n id o (l ++ [c]) σ' := by
 obtain ⟨h', hr, ⟨g, hg⟩, hs⟩ := c69 hb
 have hoid : o ≠ some id := fun e => hb.2.2.2 id e rfl
 have ap := appB (x := .lst [bA c]) (xs := [c]) (mh hb hs) tB (.inr ⟨_, rfl⟩) rfl rfl (by rw [List.length_append]; exact hl) (by simp)
 refine ⟨_, r41 _ _ ?_, wy hb hg hs (by simp)⟩
 unfold w41
 dsimp only [av]
 rw [hr.eq]
 simp only [nB, aa, cG, Nat.zero_add, tX hg]
 rw [show bA c = .i .u8 (c.toNat : Nat) from rfl, ice63, aa]
 rw [show (AV.i .u8 ((c.toNat : Nat) : Int)) = bA c from rfl, ap, aP]
 rw [st_buf hb.1 hoid hg, aH]
 first | exact ⟨rfl, rfl⟩ | exact ⟨trivial, rfl⟩
theorem c42 {h : Tr AB} {n id : Nat} {l : List UInt8} {o : Option Nat} (s : List UInt8) (hb : Bld h n id l o) (hl : l.length + s.length <= 140737488351232) : ∃ σ', Runs T0 42 [.ptr id 0, .s s] ⟨h, n⟩ (.tup [.i .i64 (s.length : Nat), .nili]) σ' /\ BldTo h n id o (l ++ s) σ' := by
 obtain ⟨h', hr, ⟨g, hg⟩, hs⟩ := c69 hb
 have hoid : o ≠ some id := fun e => hb.2.2.2 id e rfl
 by_cases hne : s = []
 ·subst hne
  have ap := appB0 (x := .s []) (xt := 9) (mh hb hs) ty9 (.inl rfl) rfl rfl
  rw [List.append_nil]
  have hown : OwnB (h'.put id (some (.cells [.ptr id 0, vOf o l.length] 65 g))) n l o := mh hb (fun j hj => by rw [ae _ _ hj, hs j hj])
  refine ⟨⟨h'.put id (some (.cells [.ptr id 0, vOf o l.length] 65 g)), n⟩, r42 _ _ ?_, o, ⟨hb.1, ⟨_, g, ah _ _ _, .inr rfl⟩, hown, hb.2.2.2⟩, Nat.le_refl _, fun j hj hji hj2 => ?_, fun i e => .inl e⟩
  ·unfold w42
   dsimp only [av]
   rw [hr.eq]
   simp only [nB, aa, cG, Nat.zero_add, tX hg]
   rw [ap, aP, st_buf0 hg, aH, dB, aa]
   first | exact ⟨rfl, rfl⟩ | exact ⟨trivial, rfl⟩
  ·dsimp only; rw [ae _ _ hji, hs j hji]
 ·have ap := appB (x := .s s) (xs := s) (xt := 9) (mh hb hs) ty9 (.inl rfl) rfl (by show some ((s.take s.length).map _) = _; rw [List.take_length]; rfl) (by rw [List.length_append]; exact hl) hne
  refine ⟨_, r42 _ _ ?_, wy hb hg hs hne⟩
  unfold w42
  dsimp only [av]
  rw [hr.eq]
  simp only [nB, aa, cG, Nat.zero_add, tX hg]
  rw [ap, aP, st_buf hb.1 hoid hg, aH, dB, aa]
  first | exact ⟨rfl, rfl⟩ | exact ⟨trivial, rfl⟩
theorem u8s_b (l : List UInt8) : u8s (l.map bA) = true := by
 induction l with
 | nil => rfl
 | cons c l ih =>
  have h1 := c.toNat_lt
  have e : u8s ((c :: l).map bA) = (decide ((0 : Int) <= (c.toNat : Nat)) && decide (((c.toNat : Nat) : Int) < 256) && u8s (l.map bA)) := rfl
  rw [e, ih, decide_eq_true (by omega), decide_eq_true (by omega)]; rfl
theorem c45 {h : Tr AB} {n id : Nat} {l : List UInt8} {o : Option Nat} (hb : Bld h n id l o) (hl : l.length <= 140737488351232) : Runs T0 45 [.ptr id 0] ⟨h, n⟩ (.s l) ⟨gg h o, n⟩ := by
 obtain ⟨hid, ⟨a, g, hg, ha⟩, ho, hne⟩ := hb
 have ty87 : T0.ty 87 = some (.pointer 5) := by kernel_rfl
 have hz : T0.sz 5 = some 1 := by kernel_rfl
 refine r45 _ ?_
 unfold w45
 dsimp only [av]
 simp only [nB, aa, cG, Nat.zero_add, tX hg]
 cases o with
 | none =>
  have hl0 : l = [] := ho
  subst hl0
  have h1 : aj T0 h .unsafeSliceData [63] [vOf none 0] = some .nilp := rfl
  have h2 : aj T0 h .len [63] [vOf none 0] = some (.i .i64 0) := by simp [aj, vOf, tB]
  have h3 : gp T0 ⟨h, n⟩ 87 .nilp (.i .i64 0) = some (.s [], ⟨h, n⟩) := by simp [gp, ty87]
  rw [List.length_nil, h1, aa, h2, aa, h3, aP]
  exact ⟨rfl, rfl⟩
 | some b =>
  obtain ⟨h1, h2, h3⟩ := ho
  obtain ⟨m, hm⟩ : ∃ m, l.length = m + 1 := by
   cases l with
   | nil => exact absurd rfl h1
   | cons a b => exact ⟨b.length, rfl⟩
  have g1 : aj T0 h .unsafeSliceData [63] [vOf (some b) l.length] = some (.ptr b 0) := by rw [hm]; rfl
  have g2 : aj T0 h .len [63] [vOf (some b) l.length] = some (.i .i64 (l.length : Nat)) := by simp [aj, vOf, tB]
  have tk : cO l.length (l.map bA) = some (l.map bA) := by
   have := ei (l.map bA)
   rwa [List.length_map] at this
  have g3 : gp T0 ⟨h, n⟩ 87 (.ptr b 0) (.i .i64 (l.length : Nat)) = some (.s l, ⟨h.put b none, n⟩) := by
   unfold gp
   simp only [ty87, h3, hz, Int.toNat_natCast, tk, zH, u8s_b, Nat.beq_refl]
   rw [if_pos ⟨by omega, by omega⟩]
  rw [g1, aa, g2, aa, g3, aP]
  exact ⟨rfl, rfl⟩
theorem Bld.same {h h' : Tr AB} {n n' id : Nat} {l : List UInt8} {o : Option Nat} (hb : Bld h n id l o) (hn : n <= n') (hs : ∀ j, (j = id ∨ o = some j) -> h'.get j = h.get j) : Bld h' n' id l o := by
 obtain ⟨h1, ⟨a, g, hg, ha⟩, ho, hne⟩ := hb
 refine ⟨by omega, ⟨a, g, by rw [hs id (.inl rfl)]; exact hg, ha⟩, ?_, hne⟩
 cases o with
 | none => exact ho
 | some b => exact ⟨ho.1, by have := ho.2.1; omega, by rw [hs b (.inr rfl)]; exact ho.2.2⟩
theorem sls {s : List UInt8} {h : Tr AB} {l r : Nat} {k1 k2 : IntKind} (h1 : l <= r) (h2 : r <= s.length) : aL T0 h 9 (.s s) (some (.i k1 (l : Nat))) (some (.i k2 (r : Nat))) none = some (.s ((s.drop l).take (r - l))) := by
 have b1 : eU s.length s.length (some (.i k2 (r : Nat))) = some r := by
  simp only [eU, bnd]; rw [if_pos ⟨by omega, by omega⟩]; simp
 have b2 : eU r 0 (some (.i k1 (l : Nat))) = some l := by
  simp only [eU, bnd]; rw [if_pos ⟨by omega, by omega⟩]; simp
 have b : bK s.length (some s.length) (some (.i k1 (l : Nat))) (some (.i k2 (r : Nat))) none = some (l, r, some s.length) := by
  simp only [bK, Option.getD_some, b1, b2]
 refine iv ?_
 unfold cX
 simp only [ty9, b]
theorem take_one {s : List UInt8} {j : Nat} (hj : j < s.length) : (s.drop j).take (j + 1 - j) = [s.getD j 0] := by
 have : j + 1 - j = 1 := by omega
 rw [this, List.getD_eq_getElem?_getD, List.getElem?_eq_getElem hj, List.drop_eq_getElem_cons hj]; rfl
def dec (n : Nat) : List UInt8 := if n < 10 then [UInt8.ofNat (48 + n)] else [UInt8.ofNat (48 + n / 10), UInt8.ofNat (48 + n % 10)]
theorem xC : ∀ n, n < 10 -> (([48, 49, 50, 51, 52, 53, 54, 55, 56, 57] : List UInt8).drop n).take (n + 1 - n) = [UInt8.ofNat (48 + n)] := by decide
theorem c46 (n : Nat) (hn : n <= 64) : R T0 46 [.i .i64 (n : Nat)] (.s (dec n)) := by
 refine r46 _ rfl rfl ?_
 unfold w46
 dsimp only [av]
 by_cases h : n < 10
 ·have h' : decide (((n : Nat) : Int) < 10) = true := decide_eq_true (by omega)
  have e1 : ((n : Nat) : Int) + 1 = ((n + 1 : Nat) : Int) := by omega
  simp (disch := first | omega | assumption | (intros; simp only [dl0]; try omega)) only [vb0, ne_eq, aZ, aC, h', e1, sls (s := [48, 49, 50, 51, 52, 53, 54, 55, 56, 57]) (l := n) (r := n + 1) (by omega) (by show n + 1 <= 10; omega), xC n h]
  unfold dec; rw [if_pos h]
 ·have h' : decide (((n : Nat) : Int) < 10) = false := decide_eq_false (by omega)
  have q1 : (n : Int).tdiv 10 = ((n / 10 : Nat) : Int) := by rw [Int.tdiv_eq_ediv_of_nonneg (by omega)]; omega
  have q2 : (n : Int).tmod 10 = ((n % 10 : Nat) : Int) := by rw [Int.tmod_eq_emod_of_nonneg (by omega)]; omega
  have e1 : ((n / 10 : Nat) : Int) + 1 = ((n / 10 + 1 : Nat) : Int) := by omega
  have e2 : ((n % 10 : Nat) : Int) + 1 = ((n % 10 + 1 : Nat) : Int) := by omega
  have d1 : n / 10 < 10 := by omega
  have d2 : n % 10 < 10 := by omega
  have hq : ∀ c, af T0 .quo 3 c (.i .i64 (n : Nat)) (.i .i64 10) = some (.i .i64 ((n / 10 : Nat) : Int)) := fun c => by rw [bin_quo (by decide), q1, cL (by omega) (by omega)]
  have hr : ∀ c, af T0 .rem 3 c (.i .i64 (n : Nat)) (.i .i64 10) = some (.i .i64 ((n % 10 : Nat) : Int)) := fun c => by rw [bin_rem (by decide), q2]
  simp (disch := first | omega | assumption | (intros; simp only [dl0]; try omega)) only [vb0, ne_eq, aZ, aC, h', hq, hr, e1, e2, sls (s := [48, 49, 50, 51, 52, 53, 54, 55, 56, 57]) (l := n / 10) (r := n / 10 + 1) (by omega) (by show n / 10 + 1 <= 10; omega), sls (s := [48, 49, 50, 51, 52, 53, 54, 55, 56, 57]) (l := n % 10) (r := n % 10 + 1) (by omega) (by show n % 10 + 1 <= 10; omega), xC _ d1, xC _ d2]
  rw [kI (by simp), aa, wZ]
  unfold dec; rw [if_neg h]; rfl
theorem e46 {n : Nat} (hn : n <= 64) {d : Nat} {σ : AS} {K : AV -> AS -> Prop} : oC T0 d 46 [.i .i64 (n : Nat)] σ K = K (.s (dec n)) σ := (c46 n hn).eq d σ K
def quC (c : UInt8) : List UInt8 := if c.toNat = 10 then [92, 110] else if c.toNat = 34 ∨ c.toNat = 92 then [92, c] else [c]
def quS (s : List UInt8) : List UInt8 := [34] ++ s.flatMap quC ++ [34]
theorem quC_len (c : UInt8) : (quC c).length <= 2 := by
 unfold quC; split
 ·decide
 ·split <;> simp
theorem rc (s : List UInt8) : (s.flatMap quC).length <= 2 * s.length := by
 induction s with
 | nil => simp
 | cons c s ih => have := quC_len c; simp only [List.flatMap_cons, List.length_append, List.length_cons]; omega
theorem Ax {s : List UInt8} {j : Nat} (hj : j < s.length) : (s.take (j + 1)).flatMap quC = (s.take j).flatMap quC ++ quC (s.getD j 0) := by
 have : s.take (j + 1) = s.take j ++ [s.getD j 0] := by
  rw [List.take_add_one, List.getD_eq_getElem?_getD, List.getElem?_eq_getElem hj]; rfl
 rw [this, List.flatMap_append]; simp
theorem rO (s : List UInt8) (j : Nat) : ((s.take j).flatMap quC).length <= 2 * s.length := by
 have h1 := rc (s.take j)
 have h2 : (s.take j).length <= s.length := by rw [List.length_take]; omega
 omega
theorem c47 (s : List UInt8) (hs : s.length <= 100000) : R T0 47 [.s s] (.s (quS s)) := by
 refine r47 _ rfl rfl ?_
 unfold w47
 dsimp only [av]
 refine fL (X := Nat) (fun j => .s ([34] ++ (s.take j).flatMap quC)) (fun _ => .s s) (fun j => .i .i64 (j : Nat)) (fun j σ => j <= s.length) (fun j => s.length - j) ?_ 0 _ (Nat.zero_le _)
 rintro R j σ hj hR
 simp (disch := first | omega | assumption | (intros; simp only [dl0]; try omega)) only [cm, dB]
 refine aV (fun h => ?_) (fun h => ?_)
 ·have hj' : j < s.length := by omega
  have hfl := rO s j
  have e1 : ((j : Nat) : Int) + 1 = ((j + 1 : Nat) : Int) := by omega
  have hR' := hR (j + 1)
  rw [Ax hj', <- List.append_assoc] at hR'
  have sl := fun (h : Tr AB) => sls (h := h) (s := s) (l := j) (r := j + 1) (k1 := .i64) (k2 := .i64) (by omega) (by omega)
  rw [take_one hj'] at sl
  generalize hA : [34] ++ (s.take j).flatMap quC = A at hR' |-
  have hAl : A.length <= 2 * s.length + 1 := by rw [<- hA]; simp only [List.length_append, List.length_cons, List.length_nil]; omega
  have ad : ∀ (b : List UInt8) (c : Bool), b.length <= 2 -> af T0 .add 9 c (.s A) (.s b) = some (.s (A ++ b)) := fun b c hb => kI (by omega) c
  have ad2 : ∀ (b d : List UInt8) (c : Bool), b.length <= 2 -> d.length <= 2 -> af T0 .add 9 c (.s (A ++ b)) (.s d) = some (.s (A ++ b ++ d)) := fun b d c hb hd => kI (by rw [List.length_append]; omega) c
  by_cases q1 : (s.getD j 0).toNat = 10
  ·have q1' : decide ((((s.getD j 0).toNat : Nat) : Int) = 10) = true := decide_eq_true (by omega)
   simp (disch := first | first | omega | assumption | exact jJ | exact bw | (simp only [bw]; omega) | simp) only [vb0, ne_eq, aZ, vb8, hI, gh, hP, q1', ad, e1]
   have : quC (s.getD j 0) = [92, 110] := by unfold quC; rw [if_pos q1]
   rw [this] at hR'
   exact hR' _ (show j + 1 <= s.length by omega) (by omega)
  ·have q1' : decide ((((s.getD j 0).toNat : Nat) : Int) = 10) = false := decide_eq_false (by omega)
   by_cases q2 : (s.getD j 0).toNat = 34 ∨ (s.getD j 0).toNat = 92
   ·have : quC (s.getD j 0) = [92] ++ [s.getD j 0] := by unfold quC; rw [if_neg q1, if_pos q2]; rfl
    rw [this, <- List.append_assoc] at hR'
    by_cases q3 : (s.getD j 0).toNat = 34
    ·have q3' : decide ((((s.getD j 0).toNat : Nat) : Int) = 34) = true := decide_eq_true (by omega)
     simp (disch := first | first | omega | assumption | exact jJ | exact bw | (simp only [bw]; omega) | simp) only [vb0, ne_eq, aZ, vb8, hI, gh, hP, q1', q3', ad, e1, sl, ad2]
     exact hR' _ (show j + 1 <= s.length by omega) (by omega)
    ·have q3' : decide ((((s.getD j 0).toNat : Nat) : Int) = 34) = false := decide_eq_false (by omega)
     have q4' : decide ((((s.getD j 0).toNat : Nat) : Int) = 92) = true := decide_eq_true (by omega)
     simp (disch := first | first | omega | assumption | exact jJ | exact bw | (simp only [bw]; omega) | simp) only [vb0, ne_eq, aZ, vb8, hI, gh, hP, q1', q3', q4', ad, e1, sl, ad2]
     exact hR' _ (show j + 1 <= s.length by omega) (by omega)
   ·have : quC (s.getD j 0) = [s.getD j 0] := by unfold quC; rw [if_neg q1, if_neg q2]
    rw [this] at hR'
    have q3' : decide ((((s.getD j 0).toNat : Nat) : Int) = 34) = false := decide_eq_false (by omega)
    have q4' : decide ((((s.getD j 0).toNat : Nat) : Int) = 92) = false := decide_eq_false (by omega)
    simp (disch := first | first | omega | assumption | exact jJ | exact bw | (simp only [bw]; omega) | simp) only [vb0, ne_eq, aZ, vb8, hI, gh, hP, q1', q3', q4', ad, e1, sl, ad2]
    exact hR' _ (show j + 1 <= s.length by omega) (by omega)
 ·have hall : s.take j = s := List.take_of_length_le (by omega)
  have hfl := rc s
  rw [hall, kI (by simp only [List.length_append, List.length_cons, List.length_nil]; omega), aa, wZ]; rfl
theorem e47 {s : List UInt8} (hs : s.length <= 100000) {d : Nat} {σ : AS} {K : AV -> AS -> Prop} : oC T0 d 47 [.s s] σ K = K (.s (quS s)) σ := (c47 s hs).eq d σ K
theorem BldTo.keep {h : Tr AB} {n id it : Nat} {o : Option Nat} {l' : List UInt8} {σ' : AS} {b : Option AB} (t : BldTo h n id o l' σ') (h1 : it < n) (h2 : it ≠ id) (h3 : o ≠ some it) (hg : h.get it = b) : ∃ o', Bld σ'.h σ'.n id l' o' /\ it < σ'.n /\ o' ≠ some it /\ σ'.h.get it = b := by
 obtain ⟨o', b1, b2, b3, b4⟩ := t
 refine ⟨o', b1, by omega, fun e => ?_, by rw [b3 it h1 h2 h3]; exact hg⟩
 rcases b4 it e with q | q
 ·exact h3 q
 ·omega
def stP (j : Nat) (x : XStep) : List UInt8 := if x.kind_ = 2 then [91] ++ dec x.index_.toNat ++ [93] else if x.kind_ = 3 then [91] ++ x.name_ ++ [61] ++ quS x.value_ ++ [93] else if j = 0 then x.name_ else [46] ++ x.name_
def prT (p : List XStep) : Nat -> List UInt8
 | 0 => []
 | j + 1 => prT p j ++ stP j (p.getD j default)
theorem dy {x : XStep} (h : bt x = true) : (x.kind_ = 1 ∨ x.kind_ = 2 ∨ x.kind_ = 3) /\ x.name_.length <= 40 /\ x.value_.length <= 200 /\ (∀ c ∈ x.value_, c.toNat < 128) /\ (x.kind_ = 2 -> 0 <= x.index_ /\ x.index_ <= 64) := by
 have nm : nmB x.name_ = true -> x.name_.length <= 40 := fun h => by
  unfold nmB at h; simp only [Bool.and_eq_true, decide_eq_true_eq] at h; exact h.2
 unfold bt at h
 split at h
 ·rename_i k
  simp only [Bool.and_eq_true, decide_eq_true_eq] at h
  exact ⟨.inl k, nm h.1.1, by omega, fun c hc => (by rw [List.length_eq_zero_iff.mp h.2] at hc; cases hc), fun q => by omega⟩
 ·split at h
  ·rename_i k
   simp only [Bool.and_eq_true, decide_eq_true_eq] at h
   exact ⟨.inr (.inl k), by omega, by omega, fun c hc => (by rw [List.length_eq_zero_iff.mp h.2] at hc; cases hc), fun q => by omega⟩
  ·split at h
   ·rename_i k1 k2 k
    simp only [Bool.and_eq_true, decide_eq_true_eq] at h
    have ht := h.2
    unfold txB at ht
    simp only [Bool.and_eq_true, decide_eq_true_eq, List.all_eq_true] at ht
    exact ⟨.inr (.inr k), nm h.1.1, ht.2, fun c hc => by
     have := ht.1 c hc
     unfold ga at this
     simp only [decide_eq_true_eq] at this
     omega, fun q => absurd q k2⟩
   ·cases h
theorem zB (n : Nat) : (dec n).length <= 2 := by unfold dec; split <;> simp
theorem xY (s : List UInt8) : (quS s).length <= 2 * s.length + 2 := by
 have := rc s
 unfold quS; simp only [List.length_append, List.length_cons, List.length_nil]; omega
theorem stP_len {j : Nat} {x : XStep} (h : bt x = true) : (stP j x).length <= 500 := by
 obtain ⟨-, h1, h2, -, -⟩ := dy h
 have := zB x.index_.toNat
 have := xY x.value_
 unfold stP; repeat' split
 all_goals (first | omega | (simp only [List.length_append, List.length_cons, List.length_nil]; omega))
theorem xZ {p : List XStep} (h : ∀ x ∈ p, bt x = true) : ∀ j, j <= p.length -> (prT p j).length <= 500 * j
 | 0, _ => Nat.le_refl _
 | j + 1, hj => by
  have h1 := xZ h j (by omega)
  have h2 := stP_len (j := j) (h _ (aS (show j < p.length by omega)))
  rw [prT, List.length_append]; omega
theorem jx {p : List XStep} (h : dw p = true) : p.length <= 16 /\ ∀ x ∈ p, bt x = true := by
 unfold dw at h; simp only [Bool.and_eq_true, decide_eq_true_eq, List.all_eq_true] at h; exact h
theorem ozt {σ : AS} {K : AV -> Prop} {a : List UInt8} {n : Int} : oZ T0 σ (.tup [.s a, .i .i64 n]) K = K (.tup [.s a, .i .i64 n]) := dP rfl
def prR (p : List XStep) : AV := if dw p = true then .tup [.s (prT p p.length), .i .i64 0] else .tup [.s [], .i .i64 1]
theorem sadd {a b : List UInt8} (ha : a.length <= 100000) (hb : b.length <= 100000) (t : Nat) (c : Bool) : af T0 .add t c (.s a) (.s b) = some (.s (a ++ b)) := kI (by omega) c
theorem dec_at {x : XStep} (h : 0 <= x.index_) (h2 : x.index_ <= 64) {d : Nat} {σ : AS} {K : AV -> AS -> Prop} : oC T0 d 46 [.i .i64 x.index_] σ K = K (.s (dec x.index_.toNat)) σ := by
 have e := @e46 x.index_.toNat (by omega) d σ K
 rw [Int.toNat_of_nonneg h] at e; exact e
theorem c21 (p : List XStep) (hp : p.length <= 140737488351232) (ox : ∀ x ∈ p, bz x) : R T0 21 [.lst (p.map am)] (prR p) := by
 refine r21 _ rfl rfl ?_
 unfold w21
 dsimp only [av]
 by_cases hb : dw p = true
 ·obtain ⟨hl, hv⟩ := jx hb
  rw [show prR p = .tup [.s (prT p p.length), .i .i64 0] from if_pos hb]
  rw [e14 hp ox, hb, cN, aa, Bool.not_true, aA]
  refine fL (X := Nat) (fun j => .s (prT p j)) (fun _ => .lst (p.map am)) (fun j => .i .i64 (j : Nat)) (fun j σ => j <= p.length) (fun j => p.length - j) ?_ 0 _ (Nat.zero_le _)
  rintro R j σ hj hR
  simp (disch := first | omega | assumption | (intros; simp only [dl0]; try omega)) only [cm, dK, cd]
  refine aV (fun h => ?_) (fun h => ?_)
  ·have hj' : j < p.length := by omega
   have hA := xZ hv j hj
   obtain ⟨hk, hn, hq, hc, hi⟩ := dy (hv _ (aS hj'))
   have hd := zB (p.getD j default).index_.toNat
   have hqs := xY (p.getD j default).value_
   have hR' := hR (j + 1)
   rw [show prT p (j + 1) = prT p j ++ stP j (p.getD j default) from rfl] at hR'
   have hAz : j = 0 -> prT p j = [] := fun e => by subst e; rfl
   generalize prT p j = A at hA hAz hR' |-
   rcases hk with k | k | k
   ·have d2 : decide ((p.getD j default).kind_ = 2) = false := decide_eq_false (by omega)
    have d3 : decide ((p.getD j default).kind_ = 3) = false := decide_eq_false (by omega)
    by_cases h0 : j = 0
    ·subst h0
     have d0 : decide ((0 : Int) < ((0 : Nat) : Int)) = false := rfl
     rw [hAz rfl, List.nil_append] at hR'
     rw [show stP 0 (p.getD 0 default) = (p.getD 0 default).name_ by unfold stP; rw [if_neg (by omega), if_neg (by omega), if_pos rfl]] at hR'
     simp (disch := first | omega | assumption | (intros; simp only [dl2]; try omega)) only [vb0, ne_eq, aZ, iF, vb8, hJ, vb7, bx, gh, d2, d3, d0, sadd]
     exact hR' _ (show 0 + 1 <= p.length by omega) (by omega)
    ·have d0 : decide ((0 : Int) < ((j : Nat) : Int)) = true := decide_eq_true (by omega)
     rw [show stP j (p.getD j default) = [46] ++ (p.getD j default).name_ by unfold stP; rw [if_neg (by omega), if_neg (by omega), if_neg h0], <- List.append_assoc] at hR'
     simp (disch := first | omega | assumption | (intros; simp only [dl2]; try omega)) only [vb0, ne_eq, aZ, iF, vb8, hJ, vb7, bx, gh, d2, d3, d0, sadd]
     exact hR' _ (show j + 1 <= p.length by omega) (by omega)
   ·have d2 : decide ((p.getD j default).kind_ = 2) = true := decide_eq_true k
    rw [show stP j (p.getD j default) = [91] ++ dec (p.getD j default).index_.toNat ++ [93] from if_pos k, <- List.append_assoc, <- List.append_assoc] at hR'
    have ed := fun (d : Nat) (σ : AS) (K : AV -> AS -> Prop) => dec_at (hi k).1 (hi k).2 (d := d) (σ := σ) (K := K)
    simp (disch := first | omega | assumption | (intros; simp only [dl2]; try omega)) only [vb0, ne_eq, aZ, iF, vb8, hJ, vb7, bx, gh, d2, ed, sadd]
    exact hR' _ (show j + 1 <= p.length by omega) (by omega)
   ·have d2 : decide ((p.getD j default).kind_ = 2) = false := decide_eq_false (by omega)
    have d3 : decide ((p.getD j default).kind_ = 3) = true := decide_eq_true (by omega)
    rw [show stP j (p.getD j default) = [91] ++ (p.getD j default).name_ ++ [61] ++ quS (p.getD j default).value_ ++ [93] by unfold stP; rw [if_neg (by omega), if_pos k], <- List.append_assoc, <- List.append_assoc, <- List.append_assoc, <- List.append_assoc] at hR'
    have eq := fun (d : Nat) (σ : AS) (K : AV -> AS -> Prop) => e47 (s := (p.getD j default).value_) (by omega) (d := d) (σ := σ) (K := K)
    simp (disch := first | omega | assumption | (intros; simp only [dl2]; try omega)) only [vb0, ne_eq, aZ, iF, vb8, hJ, vb7, bx, gh, d2, d3, eq, sadd]
    exact hR' _ (show j + 1 <= p.length by omega) (by omega)
  ·have : j = p.length := by omega
   subst this
   rw [ozt]
 ·rw [show prR p = .tup [.s [], .i .i64 1] from if_neg hb]
  rw [e14 hp ox, Bool.not_eq_true _ |>.mp hb, cN, aa, Bool.not_false, aD, ozt]
def nmC (c : UInt8) : Bool := dr c.toNat
def nmL (s : List UInt8) : Nat := (s.takeWhile nmC).length
theorem nmL_le (s : List UInt8) : nmL s <= s.length := (List.takeWhile_sublist nmC).length_le
def digC (c : UInt8) : Bool := decide (48 <= c.toNat /\ c.toNat <= 57)
def canB (s : List UInt8) : Bool := s.all digC && (decide (s.length = 1) || (decide (1 < s.length) && !decide ((s.getD 0 0).toNat = 48)))
def lK (a : Nat) (c : UInt8) : Nat := a * 10 + (c.toNat - 48)
def fZ (a : Nat) (l : List UInt8) : Nat := l.foldl lK a
theorem rV (a : Nat) (c : UInt8) (r : List UInt8) : fZ a (c :: r) = fZ (lK a c) r := List.foldl_cons
theorem pz (a : Nat) (c : UInt8) : lK a c = a * 10 + (c.toNat - 48) := rfl
theorem xN (l : List UInt8) : ∀ a : Nat, a <= fZ a l := by
 induction l with
 | nil => intro a; exact Nat.le_refl _
 | cons c r ih =>
  intro a
  rw [rV]
  have h := ih (lK a c)
  have h2 := pz a c
  generalize fZ (lK a c) r = v at h |-
  omega
theorem pu_dig (l : List UInt8) : ∀ a : Nat, l.all digC = true -> (Lib.parseUint10 a l = .ok (fZ a l)) ∨ (Lib.parseUint10 a l = .range /\ 18446744073709551616 <= fZ a l) := by
 induction l with
 | nil => intro a _; exact .inl rfl
 | cons c r ih =>
  intro a h
  rw [List.all_cons, Bool.and_eq_true] at h
  have hd : 48 <= c.toNat /\ c.toNat <= 57 := of_decide_eq_true h.1
  have hg := xN r (lK a c)
  have ih' := ih (lK a c) h.2
  have hv := pz a c
  rw [Lib.parseUint10, if_pos hd, rV, <- pz]
  generalize fZ (lK a c) r = v at hg ih' |-
  by_cases h1 : 1844674407370955162 <= a
  ·rw [if_pos h1]; exact .inr ⟨rfl, by omega⟩
  ·rw [if_neg h1]
   by_cases h2 : 18446744073709551616 <= lK a c
   ·rw [if_pos h2]; exact .inr ⟨rfl, by omega⟩
   ·rw [if_neg h2]; exact ih'
theorem atoi_dig {s : List UInt8} (hne : s ≠ []) (h : s.all digC = true) : (Lib.atoiAll s = .ok (fZ 0 s : Nat) /\ fZ 0 s < 9223372036854775808) ∨ (Lib.atoiAll s = .range /\ 9223372036854775808 <= fZ 0 s) := by
 match s, hne with
 | c :: r, _ =>
  have h0 := h
  rw [List.all_cons, Bool.and_eq_true] at h
  have hd : 48 <= c.toNat /\ c.toNat <= 57 := of_decide_eq_true h.1
  have hp : Lib.parseMag (c :: r) = Lib.parseUint10 0 (c :: r) := if_neg (by simp)
  have hc : ¬ (c.toNat = 43 ∨ c.toNat = 45) := by omega
  have hn : ¬ c.toNat = 45 := by omega
  unfold Lib.atoiAll
  simp only []
  rw [if_neg hc, hp]
  rcases pu_dig (c :: r) 0 h0 with e | ⟨e, hv⟩
  ·rw [e]; simp only []
   by_cases hv : 9223372036854775808 <= fZ 0 (c :: r)
   ·rw [if_pos ⟨hn, hv⟩]; exact .inr ⟨rfl, hv⟩
   ·rw [if_neg (fun q => hv q.2), if_neg (fun q => hn q.1), if_neg hn]; exact .inl ⟨rfl, by omega⟩
  ·rw [e]; exact .inr ⟨rfl, by omega⟩
theorem uJ {α : Type} : ∀ (a b : List α), a.length = b.length -> bL a 0 b = some b
 | [], [], _ => rfl
 | _ :: a, d :: b, h => by
  have := uJ a b (by simpa using h)
  simp only [bL, this]; rfl
 | [], _ :: _, h => by simp at h
 | _ :: _, [], h => by simp at h
theorem uQ (a : AV) : ∀ n, (dm [a] n).length = n
 | 0 => rfl
 | n + 1 => by
  have := uQ a n
  simp only [dm, List.length_append, List.length_cons, List.length_nil, this]; omega
theorem c140 (s : List UInt8) (hl : s.length <= 1048576) : R T0 140 [.s s] (.s s) := by
 have ty87 : T0.ty 87 = some (.pointer 5) := by kernel_rfl
 have hz : T0.sz 5 = some 1 := by kernel_rfl
 have hzr : T0.zr 5 = some (.i .u8 0) := by kernel_rfl
 have hby : T0.by_ 5 = some 1 := by kernel_rfl
 refine r140 _ rfl rfl ?_
 unfold w140
 dsimp only [av]
 by_cases h0 : s = []
 ·subst h0
  simp (disch := first | omega | assumption | (intros; simp only [dl0]; try omega)) only [vb4, ne_eq, vb8, dB, len_63, ia_63, List.length_nil, Int.natCast_zero]
  first | done | rfl
 ·have hpos : 0 < s.length := List.length_pos_iff.mpr h0
  have d0 : decide (((s.length : Nat) : Int) = 0) = false := decide_eq_false (by omega)
  have mk : rk T0 63 (.i .i64 (s.length : Nat)) (.i .i64 (s.length : Nat)) = some (.cells (dm [.i .u8 0] s.length) 5 false, fun id => .sl id 0 s.length (some s.length)) := by
   unfold rk
   simp only [tB, hz, hzr, hby]
   rw [if_pos ⟨by omega, by omega, by omega, by omega⟩]; rfl
  have nw : ∀ h : Tr AB, bM h 1 (Nat.min s.length s.length) (.s s) = some (s.map bA) := fun h => by
   rw [show Nat.min s.length s.length = s.length from Nat.min_self _]
   show some ((s.take s.length).map _) = _
   rw [List.take_length]; rfl
  have cp : lU T0 ⟨Tr.nil.put 0 (some (.cells (dm [.i .u8 0] s.length) 5 false)), 1⟩ 63 (.sl 0 0 s.length (some s.length)) (.s s) = some (.i .i64 (Nat.min s.length s.length : Nat), ⟨(Tr.nil.put 0 (some (.cells (dm [.i .u8 0] s.length) 5 false))).put 0 (some (.cells (s.map bA) 5 false)), 1⟩) := by
   have hset : bL (dm [.i .u8 0] s.length) 0 (s.map bA) = some (s.map bA) := uJ _ _ (by rw [uQ, List.length_map])
   unfold lU
   simp only [tB, hz, iW, nw, ah, yo, hset]
  have ia : ai T0 63 (.sl 0 0 s.length (some s.length)) (.i .i64 0) = some (.ptr 0 0) := by
   unfold ai
   simp only [tB, hz]
   rw [if_pos ⟨by omega, by omega⟩]; rfl
  have ln : ∀ h : Tr AB, aj T0 h .len [63] [.sl 0 0 s.length (some s.length)] = some (.i .i64 (s.length : Nat)) := fun h => by simp [aj, tB]
  have tk : cO s.length (s.map bA) = some (s.map bA) := by
   have := ei (s.map bA)
   rwa [List.length_map] at this
  have us : ∀ h : Tr AB, h.get 0 = some (.cells (s.map bA) 5 false) -> gp T0 ⟨h, 1⟩ 87 (.ptr 0 0) (.i .i64 (s.length : Nat)) = some (.s s, ⟨h.put 0 none, 1⟩) := fun h hg => by
   unfold gp
   simp only [ty87, hg, hz, Int.toNat_natCast, tk, zH, u8s_b, Nat.beq_refl]
   rw [if_pos ⟨by omega, by omega⟩]
  rw [dB, aa, bZ, aa, d0, aA, aa, mk, eV, bu]
  rw [cp, aP, ia, aa, ln, aa, us _ (ah _ _ _), aP, wZ]
theorem e140 {s : List UInt8} (hl : s.length <= 1048576) {d : Nat} {σ : AS} {K : AV -> AS -> Prop} : oC T0 d 140 [.s s] σ K = K (.s s) σ := (c140 s hl).eq d σ K
def rgE (a s : List UInt8) : AV := .iptr [.s a, .s s, (.ifc 148 (.iptr [(.s [118, 97, 108, 117, 101, 32, 111, 117, 116, 32, 111, 102, 32, 114, 97, 110, 103, 101])]))]
theorem c128 (a s : List UInt8) (hl : s.length <= 1048576) : R T0 128 [.s a, .s s] (rgE a s) := by
 have ld : ∃ e : AV, ac T0 Tr.nil 67 (.iptr [(.ifc 148 (.iptr [(.s [118, 97, 108, 117, 101, 32, 111, 117, 116, 32, 111, 102, 32, 114, 97, 110, 103, 101])]))]) = some e /\ e = (.ifc 148 (.iptr [(.s [118, 97, 108, 117, 101, 32, 111, 117, 116, 32, 111, 102, 32, 114, 97, 110, 103, 101])])) := ⟨_, by kernel_rfl, rfl⟩
 obtain ⟨e, ld, he⟩ := ld
 have bd : bF T0 144 [(0, .s a), (1, .s s), (2, (.ifc 148 (.iptr [(.s [118, 97, 108, 117, 101, 32, 111, 117, 116, 32, 111, 102, 32, 114, 97, 110, 103, 101])])))] = some (.agg [.s a, .s s, .ifc 148 (.iptr [(.s [118, 97, 108, 117, 101, 32, 111, 117, 116, 32, 111, 102, 32, 114, 97, 110, 103, 101])])]) := by kernel_rfl
 refine r128 _ _ rfl rfl ?_
 unfold w128
 dsimp only [av]
 rw [e140 hl, ld, aa, he, bd, aa, eD]
 refine ⟨9, rgE a s, ?_, rfl⟩
 kernel_rfl
theorem e128 {a s : List UInt8} (hl : s.length <= 1048576) {d : Nat} {σ : AS} {K : AV -> AS -> Prop} : oC T0 d 128 [.s a, .s s] σ K = K (rgE a s) σ := (c128 a s hl).eq d σ K
theorem c113 (a s : List UInt8) (hl : s.length <= 1048576) : R T0 113 [.s a, .s s, .i .i64 0, .i .i64 0, .ifc 126 (.i .i64 1)] (.ifc 129 (rgE a s)) := by
 have q1 : af T0 .eql 67 false (.ifc 126 (.i .i64 1)) (.ifc 126 (.i .i64 2)) = some (.b false) := by kernel_rfl
 have q2 : af T0 .eql 67 false (.ifc 126 (.i .i64 1)) (.ifc 126 (.i .i64 1)) = some (.b true) := by kernel_rfl
 refine r113 _ _ _ _ _ rfl rfl ?_
 unfold w113
 dsimp only [av]
 rw [q1, aa, aA, q2, aa, aD, e128 hl]
 rw [dP rfl]; rfl
theorem c112 (s : List UInt8) (hl : s.length <= 1048576) : R T0 112 [.s s] (rx s) := by
 have h : fU T0 112 [.s s] = mQ [.s s] := by kernel_rfl
 refine R.ext (by kernel_rfl) ?_
 rw [h]
 have hb : Nat.ble s.length 9223372036854775806 = true := Nat.ble_eq_true_of_le (by omega)
 unfold mQ
 simp only [hb]
theorem c94 (s : List UInt8) (hl : s.length <= 1048576) (hne : s ≠ []) (hd : s.all digC = true) : (R T0 94 [.s s] (.tup [.i .i64 (fZ 0 s : Nat), .nili]) /\ fZ 0 s < 9223372036854775808) ∨ ∃ x : Int, R T0 94 [.s s] (.tup [.i .i64 x, .ifc 129 (rgE [65, 116, 111, 105] s)]) /\ 65 <= fZ 0 s := by
 rcases atoi_dig hne hd with ⟨e, hv⟩ | ⟨e, hv⟩
 ·have ea : rx s = .tup [.i .i64 (fZ 0 s : Nat), .nili] := by unfold rx; rw [e]
  have q : af T0 .neq 67 true .nili .nili = some (.b false) := by kernel_rfl
  refine .inl ⟨r94 _ rfl rfl ?_, hv⟩
  unfold w94
  dsimp only [av]
  rw [(c112 s hl).eq, ea]
  simp only [jU, List.getElem?_cons_zero, List.getElem?_cons_succ, aa, q, aA]
  rw [dP rfl]; rfl
 ·have ea : rx s = .tup [.i .i64 (Lib.atoiSat s), .ifc 126 (.i .i64 1)] := by unfold rx; rw [e]
  have q : af T0 .neq 67 true (.ifc 126 (.i .i64 1)) .nili = some (.b true) := by kernel_rfl
  refine .inr ⟨_, r94 _ rfl rfl (r := .tup [.i .i64 (Lib.atoiSat s), .ifc 129 (rgE [65, 116, 111, 105] s)]) ?_, by omega⟩
  unfold w94
  dsimp only [av]
  rw [(c112 s hl).eq, ea]
  simp only [jU, List.getElem?_cons_zero, List.getElem?_cons_succ, aa, q, aD]
  rw [(c113 _ s hl).eq, dP rfl]; rfl
inductive UQ where
 | ok (acc rest : List UInt8)
 | bad
 | op (acc : List UInt8)
def unqL (acc : List UInt8) : List UInt8 -> UQ
 | [] => .op acc
 | c :: r => if c.toNat = 34 then .ok acc r else if c.toNat < 32 ∨ 126 < c.toNat then .bad else if ¬ c.toNat = 92 then unqL (acc ++ [c]) r else
  match r with
  | [] => .bad
  | d :: r' => if d.toNat = 34 ∨ d.toNat = 92 then unqL (acc ++ [d]) r' else if d.toNat = 110 then unqL (acc ++ [10]) r' else .bad
end Go.Proofs.YtmfhmlhaofpeiaaGreatDoor.Ev
