/- Texts of this session's, one behind the other. -/
import Derived.Test.YtmfhmlhaofpeiaaGreatDoorV0
import Derived.Test.YtmfhmlhaofpeiaaGreatDoorEvG
import Derived.Test.YtmfhmlhaofpeiaaGreatDoorV6
import Derived.Test.YtmfhmlhaofpeiaaGreatDoorEvFb
import Derived.Test.YtmfhmlhaofpeiaaGreatDoorEvFc
import Derived.Test.YtmfhmlhaofpeiaaGreatDoorEv1
import Derived.Test.YtmfhmlhaofpeiaaGreatDoorEv2
import Derived.Test.YtmfhmlhaofpeiaaGreatDoorEv3
import Derived.Test.YtmfhmlhaofpeiaaGreatDoorEv4
import Derived.Test.YtmfhmlhaofpeiaaGreatDoorSh
import Derived.Test.YtmfhmlhaofpeiaaGreatDoorEvX
import Derived.Test.YtmfhmlhaofpeiaaGreatDoorEvT
import Derived.Test.YtmfhmlhaofpeiaaGreatDoorEvTy
import Derived.Test.YtmfhmlhaofpeiaaGreatDoorEvF
import Derived.Test.YtmfhmlhaofpeiaaGreatDoorOp
import Derived.Test.YtmfhmlhaofpeiaaGreatDoorEvLg
import Derived.Test.YtmfhmlhaofpeiaaGreatDoorEvLh
import Derived.Test.YtmfhmlhaofpeiaaGreatDoorEvLi
import Derived.Test.YtmfhmlhaofpeiaaGreatDoorEvFe
import Derived.Test.YtmfhmlhaofpeiaaGreatDoorEvFf
import Derived.Test.YtmfhmlhaofpeiaaGreatDoorEvFd
namespace Go.Proofs.YtmfhmlhaofpeiaaGreatDoor.Ev
open Go Go.RowKit
set_option linter.unusedSimpArgs false
set_option linter.unusedVariables false
set_option maxRecDepth 100000
theorem aV {α : Type} {p : α -> Bool} {l : List α} {d : α} {j : Nat} (h : (l.take j).all p = true) (hj : j < l.length) (hp : p (l.getD j d) = true) : (l.take (j + 1)).all p = true := by
 rw [List.take_add_one, List.all_append, h]
 rw [List.getD_eq_getElem?_getD, List.getElem?_eq_getElem hj] at hp
 rw [List.getElem?_eq_getElem hj]
 simpa using hp
theorem fr {α : Type} {p : α -> Bool} {l : List α} {d : α} {j : Nat} (hj : j < l.length) (hp : p (l.getD j d) = false) : l.all p = false := by
 rw [List.getD_eq_getElem?_getD, List.getElem?_eq_getElem hj] at hp
 rw [List.all_eq_false]
 exact ⟨l[j], List.getElem_mem hj, by simpa using hp⟩
theorem cT {α : Type} {p : α -> Bool} {l : List α} {j : Nat} (h : (l.take j).all p = true) (hj : l.length <= j) : l.all p = true := by
 rwa [List.take_of_length_le hj] at h
theorem bh {α : Type} [Inhabited α] {l : List α} {j : Nat} (h : j < l.length) : l.getD j default ∈ l := by
 rw [List.getD_eq_getElem?_getD, List.getElem?_eq_getElem h]; exact List.getElem_mem h
def dm (r : Int) : Bool := decide ((97 <= r /\ r <= 122) ∨ (65 <= r /\ r <= 90) ∨ (48 <= r /\ r <= 57) ∨ r = 45 ∨ r = 95 ∨ r = 47)
def fP (r : Int) : Bool := decide (r = 10 ∨ (32 <= r /\ r <= 126))
def nmB (s : List UInt8) : Bool := s.all (fun c => dm c.toNat) && decide (0 < s.length) && decide (s.length <= 40)
def txB (s : List UInt8) : Bool := s.all (fun c => fP c.toNat) && decide (s.length <= 200)
theorem vb0 : type_of% (And.intro @Nat.zero_add (And.intro @aa (And.intro @aS (And.intro @aM (And.intro @aF (And.intro @bt (And.intro @eG (And.intro @dl (And.intro @fg (And.intro @aG (And.intro @aA (And.intro @bw (And.intro @bK (And.intro @cJ (And.intro @td (And.intro @decide_not (And.intro @iV (And.intro @iW (And.intro @decide_true (And.intro @decide_false (And.intro @not_true (And.intro @not_false_eq_true (And.intro @Bool.not_true (And.intro @Bool.not_false (And.intro @Bool.not_not (And.intro @ri (And.intro @oz (And.intro @wo (And.intro @oZ_l (And.intro @cg (And.intro @cx (And.intro @Int.toNat_natCast (And.intro @Int.toNat_zero (And.intro @du (And.intro @ie (And.intro @tW (And.intro @da (And.intro @dA (And.intro @dX (And.intro @dW (And.intro @jr (And.intro @jq (And.intro @iA @iz))))))))))))))))))))))))))))))))))))))))))) := And.intro @Nat.zero_add (And.intro @aa (And.intro @aS (And.intro @aM (And.intro @aF (And.intro @bt (And.intro @eG (And.intro @dl (And.intro @fg (And.intro @aG (And.intro @aA (And.intro @bw (And.intro @bK (And.intro @cJ (And.intro @td (And.intro @decide_not (And.intro @iV (And.intro @iW (And.intro @decide_true (And.intro @decide_false (And.intro @not_true (And.intro @not_false_eq_true (And.intro @Bool.not_true (And.intro @Bool.not_false (And.intro @Bool.not_not (And.intro @ri (And.intro @oz (And.intro @wo (And.intro @oZ_l (And.intro @cg (And.intro @cx (And.intro @Int.toNat_natCast (And.intro @Int.toNat_zero (And.intro @du (And.intro @ie (And.intro @tW (And.intro @da (And.intro @dA (And.intro @dX (And.intro @dW (And.intro @jr (And.intro @jq (And.intro @iA @iz))))))))))))))))))))))))))))))))))))))))))
theorem vb5 : type_of% (And.intro @gg (And.intro @od (And.intro @kM (And.intro @jB (And.intro @uY (And.intro @yf @yi)))))) := And.intro @gg (And.intro @od (And.intro @kM (And.intro @jB (And.intro @uY (And.intro @yf @yi)))))
theorem vb8 : type_of% (And.intro @gN (And.intro @yW (And.intro @md (And.intro @jC (And.intro @kN (And.intro @nZ (And.intro @xL (And.intro @yg @yj)))))))) := And.intro @gN (And.intro @yW (And.intro @md (And.intro @jC (And.intro @kN (And.intro @nZ (And.intro @xL (And.intro @yg @yj)))))))
theorem vb9 : type_of% (And.intro @bG (And.intro @tH @yU)) := And.intro @bG (And.intro @tH @yU)
theorem kU : type_of% (And.intro @nz (And.intro @pr (And.intro @gtt_2 (And.intro @gff_2 (And.intro @gtf_2 (And.intro @gft_2 (And.intro @gvv_2 (And.intro @gnt_2 @gnf_2)))))))) := And.intro @nz (And.intro @pr (And.intro @gtt_2 (And.intro @gff_2 (And.intro @gtf_2 (And.intro @gft_2 (And.intro @gvv_2 (And.intro @gnt_2 @gnf_2)))))))
theorem c66 (r : Int) : R T0 66 [.i .i32 r] (.b (dm r)) := by
 refine r66 _ rfl rfl ?_
 unfold w66
 dsimp only [av]
 simp (disch := first | omega | assumption | (intros; simp only [dl0]; try omega)) only [vb0, ne_eq, vb8, kU, vb9, vb5]
 repeat' ((first | with_reducible refine aU (fun h => ?_) (fun h => ?_) | with_reducible refine oe (fun h => ?_) (fun h => ?_) | with_reducible refine yn (fun h => ?_) (fun h => ?_) | with_reducible refine rX (fun h => ?_) (fun h => ?_) | with_reducible refine og (fun h => ?_) (fun h => ?_) | with_reducible refine yp (fun h => ?_) (fun h => ?_) | with_reducible refine rY (fun h => ?_) (fun h => ?_) | with_reducible refine oh (fun h => ?_) (fun h => ?_) | with_reducible refine yu (fun h => ?_) (fun h => ?_) | with_reducible refine rZ (fun h => ?_) (fun h => ?_) | with_reducible refine oi (fun h => ?_) (fun h => ?_) | with_reducible refine yw (fun h => ?_) (fun h => ?_) | with_reducible refine sa (fun h => ?_) (fun h => ?_) | with_reducible refine gi (fun h => ?_) (fun h => ?_)) <;> try simp (disch := first | omega | assumption | (intros; simp only [dl0]; try omega)) only [h, vb0, ne_eq, vb8, kU, vb9, vb5])
 all_goals first
  | (unfold dm; exact congrArg AV.b (decide_eq_true (by omega)).symm)
  | (unfold dm; exact congrArg AV.b (decide_eq_false (by omega)).symm)
  | (unfold dm; exact congrArg AV.b (decide_eq_decide.2 (by omega)))
theorem e66 {r : Int} {d : Nat} {σ : AS} {K : AV -> AS -> Prop} : oC T0 d 66 [.i .i32 r] σ K = K (.b (dm r)) σ := (c66 r).eq d σ K
theorem c93 (r : Int) : R T0 93 [.i .u8 r] (.b (dm r)) := by
 refine r93 _ rfl rfl ?_
 unfold w93
 dsimp only [av]
 simp (disch := first | omega | assumption | (intros; simp only [dl0]; try omega)) only [vb0, ne_eq, vb8, kU, vb9, vb5]
 repeat' ((first | with_reducible refine aU (fun h => ?_) (fun h => ?_) | with_reducible refine oe (fun h => ?_) (fun h => ?_) | with_reducible refine yn (fun h => ?_) (fun h => ?_) | with_reducible refine rX (fun h => ?_) (fun h => ?_) | with_reducible refine og (fun h => ?_) (fun h => ?_) | with_reducible refine yp (fun h => ?_) (fun h => ?_) | with_reducible refine rY (fun h => ?_) (fun h => ?_) | with_reducible refine oh (fun h => ?_) (fun h => ?_) | with_reducible refine yu (fun h => ?_) (fun h => ?_) | with_reducible refine rZ (fun h => ?_) (fun h => ?_) | with_reducible refine oi (fun h => ?_) (fun h => ?_) | with_reducible refine yw (fun h => ?_) (fun h => ?_) | with_reducible refine sa (fun h => ?_) (fun h => ?_) | with_reducible refine gi (fun h => ?_) (fun h => ?_)) <;> try simp (disch := first | omega | assumption | (intros; simp only [dl0]; try omega)) only [h, vb0, ne_eq, vb8, kU, vb9, vb5])
 all_goals first
  | (unfold dm; exact congrArg AV.b (decide_eq_true (by omega)).symm)
  | (unfold dm; exact congrArg AV.b (decide_eq_false (by omega)).symm)
  | (unfold dm; exact congrArg AV.b (decide_eq_decide.2 (by omega)))
theorem e93 {r : Int} {d : Nat} {σ : AS} {K : AV -> AS -> Prop} : oC T0 d 93 [.i .u8 r] σ K = K (.b (dm r)) σ := (c93 r).eq d σ K
theorem dec_lt {s : List UInt8} {j : Nat} (hj : j < s.length) (h : (s.getD j 0).toNat < 128) : Utf8.decode ⟨⟨s⟩⟩ j = ((s.getD j 0).toNat, 1) := by
 have e : ((⟨⟨s⟩⟩ : ByteArray).get! (j + 0)) = s.getD j 0 := by
  show (⟨s⟩ : Array UInt8)[j + 0]! = _
  simp [List.getD_eq_getElem?_getD, getElem!_def]
  cases s[j]? <;> rfl
 unfold Utf8.decode
 simp only [e]
 rw [if_pos h]
theorem dec_ge {s : List UInt8} {j : Nat} (h : 128 <= (s.getD j 0).toNat) : 128 <= (Utf8.decode ⟨⟨s⟩⟩ j).1 := by
 have e : ((⟨⟨s⟩⟩ : ByteArray).get! (j + 0)) = s.getD j 0 := by
  show (⟨s⟩ : Array UInt8)[j + 0]! = _
  simp [List.getD_eq_getElem?_getD, getElem!_def]
  cases s[j]? <;> rfl
 unfold Utf8.decode
 simp only [e]
 rw [if_neg (by omega)]
 split
 ·split
  ·assumption
  ·simp [Utf8.runeError]
 ·split
  ·split
   ·rename_i hq; simp only [Bool.and_eq_true, decide_eq_true_eq, ge_iff_le] at hq; simp only; omega
   ·simp [Utf8.runeError]
  ·split
   ·split
    ·rename_i hq; simp only [Bool.and_eq_true, decide_eq_true_eq, ge_iff_le] at hq; simp only; omega
    ·simp [Utf8.runeError]
   ·simp [Utf8.runeError]
theorem uD {r : Int} (h : 128 <= r) : dm r = false := decide_eq_false (by omega)
theorem next_lt {h : Tr AB} {n id j : Nat} {s : List UInt8} (hg : h.get id = some (.siter s j)) (hj : j < s.length) (hc : (s.getD j 0).toNat < 128) : gM ⟨h, n⟩ (.ptr id 0) = some (.tup [.b true, .i .i64 (j : Nat), .i .i32 ((s.getD j 0).toNat : Nat)], ⟨h.put id (some (.siter s (j + 1))), n⟩) := by
 simp only [gM, hg, Nat.ble_eq_true_of_le (show j + 1 <= s.length from hj), dec_lt hj hc]
theorem next_ge {h : Tr AB} {n id j : Nat} {s : List UInt8} (hg : h.get id = some (.siter s j)) (hj : j < s.length) (hc : 128 <= (s.getD j 0).toNat) : ∃ r w : Nat, 128 <= r /\ gM ⟨h, n⟩ (.ptr id 0) = some (.tup [.b true, .i .i64 (j : Nat), .i .i32 (r : Nat)], ⟨h.put id (some (.siter s w)), n⟩) := by
 refine ⟨(Utf8.decode ⟨⟨s⟩⟩ j).1, j + (Utf8.decode ⟨⟨s⟩⟩ j).2, dec_ge hc, ?_⟩
 simp only [gM, hg, Nat.ble_eq_true_of_le (show j + 1 <= s.length from hj)]
theorem next_no {h : Tr AB} {n id j : Nat} {s : List UInt8} (hg : h.get id = some (.siter s j)) (hj : s.length <= j) : gM ⟨h, n⟩ (.ptr id 0) = some (.tup [.b false], ⟨h, n⟩) := by
 have : Nat.ble (j + 1) s.length = false := by
  cases q : Nat.ble (j + 1) s.length
  ·rfl
  ·have := Nat.le_of_ble_eq_true q; omega
 simp only [gM, hg, this]
theorem ut (c y : Bool) : au (.b !c) (some (.b true)) (some (cnd c (.b y))) = some (.b (!c || y)) := by cases c <;> rfl
theorem mO (c y : Bool) : au (.b !c) (some (cnd (!c) (.b y))) (some (.b false)) = some (.b (!c && y)) := by cases c <;> rfl
theorem uC {l d : Nat} {c x y : Bool} {σ : AS} {K : AV -> AS -> Prop} : oG [l] (.b c) false (fun k : AV -> AS -> Prop => oV d (au (cnd (!c) (.b x)) (some (cnd (!c && x) (.b y))) (some (.b false))) fun v => k v σ) σ K = K (cnd (!c) (.b (x && y))) σ := by
 cases c <;> cases x <;> cases y <;> first | rfl | (simp [oG, cnd, au, oV, eW])
theorem rG {l d : Nat} {c x y : Bool} {σ : AS} {K : AV -> AS -> Prop} : oG [l] (.b (!c)) false (fun k : AV -> AS -> Prop => oV d (au (cnd c (.b x)) (some (cnd (c && x) (.b y))) (some (.b false))) fun v => k v σ) σ K = K (cnd c (.b (x && y))) σ := by
 cases c <;> cases x <;> cases y <;> first | rfl | (simp [oG, cnd, au, oV, eW])
theorem xz {l d : Nat} {c x y : Bool} {σ : AS} {K : AV -> AS -> Prop} : oG [l] (.b c) true (fun k : AV -> AS -> Prop => oV d (au (cnd c (.b x)) (some (.b true)) (some (cnd (c && !x) (.b y)))) fun v => k v σ) σ K = K (cnd c (.b (x || y))) σ := by
 cases c <;> cases x <;> cases y <;> first | rfl | (simp [oG, cnd, au, oV, eW])
theorem uA {l d : Nat} {c x y : Bool} {σ : AS} {K : AV -> AS -> Prop} : oG [l] (.b (!c)) true (fun k : AV -> AS -> Prop => oV d (au (cnd (!c) (.b x)) (some (.b true)) (some (cnd (!c && !x) (.b y)))) fun v => k v σ) σ K = K (cnd (!c) (.b (x || y))) σ := by
 cases c <;> cases x <;> cases y <;> first | rfl | (simp [oG, cnd, au, oV, eW])
theorem gct_1 {l0 : Nat} {x y : Bool} {body : (AV -> AS -> Prop) -> Prop} {σ : AS} {K : AV -> AS -> Prop} : oG [l0] (cnd x (.b y)) true body σ K = oG [l0] (.b (x && y)) true body σ K := dc
theorem gcf_1 {l0 : Nat} {x y : Bool} {body : (AV -> AS -> Prop) -> Prop} {σ : AS} {K : AV -> AS -> Prop} : oG [l0] (cnd x (.b y)) false body σ K = oG [l0] (.b (x && !y)) true body σ K := dd
theorem gct_2 {l0 l1 : Nat} {x y : Bool} {body : (AV -> AV -> AS -> Prop) -> Prop} {σ : AS} {K : AV -> AV -> AS -> Prop} : oG [l0, l1] (cnd x (.b y)) true body σ K = oG [l0, l1] (.b (x && y)) true body σ K := dc
theorem gcf_2 {l0 l1 : Nat} {x y : Bool} {body : (AV -> AV -> AS -> Prop) -> Prop} {σ : AS} {K : AV -> AV -> AS -> Prop} : oG [l0, l1] (cnd x (.b y)) false body σ K = oG [l0, l1] (.b (x && !y)) true body σ K := dd
theorem gct_3 {l0 l1 l2 : Nat} {x y : Bool} {body : (AV -> AV -> AV -> AS -> Prop) -> Prop} {σ : AS} {K : AV -> AV -> AV -> AS -> Prop} : oG [l0, l1, l2] (cnd x (.b y)) true body σ K = oG [l0, l1, l2] (.b (x && y)) true body σ K := dc
theorem gcf_3 {l0 l1 l2 : Nat} {x y : Bool} {body : (AV -> AV -> AV -> AS -> Prop) -> Prop} {σ : AS} {K : AV -> AV -> AV -> AS -> Prop} : oG [l0, l1, l2] (cnd x (.b y)) false body σ K = oG [l0, l1, l2] (.b (x && !y)) true body σ K := dd
theorem gct_4 {l0 l1 l2 l3 : Nat} {x y : Bool} {body : (AV -> AV -> AV -> AV -> AS -> Prop) -> Prop} {σ : AS} {K : AV -> AV -> AV -> AV -> AS -> Prop} : oG [l0, l1, l2, l3] (cnd x (.b y)) true body σ K = oG [l0, l1, l2, l3] (.b (x && y)) true body σ K := dc
theorem gcf_4 {l0 l1 l2 l3 : Nat} {x y : Bool} {body : (AV -> AV -> AV -> AV -> AS -> Prop) -> Prop} {σ : AS} {K : AV -> AV -> AV -> AV -> AS -> Prop} : oG [l0, l1, l2, l3] (cnd x (.b y)) false body σ K = oG [l0, l1, l2, l3] (.b (x && !y)) true body σ K := dd
theorem gct_5 {l0 l1 l2 l3 l4 : Nat} {x y : Bool} {body : (AV -> AV -> AV -> AV -> AV -> AS -> Prop) -> Prop} {σ : AS} {K : AV -> AV -> AV -> AV -> AV -> AS -> Prop} : oG [l0, l1, l2, l3, l4] (cnd x (.b y)) true body σ K = oG [l0, l1, l2, l3, l4] (.b (x && y)) true body σ K := dc
theorem gcf_5 {l0 l1 l2 l3 l4 : Nat} {x y : Bool} {body : (AV -> AV -> AV -> AV -> AV -> AS -> Prop) -> Prop} {σ : AS} {K : AV -> AV -> AV -> AV -> AV -> AS -> Prop} : oG [l0, l1, l2, l3, l4] (cnd x (.b y)) false body σ K = oG [l0, l1, l2, l3, l4] (.b (x && !y)) true body σ K := dd
theorem gct_6 {l0 l1 l2 l3 l4 l5 : Nat} {x y : Bool} {body : (AV -> AV -> AV -> AV -> AV -> AV -> AS -> Prop) -> Prop} {σ : AS} {K : AV -> AV -> AV -> AV -> AV -> AV -> AS -> Prop} : oG [l0, l1, l2, l3, l4, l5] (cnd x (.b y)) true body σ K = oG [l0, l1, l2, l3, l4, l5] (.b (x && y)) true body σ K := dc
theorem gcf_6 {l0 l1 l2 l3 l4 l5 : Nat} {x y : Bool} {body : (AV -> AV -> AV -> AV -> AV -> AV -> AS -> Prop) -> Prop} {σ : AS} {K : AV -> AV -> AV -> AV -> AV -> AV -> AS -> Prop} : oG [l0, l1, l2, l3, l4, l5] (cnd x (.b y)) false body σ K = oG [l0, l1, l2, l3, l4, l5] (.b (x && !y)) true body σ K := dd
theorem gct_7 {l0 l1 l2 l3 l4 l5 l6 : Nat} {x y : Bool} {body : (AV -> AV -> AV -> AV -> AV -> AV -> AV -> AS -> Prop) -> Prop} {σ : AS} {K : AV -> AV -> AV -> AV -> AV -> AV -> AV -> AS -> Prop} : oG [l0, l1, l2, l3, l4, l5, l6] (cnd x (.b y)) true body σ K = oG [l0, l1, l2, l3, l4, l5, l6] (.b (x && y)) true body σ K := dc
theorem gcf_7 {l0 l1 l2 l3 l4 l5 l6 : Nat} {x y : Bool} {body : (AV -> AV -> AV -> AV -> AV -> AV -> AV -> AS -> Prop) -> Prop} {σ : AS} {K : AV -> AV -> AV -> AV -> AV -> AV -> AV -> AS -> Prop} : oG [l0, l1, l2, l3, l4, l5, l6] (cnd x (.b y)) false body σ K = oG [l0, l1, l2, l3, l4, l5, l6] (.b (x && !y)) true body σ K := dd
theorem gct_8 {l0 l1 l2 l3 l4 l5 l6 l7 : Nat} {x y : Bool} {body : (AV -> AV -> AV -> AV -> AV -> AV -> AV -> AV -> AS -> Prop) -> Prop} {σ : AS} {K : AV -> AV -> AV -> AV -> AV -> AV -> AV -> AV -> AS -> Prop} : oG [l0, l1, l2, l3, l4, l5, l6, l7] (cnd x (.b y)) true body σ K = oG [l0, l1, l2, l3, l4, l5, l6, l7] (.b (x && y)) true body σ K := dc
theorem gcf_8 {l0 l1 l2 l3 l4 l5 l6 l7 : Nat} {x y : Bool} {body : (AV -> AV -> AV -> AV -> AV -> AV -> AV -> AV -> AS -> Prop) -> Prop} {σ : AS} {K : AV -> AV -> AV -> AV -> AV -> AV -> AV -> AV -> AS -> Prop} : oG [l0, l1, l2, l3, l4, l5, l6, l7] (cnd x (.b y)) false body σ K = oG [l0, l1, l2, l3, l4, l5, l6, l7] (.b (x && !y)) true body σ K := dd
theorem gct_9 {l0 l1 l2 l3 l4 l5 l6 l7 l8 : Nat} {x y : Bool} {body : (AV -> AV -> AV -> AV -> AV -> AV -> AV -> AV -> AV -> AS -> Prop) -> Prop} {σ : AS} {K : AV -> AV -> AV -> AV -> AV -> AV -> AV -> AV -> AV -> AS -> Prop} : oG [l0, l1, l2, l3, l4, l5, l6, l7, l8] (cnd x (.b y)) true body σ K = oG [l0, l1, l2, l3, l4, l5, l6, l7, l8] (.b (x && y)) true body σ K := dc
theorem gcf_9 {l0 l1 l2 l3 l4 l5 l6 l7 l8 : Nat} {x y : Bool} {body : (AV -> AV -> AV -> AV -> AV -> AV -> AV -> AV -> AV -> AS -> Prop) -> Prop} {σ : AS} {K : AV -> AV -> AV -> AV -> AV -> AV -> AV -> AV -> AV -> AS -> Prop} : oG [l0, l1, l2, l3, l4, l5, l6, l7, l8] (cnd x (.b y)) false body σ K = oG [l0, l1, l2, l3, l4, l5, l6, l7, l8] (.b (x && !y)) true body σ K := dd
theorem gct_10 {l0 l1 l2 l3 l4 l5 l6 l7 l8 l9 : Nat} {x y : Bool} {body : (AV -> AV -> AV -> AV -> AV -> AV -> AV -> AV -> AV -> AV -> AS -> Prop) -> Prop} {σ : AS} {K : AV -> AV -> AV -> AV -> AV -> AV -> AV -> AV -> AV -> AV -> AS -> Prop} : oG [l0, l1, l2, l3, l4, l5, l6, l7, l8, l9] (cnd x (.b y)) true body σ K = oG [l0, l1, l2, l3, l4, l5, l6, l7, l8, l9] (.b (x && y)) true body σ K := dc
theorem gcf_10 {l0 l1 l2 l3 l4 l5 l6 l7 l8 l9 : Nat} {x y : Bool} {body : (AV -> AV -> AV -> AV -> AV -> AV -> AV -> AV -> AV -> AV -> AS -> Prop) -> Prop} {σ : AS} {K : AV -> AV -> AV -> AV -> AV -> AV -> AV -> AV -> AV -> AV -> AS -> Prop} : oG [l0, l1, l2, l3, l4, l5, l6, l7, l8, l9] (cnd x (.b y)) false body σ K = oG [l0, l1, l2, l3, l4, l5, l6, l7, l8, l9] (.b (x && !y)) true body σ K := dd
theorem gct_11 {l0 l1 l2 l3 l4 l5 l6 l7 l8 l9 l10 : Nat} {x y : Bool} {body : (AV -> AV -> AV -> AV -> AV -> AV -> AV -> AV -> AV -> AV -> AV -> AS -> Prop) -> Prop} {σ : AS} {K : AV -> AV -> AV -> AV -> AV -> AV -> AV -> AV -> AV -> AV -> AV -> AS -> Prop} : oG [l0, l1, l2, l3, l4, l5, l6, l7, l8, l9, l10] (cnd x (.b y)) true body σ K = oG [l0, l1, l2, l3, l4, l5, l6, l7, l8, l9, l10] (.b (x && y)) true body σ K := dc
theorem gcf_11 {l0 l1 l2 l3 l4 l5 l6 l7 l8 l9 l10 : Nat} {x y : Bool} {body : (AV -> AV -> AV -> AV -> AV -> AV -> AV -> AV -> AV -> AV -> AV -> AS -> Prop) -> Prop} {σ : AS} {K : AV -> AV -> AV -> AV -> AV -> AV -> AV -> AV -> AV -> AV -> AV -> AS -> Prop} : oG [l0, l1, l2, l3, l4, l5, l6, l7, l8, l9, l10] (cnd x (.b y)) false body σ K = oG [l0, l1, l2, l3, l4, l5, l6, l7, l8, l9, l10] (.b (x && !y)) true body σ K := dd
theorem gct_12 {l0 l1 l2 l3 l4 l5 l6 l7 l8 l9 l10 l11 : Nat} {x y : Bool} {body : (AV -> AV -> AV -> AV -> AV -> AV -> AV -> AV -> AV -> AV -> AV -> AV -> AS -> Prop) -> Prop} {σ : AS} {K : AV -> AV -> AV -> AV -> AV -> AV -> AV -> AV -> AV -> AV -> AV -> AV -> AS -> Prop} : oG [l0, l1, l2, l3, l4, l5, l6, l7, l8, l9, l10, l11] (cnd x (.b y)) true body σ K = oG [l0, l1, l2, l3, l4, l5, l6, l7, l8, l9, l10, l11] (.b (x && y)) true body σ K := dc
theorem gcf_12 {l0 l1 l2 l3 l4 l5 l6 l7 l8 l9 l10 l11 : Nat} {x y : Bool} {body : (AV -> AV -> AV -> AV -> AV -> AV -> AV -> AV -> AV -> AV -> AV -> AV -> AS -> Prop) -> Prop} {σ : AS} {K : AV -> AV -> AV -> AV -> AV -> AV -> AV -> AV -> AV -> AV -> AV -> AV -> AS -> Prop} : oG [l0, l1, l2, l3, l4, l5, l6, l7, l8, l9, l10, l11] (cnd x (.b y)) false body σ K = oG [l0, l1, l2, l3, l4, l5, l6, l7, l8, l9, l10, l11] (.b (x && !y)) true body σ K := dd
theorem gct_13 {l0 l1 l2 l3 l4 l5 l6 l7 l8 l9 l10 l11 l12 : Nat} {x y : Bool} {body : (AV -> AV -> AV -> AV -> AV -> AV -> AV -> AV -> AV -> AV -> AV -> AV -> AV -> AS -> Prop) -> Prop} {σ : AS} {K : AV -> AV -> AV -> AV -> AV -> AV -> AV -> AV -> AV -> AV -> AV -> AV -> AV -> AS -> Prop} : oG [l0, l1, l2, l3, l4, l5, l6, l7, l8, l9, l10, l11, l12] (cnd x (.b y)) true body σ K = oG [l0, l1, l2, l3, l4, l5, l6, l7, l8, l9, l10, l11, l12] (.b (x && y)) true body σ K := dc
theorem gcf_13 {l0 l1 l2 l3 l4 l5 l6 l7 l8 l9 l10 l11 l12 : Nat} {x y : Bool} {body : (AV -> AV -> AV -> AV -> AV -> AV -> AV -> AV -> AV -> AV -> AV -> AV -> AV -> AS -> Prop) -> Prop} {σ : AS} {K : AV -> AV -> AV -> AV -> AV -> AV -> AV -> AV -> AV -> AV -> AV -> AV -> AV -> AS -> Prop} : oG [l0, l1, l2, l3, l4, l5, l6, l7, l8, l9, l10, l11, l12] (cnd x (.b y)) false body σ K = oG [l0, l1, l2, l3, l4, l5, l6, l7, l8, l9, l10, l11, l12] (.b (x && !y)) true body σ K := dd
theorem gct_14 {l0 l1 l2 l3 l4 l5 l6 l7 l8 l9 l10 l11 l12 l13 : Nat} {x y : Bool} {body : (AV -> AV -> AV -> AV -> AV -> AV -> AV -> AV -> AV -> AV -> AV -> AV -> AV -> AV -> AS -> Prop) -> Prop} {σ : AS} {K : AV -> AV -> AV -> AV -> AV -> AV -> AV -> AV -> AV -> AV -> AV -> AV -> AV -> AV -> AS -> Prop} : oG [l0, l1, l2, l3, l4, l5, l6, l7, l8, l9, l10, l11, l12, l13] (cnd x (.b y)) true body σ K = oG [l0, l1, l2, l3, l4, l5, l6, l7, l8, l9, l10, l11, l12, l13] (.b (x && y)) true body σ K := dc
theorem gcf_14 {l0 l1 l2 l3 l4 l5 l6 l7 l8 l9 l10 l11 l12 l13 : Nat} {x y : Bool} {body : (AV -> AV -> AV -> AV -> AV -> AV -> AV -> AV -> AV -> AV -> AV -> AV -> AV -> AV -> AS -> Prop) -> Prop} {σ : AS} {K : AV -> AV -> AV -> AV -> AV -> AV -> AV -> AV -> AV -> AV -> AV -> AV -> AV -> AV -> AS -> Prop} : oG [l0, l1, l2, l3, l4, l5, l6, l7, l8, l9, l10, l11, l12, l13] (cnd x (.b y)) false body σ K = oG [l0, l1, l2, l3, l4, l5, l6, l7, l8, l9, l10, l11, l12, l13] (.b (x && !y)) true body σ K := dd
theorem rF {l d : Nat} {c x y : Bool} {σ : AS} {K : AV -> AS -> Prop} : oG [l] (.b c) true (fun k : AV -> AS -> Prop => oV d (au (cnd c (.b x)) (some (cnd (c && x) (.b y))) (some (.b false))) fun v => k v σ) σ K = K (cnd c (.b (x && y))) σ := by
 cases c <;> cases x <;> cases y <;> first | rfl | (simp [oG, cnd, au, oV, eW])
theorem uB {l d : Nat} {c x y : Bool} {σ : AS} {K : AV -> AS -> Prop} : oG [l] (.b c) false (fun k : AV -> AS -> Prop => oV d (au (cnd (!c) (.b x)) (some (.b true)) (some (cnd (!c && !x) (.b y)))) fun v => k v σ) σ K = K (cnd (!c) (.b (x || y))) σ := by
 cases c <;> cases x <;> cases y <;> first | rfl | (simp [oG, cnd, au, oV, eW])
theorem uz {l d : Nat} {c x y : Bool} {σ : AS} {K : AV -> AS -> Prop} : oG [l] (.b c) true (fun k : AV -> AS -> Prop => oV d (au (cnd c (.b (!x))) (some (.b true)) (some (cnd (c && x) (.b y)))) fun v => k v σ) σ K = K (cnd c (.b (!x || y))) σ := by
 cases c <;> cases x <;> cases y <;> first | rfl | (simp [oG, cnd, au, oV, eW])
theorem rE {l d : Nat} {c x y : Bool} {σ : AS} {K : AV -> AS -> Prop} : oG [l] (.b c) false (fun k : AV -> AS -> Prop => oV d (au (cnd (!c) (.b (!x))) (some (.b true)) (some (cnd (!c && x) (.b y)))) fun v => k v σ) σ K = K (cnd (!c) (.b (!x || y))) σ := by
 cases c <;> cases x <;> cases y <;> first | rfl | (simp [oG, cnd, au, oV, eW])
theorem ex0 (a : AV) (l : List AV) : aI 0 (.tup (a :: l)) = some a := rfl
theorem ex1 (a b : AV) (l : List AV) : aI 1 (.tup (a :: b :: l)) = some b := rfl
theorem rng_9 (s : List UInt8) : mt T0 9 (.s s) = some (.siter s 0, fun id => .ptr id 0) := by
 have e : T0.ty 9 = some .string := by kernel_rfl
 simp only [mt, e]
theorem uy {s : List UInt8} {j : Nat} (hj : j < s.length) (h : dm (s.getD j 0).toNat = false) : nmB s = false := by
 unfold nmB; rw [fr (p := fun c : UInt8 => dm c.toNat) (d := 0) hj h]; rfl
theorem tx_no {s : List UInt8} {j : Nat} (hj : j < s.length) (h : fP (s.getD j 0).toNat = false) : txB s = false := by
 unfold txB; rw [fr (p := fun c : UInt8 => fP c.toNat) (d := 0) hj h]; rfl
theorem vb4 : type_of% (And.intro @Nat.zero_add (And.intro @aa (And.intro @aS (And.intro @aM (And.intro @aF (And.intro @bt (And.intro @eG (And.intro @dl (And.intro @fg (And.intro @aG (And.intro @aA (And.intro @bw (And.intro @bK (And.intro @cJ (And.intro @td (And.intro @decide_not (And.intro @iV (And.intro @iW (And.intro @decide_true (And.intro @decide_false (And.intro @not_true (And.intro @not_false_eq_true (And.intro @Bool.not_true (And.intro @Bool.not_false (And.intro @Bool.not_not (And.intro @ri (And.intro @oz (And.intro @wo (And.intro @oZ_l (And.intro @cg (And.intro @cx (And.intro @Int.toNat_natCast @Int.toNat_zero)))))))))))))))))))))))))))))))) := And.intro @Nat.zero_add (And.intro @aa (And.intro @aS (And.intro @aM (And.intro @aF (And.intro @bt (And.intro @eG (And.intro @dl (And.intro @fg (And.intro @aG (And.intro @aA (And.intro @bw (And.intro @bK (And.intro @cJ (And.intro @td (And.intro @decide_not (And.intro @iV (And.intro @iW (And.intro @decide_true (And.intro @decide_false (And.intro @not_true (And.intro @not_false_eq_true (And.intro @Bool.not_true (And.intro @Bool.not_false (And.intro @Bool.not_not (And.intro @ri (And.intro @oz (And.intro @wo (And.intro @oZ_l (And.intro @cg (And.intro @cx (And.intro @Int.toNat_natCast @Int.toNat_zero)))))))))))))))))))))))))))))))
theorem dF : type_of% (And.intro @cG (And.intro @pu @yS)) := And.intro @cG (And.intro @pu @yS)
theorem ee : type_of% (And.intro @gN @yW) := And.intro @gN @yW
theorem c60 (s : List UInt8) (hl : s.length <= 140737488351232) : R T0 60 [.s s] (.b (nmB s)) := by
 refine r60 _ rfl rfl ?_
 unfold w60
 dsimp only [av]
 rw [rng_9, eG, aS]
 refine rI (X := Nat) (fun _ => .s s) (fun _ => .ptr 0 0) (fun j σ => j <= s.length /\ σ.h.get 0 = some (.siter s j) /\ (s.take j).all (fun c => dm c.toNat) = true) (fun j => s.length - j) ?_ 0 _ ⟨Nat.zero_le _, rfl, rfl⟩
 rintro R j ⟨h, n⟩ ⟨hj, hg, ha⟩ hR
 dsimp only at hg
 by_cases hj' : j < s.length
 ·rcases Nat.lt_or_ge (s.getD j 0).toNat 128 with hc | hc
  ·rw [next_lt hg hj' hc, aM]
   cases hq : dm ((s.getD j 0).toNat : Nat)
   ·simp (disch := first | omega | assumption | (intros; simp only [dl0]; try omega)) only [vb4, ne_eq, ee, dF, mm, List.getElem?_cons_zero, List.getElem?_cons_succ, dz, vb5, e66, hq, uy hj' hq]
   ·simp (disch := first | omega | assumption | (intros; simp only [dl0]; try omega)) only [vb4, ne_eq, ee, dF, mm, List.getElem?_cons_zero, List.getElem?_cons_succ, dz, vb5, e66, hq]
    exact hR (j + 1) _ ⟨by omega, af _ _ _, aV (d := 0) ha hj' hq⟩ (by omega)
  ·obtain ⟨r, w, hr, he⟩ := next_ge (n := n) hg hj' hc
   rw [he, aM]
   simp (disch := first | omega | assumption | (intros; simp only [dl0]; try omega)) only [vb4, ne_eq, ee, dF, mm, List.getElem?_cons_zero, List.getElem?_cons_succ, dz, vb5, e66, uD (show (128 : Int) <= (r : Nat) by omega)]
   rw [uy hj' (uD (by omega))]
 ·rw [next_no hg (by omega), aM]
  have hall := cT ha (by omega)
  simp (disch := first | omega | assumption | (intros; simp only [dl0]; try omega)) only [vb4, ne_eq, ee, dF, mm, List.getElem?_cons_zero, List.getElem?_cons_succ, dz, vb5, kz, mc, iD, mO]
  rw [nmB, hall]
  have : (!decide (s.length = 0)) = decide (0 < s.length) := by
   by_cases q : s.length = 0 <;> simp [q, Nat.pos_iff_ne_zero]
  have q2 : ((s.length : Nat) : Int) <= 40 ↔ s.length <= 40 := by omega
  simp only [this, Bool.true_and, q2]
theorem e60 {s : List UInt8} (hl : s.length <= 140737488351232) {d : Nat} {σ : AS} {K : AV -> AS -> Prop} : oC T0 d 60 [.s s] σ K = K (.b (nmB s)) σ := (c60 s hl).eq d σ K
theorem bj : type_of% (And.intro @cw @pq) := And.intro @cw @pq
theorem cy : type_of% (And.intro @aa @cw) := And.intro @aa @cw
theorem gQ : type_of% (And.intro @aC (And.intro @dz @idx_9)) := And.intro @aC (And.intro @dz @idx_9)
theorem iq : type_of% (And.intro @ck @yX) := And.intro @ck @yX
theorem c62 (s : List UInt8) (hl : s.length <= 140737488351232) : R T0 62 [.s s] (.b (nmB s)) := by
 refine r62 _ rfl rfl ?_
 unfold w62
 dsimp only [av]
 refine rI (X := Nat) (fun _ => .s s) (fun j => .i .i64 (j : Nat)) (fun j σ => j <= s.length /\ (s.take j).all (fun c => dm c.toNat) = true) (fun j => s.length - j) ?_ 0 _ ⟨Nat.zero_le _, rfl⟩
 rintro R j σ ⟨hj, ha⟩ hR
 simp (disch := first | omega | assumption | (intros; simp only [dl0]; try omega)) only [cy, dz]
 refine aU (fun h => ?_) (fun h => ?_)
 ·have hj' : j < s.length := by omega
  cases hq : dm ((s.getD j 0).toNat : Nat)
  ·simp (disch := first | omega | assumption | (intros; simp only [dl0]; try omega)) only [vb0, ne_eq, bj, ee, iq, gQ, vb5, e93, hq, uy hj' hq]
  ·simp (disch := first | omega | assumption | (intros; simp only [dl0]; try omega)) only [vb0, ne_eq, bj, ee, iq, gQ, vb5, e93, hq]
   exact hR (j + 1) _ ⟨by omega, aV (d := 0) ha hj' hq⟩ (by omega)
 ·have hall := cT ha (by omega)
  simp (disch := first | omega | assumption | (intros; simp only [dl0]; try omega)) only [vb0, ne_eq, bj, ee, iq, gQ, vb5, kz, iD]
  rw [nmB, hall]
  have q1 : (0 : Int) < (s.length : Nat) ↔ 0 < s.length := by omega
  have q2 : ((s.length : Nat) : Int) <= 40 ↔ s.length <= 40 := by omega
  simp only [Bool.true_and, q1, q2]
theorem e62 {s : List UInt8} (hl : s.length <= 140737488351232) {d : Nat} {σ : AS} {K : AV -> AS -> Prop} : oC T0 d 62 [.s s] σ K = K (.b (nmB s)) σ := (c62 s hl).eq d σ K
theorem gR : type_of% (And.intro @rS (And.intro @oc (And.intro @rT (And.intro @rV (And.intro @uX (And.intro @ye @yh)))))) := And.intro @rS (And.intro @oc (And.intro @rT (And.intro @rV (And.intro @uX (And.intro @ye @yh)))))
theorem jG : type_of% (And.intro @gtt_5 (And.intro @gff_5 (And.intro @gtf_5 (And.intro @gft_5 (And.intro @gvv_5 (And.intro @gnt_5 @gnf_5)))))) := And.intro @gtt_5 (And.intro @gff_5 (And.intro @gtf_5 (And.intro @gft_5 (And.intro @gvv_5 (And.intro @gnt_5 @gnf_5)))))
theorem c63 (s : List UInt8) (hl : s.length <= 140737488351232) : R T0 63 [.s s] (.b (txB s)) := by
 refine r63 _ rfl rfl ?_
 unfold w63
 dsimp only [av]
 refine rI (X := Nat) (fun _ => .s s) (fun j => .i .i64 (j : Nat)) (fun j σ => j <= s.length /\ (s.take j).all (fun c => fP c.toNat) = true) (fun j => s.length - j) ?_ 0 _ ⟨Nat.zero_le _, rfl⟩
 rintro R j σ ⟨hj, ha⟩ hR
 simp (disch := first | omega | assumption | (intros; simp only [dl0]; try omega)) only [cy, dz]
 refine aU (fun h => ?_) (fun h => ?_)
 ·have hj' : j < s.length := by omega
  generalize hc : (s.getD j 0).toNat = c
  have no : fP (c : Nat) = false -> txB s = false := fun q => tx_no hj' (by rw [hc]; exact q)
  have yes : fP (c : Nat) = true -> (s.take (j + 1)).all (fun c => fP c.toNat) = true := fun q => aV (d := 0) ha hj' (by rw [hc]; exact q)
  simp (disch := first | omega | assumption | (intros; simp only [dl0]; try omega)) only [vb0, ne_eq, bj, vb8, iq, dF, gQ, gR, jG, hc]
  repeat' ((first | with_reducible refine aU (fun h => ?_) (fun h => ?_) | with_reducible refine oe (fun h => ?_) (fun h => ?_) | with_reducible refine ym (fun h => ?_) (fun h => ?_) | with_reducible refine gdt_5 (fun h => ?_) (fun h => ?_) | with_reducible refine og (fun h => ?_) (fun h => ?_) | with_reducible refine yo (fun h => ?_) (fun h => ?_) | with_reducible refine gdf_5 (fun h => ?_) (fun h => ?_) | with_reducible refine oh (fun h => ?_) (fun h => ?_) | with_reducible refine yr (fun h => ?_) (fun h => ?_) | with_reducible refine gbt_5 (fun h => ?_) (fun h => ?_) | with_reducible refine oi (fun h => ?_) (fun h => ?_) | with_reducible refine yv (fun h => ?_) (fun h => ?_) | with_reducible refine gbf_5 (fun h => ?_) (fun h => ?_) | with_reducible refine gi (fun h => ?_) (fun h => ?_)) <;> try simp (disch := first | omega | assumption | (intros; simp only [dl0]; try omega)) only [h, vb0, ne_eq, bj, vb8, iq, dF, gQ, gR, jG, hc])
  all_goals first
   | exact hR (j + 1) _ ⟨by omega, yes (decide_eq_true (by omega))⟩ (by omega)
   | rw [no (decide_eq_false (by omega))]
 ·have hall := cT ha (by omega)
  simp (disch := first | omega | assumption | (intros; simp only [dl0]; try omega)) only [vb0, ne_eq, bj, vb8, iq, dF, gQ, gR, jG]
  rw [txB, hall]
  have q2 : ((s.length : Nat) : Int) <= 200 ↔ s.length <= 200 := by omega
  simp only [Bool.true_and, q2]
theorem e63 {s : List UInt8} (hl : s.length <= 140737488351232) {d : Nat} {σ : AS} {K : AV -> AS -> Prop} : oC T0 d 63 [.s s] σ K = K (.b (txB s)) σ := (c63 s hl).eq d σ K
theorem c119 (s : List UInt8) (hl : s.length <= 140737488351232) : R T0 119 [.s s] (.b (txB s)) := by
 refine r119 _ rfl rfl ?_
 unfold w119
 dsimp only [av]
 simp (disch := first | omega | assumption | (intros; simp only [dl0]; try omega)) only [aa, dz]
 refine fV (X := Nat) (fun _ => .s s) (fun _ => .i .i64 (s.length : Nat)) (fun j => .i .i64 (j : Nat)) (fun j σ => j <= s.length /\ (s.take j).all (fun c => fP c.toNat) = true) (fun j => s.length - j) ?_ 0 _ ⟨Nat.zero_le _, rfl⟩
 rintro R j σ ⟨hj, ha⟩ hR
 simp (disch := first | omega | assumption | (intros; simp only [dl0]; try omega)) only [cy]
 refine aU (fun h => ?_) (fun h => ?_)
 ·have hj' : j < s.length := by omega
  generalize hc : (s.getD j 0).toNat = c
  have no : fP (c : Nat) = false -> txB s = false := fun q => tx_no hj' (by rw [hc]; exact q)
  have yes : fP (c : Nat) = true -> (s.take (j + 1)).all (fun c => fP c.toNat) = true := fun q => aV (d := 0) ha hj' (by rw [hc]; exact q)
  simp (disch := first | omega | assumption | (intros; simp only [dl0]; try omega)) only [vb0, ne_eq, bj, vb8, iq, dF, gQ, gR, jG, hc]
  repeat' ((first | with_reducible refine aU (fun h => ?_) (fun h => ?_) | with_reducible refine oe (fun h => ?_) (fun h => ?_) | with_reducible refine ym (fun h => ?_) (fun h => ?_) | with_reducible refine gdt_5 (fun h => ?_) (fun h => ?_) | with_reducible refine og (fun h => ?_) (fun h => ?_) | with_reducible refine yo (fun h => ?_) (fun h => ?_) | with_reducible refine gdf_5 (fun h => ?_) (fun h => ?_) | with_reducible refine oh (fun h => ?_) (fun h => ?_) | with_reducible refine yr (fun h => ?_) (fun h => ?_) | with_reducible refine gbt_5 (fun h => ?_) (fun h => ?_) | with_reducible refine oi (fun h => ?_) (fun h => ?_) | with_reducible refine yv (fun h => ?_) (fun h => ?_) | with_reducible refine gbf_5 (fun h => ?_) (fun h => ?_) | with_reducible refine gi (fun h => ?_) (fun h => ?_)) <;> try simp (disch := first | omega | assumption | (intros; simp only [dl0]; try omega)) only [h, vb0, ne_eq, bj, vb8, iq, dF, gQ, gR, jG, hc])
  all_goals first
   | exact hR (j + 1) _ ⟨by omega, yes (decide_eq_true (by omega))⟩ (by omega)
   | rw [no (decide_eq_false (by omega))]
 ·have hall := cT ha (by omega)
  simp (disch := first | omega | assumption | (intros; simp only [dl0]; try omega)) only [vb0, ne_eq, bj, vb8, iq, dF, gQ, gR, jG]
  rw [txB, hall]
  have q2 : ((s.length : Nat) : Int) <= 200 ↔ s.length <= 200 := by omega
  simp only [Bool.true_and, q2]
theorem e119 {s : List UInt8} (hl : s.length <= 140737488351232) {d : Nat} {σ : AS} {K : AV -> AS -> Prop} : oC T0 d 119 [.s s] σ K = K (.b (txB s)) σ := (c119 s hl).eq d σ K
theorem c103 (s : List UInt8) (hl : s.length <= 140737488351232) : R T0 103 [.s s] (.b (nmB s)) := by
 refine r103 _ rfl rfl ?_
 unfold w103
 dsimp only [av]
 simp (disch := first | omega | assumption | (intros; simp only [dl0]; try omega)) only [aa, dz]
 refine fV (X := Nat) (fun _ => .s s) (fun _ => .i .i64 (s.length : Nat)) (fun j => .i .i64 (j : Nat)) (fun j σ => j <= s.length /\ (s.take j).all (fun c => dm c.toNat) = true) (fun j => s.length - j) ?_ 0 _ ⟨Nat.zero_le _, rfl⟩
 rintro R j σ ⟨hj, ha⟩ hR
 simp (disch := first | omega | assumption | (intros; simp only [dl0]; try omega)) only [cy]
 refine aU (fun h => ?_) (fun h => ?_)
 ·have hj' : j < s.length := by omega
  generalize hc : (s.getD j 0).toNat = c
  have no : dm (c : Nat) = false -> nmB s = false := fun q => uy hj' (by rw [hc]; exact q)
  have yes : dm (c : Nat) = true -> (s.take (j + 1)).all (fun c => dm c.toNat) = true := fun q => aV (d := 0) ha hj' (by rw [hc]; exact q)
  simp (disch := first | omega | assumption | (intros; simp only [dl0]; try omega)) only [vb0, ne_eq, bj, vb8, kU, vb9, gQ, vb5, hc]
  repeat' ((first | with_reducible refine aU (fun h => ?_) (fun h => ?_) | with_reducible refine oe (fun h => ?_) (fun h => ?_) | with_reducible refine yn (fun h => ?_) (fun h => ?_) | with_reducible refine rX (fun h => ?_) (fun h => ?_) | with_reducible refine og (fun h => ?_) (fun h => ?_) | with_reducible refine yp (fun h => ?_) (fun h => ?_) | with_reducible refine rY (fun h => ?_) (fun h => ?_) | with_reducible refine oh (fun h => ?_) (fun h => ?_) | with_reducible refine yu (fun h => ?_) (fun h => ?_) | with_reducible refine rZ (fun h => ?_) (fun h => ?_) | with_reducible refine oi (fun h => ?_) (fun h => ?_) | with_reducible refine yw (fun h => ?_) (fun h => ?_) | with_reducible refine sa (fun h => ?_) (fun h => ?_) | with_reducible refine gi (fun h => ?_) (fun h => ?_)) <;> try simp (disch := first | omega | assumption | (intros; simp only [dl0]; try omega)) only [h, vb0, ne_eq, bj, vb8, kU, vb9, gQ, vb5, hc])
  all_goals first
   | exact hR (j + 1) _ ⟨by omega, yes (decide_eq_true (by omega))⟩ (by omega)
   | rw [no (decide_eq_false (by omega))]
 ·have hall := cT ha (by omega)
  simp (disch := first | omega | assumption | (intros; simp only [dl0]; try omega)) only [vb0, ne_eq, bj, vb8, kU, vb9, gQ, vb5, kz, pn, mc, iD]
  rw [nmB, hall]
  have q1 : (1 : Int) <= (s.length : Nat) ↔ 0 < s.length := by omega
  have q2 : ((s.length : Nat) : Int) <= 40 ↔ s.length <= 40 := by omega
  simp only [Bool.true_and, q1, q2]
theorem zN {s : List UInt8} (hl : s.length <= 140737488351232) {d : Nat} {σ : AS} {K : AV -> AS -> Prop} : oC T0 d 103 [.s s] σ K = K (.b (nmB s)) σ := (c103 s hl).eq d σ K
theorem c92 (s : List UInt8) (hl : s.length <= 140737488351232) : R T0 92 [.s s] (.b (nmB s)) := by
 refine r92 _ rfl rfl ?_
 unfold w92
 dsimp only [av]
 refine rI (X := Nat) (fun _ => .s s) (fun j => .i .i64 (j : Nat)) (fun j σ => j <= s.length /\ (s.take j).all (fun c => dm c.toNat) = true) (fun j => s.length - j) ?_ 0 _ ⟨Nat.zero_le _, rfl⟩
 rintro R j σ ⟨hj, ha⟩ hR
 simp (disch := first | omega | assumption | (intros; simp only [dl0]; try omega)) only [cy, dz]
 refine aU (fun h => ?_) (fun h => ?_)
 ·have hj' : j < s.length := by omega
  generalize hc : (s.getD j 0).toNat = c
  have no : dm (c : Nat) = false -> nmB s = false := fun q => uy hj' (by rw [hc]; exact q)
  have yes : dm (c : Nat) = true -> (s.take (j + 1)).all (fun c => dm c.toNat) = true := fun q => aV (d := 0) ha hj' (by rw [hc]; exact q)
  simp (disch := first | omega | assumption | (intros; simp only [dl0]; try omega)) only [vb0, ne_eq, bj, vb8, kU, dF, gQ, vb5, hc]
  repeat' ((first | with_reducible refine aU (fun h => ?_) (fun h => ?_) | with_reducible refine oe (fun h => ?_) (fun h => ?_) | with_reducible refine yn (fun h => ?_) (fun h => ?_) | with_reducible refine rX (fun h => ?_) (fun h => ?_) | with_reducible refine og (fun h => ?_) (fun h => ?_) | with_reducible refine yp (fun h => ?_) (fun h => ?_) | with_reducible refine rY (fun h => ?_) (fun h => ?_) | with_reducible refine oh (fun h => ?_) (fun h => ?_) | with_reducible refine yu (fun h => ?_) (fun h => ?_) | with_reducible refine rZ (fun h => ?_) (fun h => ?_) | with_reducible refine oi (fun h => ?_) (fun h => ?_) | with_reducible refine yw (fun h => ?_) (fun h => ?_) | with_reducible refine sa (fun h => ?_) (fun h => ?_) | with_reducible refine gi (fun h => ?_) (fun h => ?_)) <;> try simp (disch := first | omega | assumption | (intros; simp only [dl0]; try omega)) only [h, vb0, ne_eq, bj, vb8, kU, dF, gQ, vb5, hc])
  all_goals first
   | exact hR (j + 1) _ ⟨by omega, yes (decide_eq_true (by omega))⟩ (by omega)
   | rw [no (decide_eq_false (by omega))]
 ·have hall := cT ha (by omega)
  simp (disch := first | omega | assumption | (intros; simp only [dl0]; try omega)) only [vb0, ne_eq, bj, vb8, kU, dF, gQ, vb5, kz, pn, mc, iD]
  rw [nmB, hall]
  have q1 : (1 : Int) <= (s.length : Nat) ↔ 0 < s.length := by omega
  have q2 : ((s.length : Nat) : Int) <= 40 ↔ s.length <= 40 := by omega
  simp only [Bool.true_and, q1, q2]
theorem e92 {s : List UInt8} (hl : s.length <= 140737488351232) {d : Nat} {σ : AS} {K : AV -> AS -> Prop} : oC T0 d 92 [.s s] σ K = K (.b (nmB s)) σ := (c92 s hl).eq d σ K
theorem c111 (s : List UInt8) (hl : s.length <= 140737488351232) : R T0 111 [.s s] (.b (txB s)) := by
 refine r111 _ rfl rfl ?_
 unfold w111
 dsimp only [av]
 refine rI (X := Nat) (fun _ => .s s) (fun j => .i .i64 (j : Nat)) (fun j σ => j <= s.length /\ (s.take j).all (fun c => fP c.toNat) = true) (fun j => s.length - j) ?_ 0 _ ⟨Nat.zero_le _, rfl⟩
 rintro R j σ ⟨hj, ha⟩ hR
 simp (disch := first | omega | assumption | (intros; simp only [dl0]; try omega)) only [cy, dz]
 refine aU (fun h => ?_) (fun h => ?_)
 ·have hj' : j < s.length := by omega
  generalize hc : (s.getD j 0).toNat = c
  have no : fP (c : Nat) = false -> txB s = false := fun q => tx_no hj' (by rw [hc]; exact q)
  have yes : fP (c : Nat) = true -> (s.take (j + 1)).all (fun c => fP c.toNat) = true := fun q => aV (d := 0) ha hj' (by rw [hc]; exact q)
  simp (disch := first | omega | assumption | (intros; simp only [dl0]; try omega)) only [vb0, ne_eq, bj, vb8, iq, dF, gQ, gR, jG, hc]
  repeat' ((first | with_reducible refine aU (fun h => ?_) (fun h => ?_) | with_reducible refine oe (fun h => ?_) (fun h => ?_) | with_reducible refine ym (fun h => ?_) (fun h => ?_) | with_reducible refine gdt_5 (fun h => ?_) (fun h => ?_) | with_reducible refine og (fun h => ?_) (fun h => ?_) | with_reducible refine yo (fun h => ?_) (fun h => ?_) | with_reducible refine gdf_5 (fun h => ?_) (fun h => ?_) | with_reducible refine oh (fun h => ?_) (fun h => ?_) | with_reducible refine yr (fun h => ?_) (fun h => ?_) | with_reducible refine gbt_5 (fun h => ?_) (fun h => ?_) | with_reducible refine oi (fun h => ?_) (fun h => ?_) | with_reducible refine yv (fun h => ?_) (fun h => ?_) | with_reducible refine gbf_5 (fun h => ?_) (fun h => ?_) | with_reducible refine gi (fun h => ?_) (fun h => ?_)) <;> try simp (disch := first | omega | assumption | (intros; simp only [dl0]; try omega)) only [h, vb0, ne_eq, bj, vb8, iq, dF, gQ, gR, jG, hc])
  all_goals first
   | exact hR (j + 1) _ ⟨by omega, yes (decide_eq_true (by omega))⟩ (by omega)
   | rw [no (decide_eq_false (by omega))]
 ·have hall := cT ha (by omega)
  simp (disch := first | omega | assumption | (intros; simp only [dl0]; try omega)) only [vb0, ne_eq, bj, vb8, iq, dF, gQ, gR, jG]
  rw [txB, hall]
  have q2 : ((s.length : Nat) : Int) <= 200 ↔ s.length <= 200 := by omega
  simp only [Bool.true_and, q2]
theorem e111 {s : List UInt8} (hl : s.length <= 140737488351232) {d : Nat} {σ : AS} {K : AV -> AS -> Prop} : oC T0 d 111 [.s s] σ K = K (.b (txB s)) σ := (c111 s hl).eq d σ K
mutual
inductive Val where
 | mk (kind n : Int) (s : List UInt8) (list : List Val) (fields : List Fld)
inductive Fld where
 | mk (name : List UInt8) (v : Val)
end
def Val.kind : Val -> Int | .mk k _ _ _ _ => k
def Val.n : Val -> Int | .mk _ n _ _ _ => n
def Val.s : Val -> List UInt8 | .mk _ _ s _ _ => s
def Val.list : Val -> List Val | .mk _ _ _ l _ => l
def Val.fields : Val -> List Fld | .mk _ _ _ _ f => f
def Fld.name : Fld -> List UInt8 | .mk n _ => n
def Fld.v : Fld -> Val | .mk _ v => v
instance : Inhabited Val := ⟨.mk 0 0 [] [] []⟩
instance : Inhabited Fld := ⟨.mk [] default⟩
mutual
def aj : Val -> AV
 | .mk k n s l fs => .agg [.i .i64 k, .i .i64 n, .s s, .lst (vB l), .lst (vC fs)]
def az : Fld -> AV
 | .mk nm v => .agg (.s nm :: (aj v).cells)
def vB : List Val -> List AV
 | [] => []
 | v :: vs => aj v :: vB vs
def vC : List Fld -> List AV
 | [] => []
 | f :: fs => az f :: vC fs
end
theorem encVs_eq (l : List Val) : vB l = l.map aj := by
 induction l with
 | nil => rw [vB]; rfl
 | cons v vs ih => rw [vB, ih]; rfl
theorem encFs_eq (l : List Fld) : vC l = l.map az := by
 induction l with
 | nil => rw [vC]; rfl
 | cons v vs ih => rw [vC, ih]; rfl
theorem aw (v : Val) : aj v = .agg [.i .i64 v.kind, .i .i64 v.n, .s v.s, .lst (v.list.map aj), .lst (v.fields.map az)] := by
 cases v; rw [aj, encVs_eq, encFs_eq]; rfl
theorem bk (f : Fld) : az f = .agg (.s f.name :: (aj f.v).cells) := by
 cases f; rw [az]; rfl
mutual
inductive okV : Val -> Prop where
 | mk {k n : Int} {s : List UInt8} {l : List Val} {fs : List Fld} : (Lit.int .i64 k).wf = true -> (Lit.int .i64 n).wf = true -> s.length <= 140737488351232 -> l.length <= 140737488351232 -> fs.length <= 140737488351232 -> (∀ x ∈ l, okV x) -> (∀ f ∈ fs, okF f) -> okV (.mk k n s l fs)
inductive okF : Fld -> Prop where
 | mk {nm : List UInt8} {v : Val} : nm.length <= 140737488351232 -> okV v -> okF (.mk nm v)
end
theorem opnVF (m : Nat) : OpV Tryz.prog 35 aj okV m /\ OpV Tryz.prog 52 az okF m := by
 induction m with
 | zero =>
  refine ⟨⟨fun v => ?_, fun v => ?_, fun h => ?_⟩, ⟨fun v => ?_, fun v => ?_, fun h => ?_⟩⟩
  ·rw [aw]; kernel_rfl
  ·rw [aw]; rfl
  ·simp [DataW.trod] at h
  ·rw [bk, aw]; kernel_rfl
  ·rw [bk, aw]; rfl
  ·simp [DataW.trod] at h
 | succ m ih =>
  have sl := (OpV.slice (B := 80) (m := m) Tryz.underlying32 (by kernel_rfl) (by kernel_rfl) (of_decide_eq_true (by kernel_rfl)) ih.1).le (Nat.le_succ m)
  have sf := (OpV.slice (B := 96) (m := m) Tryz.underlying33 (by kernel_rfl) (by kernel_rfl) (of_decide_eq_true (by kernel_rfl)) ih.2).le (Nat.le_succ m)
  refine ⟨?_, ?_⟩
  ·refine (OpV.struct Tryz.underlying35 (by kernel_rfl) (OpF.cons (z := 1) (z' := 4) rfl (by kernel_rfl) (ta m) (OpF.cons (z := 1) (z' := 3) rfl (by kernel_rfl) (ta m) (OpF.cons (z := 1) (z' := 2) rfl (by kernel_rfl) (sZ m) (OpF.cons (z := 1) (z' := 1) rfl (by kernel_rfl) sl (OpF.one (z := 1) rfl (by kernel_rfl) sf)))))).iso (fun p => .mk p.1 p.2.1 p.2.2.1 p.2.2.2.1 p.2.2.2.2) (fun v => (v.kind, v.n, v.s, v.list, v.fields)) (fun v => ?_) (fun _ => rfl) (fun a h => ?_)
   ·rw [aw]; rfl
   ·obtain ⟨h1, h2, h3, h4, h5⟩ := h
    exact .mk h1 h2 h3 (Nat.le_trans (Nat.le_mul_of_pos_right _ (by decide)) h4.1) (Nat.le_trans (Nat.le_mul_of_pos_right _ (by decide)) h5.1) h4.2 h5.2
  ·refine (OpV.struct Tryz.underlying52 (by kernel_rfl) (OpF.cons (z := 1) (z' := 5) rfl (by kernel_rfl) (sZ m) (OpF.one (z := 5) rfl (by kernel_rfl) ih.1))).iso (fun p => .mk p.1 p.2) (fun f => (f.name, f.v)) (fun f => ?_) (fun _ => rfl) (fun a h => ?_)
   ·rw [bk]; rfl
   ·exact .mk h.1 h.2
theorem xw (m : Nat) : OpV Tryz.prog 35 aj okV m := (opnVF m).1
theorem bg (v : Val) : (aj v).cells.length = 5 := by rw [aw]; rfl
theorem br (f : Fld) : (az f).cells.length = 6 := by rw [bk, aw]; rfl
theorem dl3 : type_of% (And.intro @br (And.intro @bg (And.intro @bQ (And.intro @jp (And.intro @dlA (And.intro @dlC @dlN)))))) := And.intro @br (And.intro @bg (And.intro @bQ (And.intro @jp (And.intro @dlA (And.intro @dlC @dlN)))))
theorem dl1 : type_of% (And.intro @br (And.intro @bg (And.intro @bQ @jp))) := And.intro @br (And.intro @bg (And.intro @bQ @jp))
theorem qz (v : Val) : aK T0 3 ((aj v).cells.drop 0) = some (.i .i64 v.kind) := by rw [aw]; exact nU _ _
theorem yD (v : Val) : aK T0 3 ((aj v).cells.drop 1) = some (.i .i64 v.n) := by rw [aw]; exact nU _ _
theorem yC (v : Val) : aK T0 9 ((aj v).cells.drop 2) = some (.s v.s) := by rw [aw]; exact lM _ _
theorem jh (v : Val) : aK T0 32 ((aj v).cells.drop 3) = some (.lst (v.list.map aj)) := by rw [aw]; exact ofc_32 _ _
theorem gk (v : Val) : aK T0 33 ((aj v).cells.drop 4) = some (.lst (v.fields.map az)) := by rw [aw]; exact ofc_33 _ _
theorem fS (v : Val) : aK T0 35 (aj v).cells = some (aj v) := by rw [aw, kZ]; rfl
theorem iG (v : Val) : aK T0 35 ((aj v).cells.drop 0) = some (aj v) := fS v
theorem dQ (f : Fld) : aK T0 9 ((az f).cells.drop 0) = some (.s f.name) := by rw [bk]; exact lM _ _
theorem gY (f : Fld) : aK T0 35 ((az f).cells.drop 1) = some (aj f.v) := by rw [bk]; exact fS f.v
theorem dj (v : Val) {x : Val} (h : x ∈ v.list) : SizeOf.sizeOf x < SizeOf.sizeOf v := by
 obtain ⟨k, n, s, l, fs⟩ := v
 have := List.sizeOf_lt_of_mem (show x ∈ l from h)
 simp only [Val.mk.sizeOf_spec]; omega
theorem cr (v : Val) {f : Fld} (h : f ∈ v.fields) : SizeOf.sizeOf f.v < SizeOf.sizeOf v := by
 obtain ⟨k, n, s, l, fs⟩ := v
 have := List.sizeOf_lt_of_mem (show f ∈ fs from h)
 obtain ⟨nm, w⟩ := f
 simp only [Val.mk.sizeOf_spec, Fld.mk.sizeOf_spec, Fld.v] at this |-; omega
theorem dy {v : Val} (h : okV v) : v.s.length <= 140737488351232 /\ v.list.length <= 140737488351232 /\ v.fields.length <= 140737488351232 /\ (∀ x ∈ v.list, okV x) /\ (∀ f ∈ v.fields, okF f) := by
 cases h with
 | mk h1 h2 h3 h4 h5 h6 h7 => exact ⟨h3, h4, h5, h6, h7⟩
theorem lK {f : Fld} (h : okF f) : f.name.length <= 140737488351232 /\ okV f.v := by
 cases h with
 | mk h1 h2 => exact ⟨h1, h2⟩
theorem fj (v : Val) : aQ (aj v).cells = true := by rw [aw]; rfl
theorem lU (f : Fld) : aQ (az f).cells = true := by rw [bk, aw]; rfl
theorem free_V (v : Val) : (aj v).idfree = true := by rw [aw]; rfl
theorem norm_V (v : Val) : (aj v).norm = aj v := by rw [aw]; rfl
theorem frees_V (v : Val) : AV.idfree.idfrees (aj v).cells = true := by rw [aw]; rfl
theorem norms_V (v : Val) : AV.norm.norms (aj v).cells = (aj v).cells := by rw [aw]; rfl
theorem lL (f : Fld) : aK T0 52 (az f).cells = some (az f) := by rw [bk, aw, ofc_52]; rfl
theorem iH (f : Fld) : aK T0 52 ((az f).cells.drop 0) = some (az f) := lL f
theorem st_V {h : Tr AB} {id e : Nat} {g : Bool} {cs : List AV} (v : Val) (hc : cs.length = 5) : aB T0 (h.put id (some (.cells cs e g))) 35 (.ptr id 0) (aj v) = some ((h.put id (some (.cells cs e g))).put id (some (.cells (aj v).cells e g))) := mK gw (bg v) hc (fj v)
theorem st_F {h : Tr AB} {id e : Nat} {g : Bool} {cs : List AV} (v : Fld) (hc : cs.length = 6) : aB T0 (h.put id (some (.cells cs e g))) 52 (.ptr id 0) (az v) = some ((h.put id (some (.cells cs e g))).put id (some (.cells (az v).cells e g))) := mK tT (br v) hc (lU v)
theorem st_V0 {h : Tr AB} {id e : Nat} {g : Bool} (v : Val) : aB T0 (h.put id (some (.cells [.i .i64 0, .i .i64 0, .s [], .nilz true, .nilz true] e g))) 35 (.ptr id 0) (aj v) = some ((h.put id (some (.cells [.i .i64 0, .i .i64 0, .s [], .nilz true, .nilz true] e g))).put id (some (.cells (aj v).cells e g))) := st_V v rfl
theorem tX {h : Tr AB} {id e : Nat} {g : Bool} (v : Fld) : aB T0 (h.put id (some (.cells [.s [], .i .i64 0, .i .i64 0, .s [], .nilz true, .nilz true] e g))) 52 (.ptr id 0) (az v) = some ((h.put id (some (.cells [.s [], .i .i64 0, .i .i64 0, .s [], .nilz true, .nilz true] e g))).put id (some (.cells (az v).cells e g))) := st_F v rfl
theorem fld_F_v0 (f : Fld) : aK T0 3 ((az f).cells.drop 1) = some (.i .i64 f.v.kind) := by rw [bk, aw]; exact nU _ _
theorem fld_F_v2 (f : Fld) : aK T0 9 ((az f).cells.drop 3) = some (.s f.v.s) := by rw [bk, aw]; exact lM _ _
theorem oZ_V {v : Val} {σ : AS} {K : AV -> Prop} : oZ T0 σ (aj v) K = K (aj v) := by rw [dv (free_V v), norm_V]
def scB (v : Val) : Bool := if v.kind = 1 then decide (v.s.length = 0) && (decide (v.n = 0) || decide (v.n = 1)) else if v.kind = 2 then decide (v.s.length = 0) && decide (-1000000000000000 <= v.n) && decide (v.n <= 1000000000000000)
 else if v.kind = 3 then decide (v.n = 0) && txB v.s else if v.kind = 0 ∨ v.kind = 4 ∨ v.kind = 5 then decide (v.n = 0) && decide (v.s.length = 0) else false
theorem fG (v : Val) : AV.idfree.idfrees [aj v] = true := by rw [aw]; rfl
theorem gG (v : Val) : AV.norm.norms [aj v] = [aj v] := by rw [aw]; rfl
theorem ng (v : Val) (n : Int) : AV.idfree.idfrees [aj v, .i .i64 n] = true := by rw [aw]; rfl
theorem mQ (v : Val) (n : Int) : AV.norm.norms [aj v, .i .i64 n] = [aj v, .i .i64 n] := by rw [aw]; rfl
theorem vb1 : type_of% (And.intro @cN (And.intro @bP (And.intro @af (And.intro @ae (And.intro @xx (And.intro @dP (And.intro @qz (And.intro @yD (And.intro @yC (And.intro @jh (And.intro @gk (And.intro @fS (And.intro @iG (And.intro @dQ (And.intro @gY (And.intro @lL (And.intro @iH (And.intro @st_V0 (And.intro @tX (And.intro @ii (And.intro @jT (And.intro @rQ @nW)))))))))))))))))))))) := And.intro @cN (And.intro @bP (And.intro @af (And.intro @ae (And.intro @xx (And.intro @dP (And.intro @qz (And.intro @yD (And.intro @yC (And.intro @jh (And.intro @gk (And.intro @fS (And.intro @iG (And.intro @dQ (And.intro @gY (And.intro @lL (And.intro @iH (And.intro @st_V0 (And.intro @tX (And.intro @ii (And.intro @jT (And.intro @rQ @nW)))))))))))))))))))))
theorem bz : type_of% (And.intro @nT @bT) := And.intro @nT @bT
theorem fu : type_of% (And.intro @nz @pr) := And.intro @nz @pr
theorem c102 (v : Val) (ov : okV v) : R T0 102 [aj v] (.b (scB v)) := by
 have hs := (dy ov).1
 refine r102 _ (fG v) (gG v) ?_
 unfold w102
 dsimp only [av]
 simp (disch := first | omega | assumption | (intros; simp only [dl1]; try omega)) only [vb0, ne_eq, vb8, fu, vb9, vb1, bz, fp, vb5, gR, e119 hs]
 repeat' ((first | with_reducible refine aU (fun h => ?_) (fun h => ?_) | with_reducible refine oe (fun h => ?_) (fun h => ?_) | with_reducible refine rX (fun h => ?_) (fun h => ?_) | with_reducible refine ym (fun h => ?_) (fun h => ?_) | with_reducible refine og (fun h => ?_) (fun h => ?_) | with_reducible refine rY (fun h => ?_) (fun h => ?_) | with_reducible refine yo (fun h => ?_) (fun h => ?_) | with_reducible refine oh (fun h => ?_) (fun h => ?_) | with_reducible refine rZ (fun h => ?_) (fun h => ?_) | with_reducible refine yr (fun h => ?_) (fun h => ?_) | with_reducible refine oi (fun h => ?_) (fun h => ?_) | with_reducible refine sa (fun h => ?_) (fun h => ?_) | with_reducible refine yv (fun h => ?_) (fun h => ?_) | with_reducible refine gi (fun h => ?_) (fun h => ?_)) <;> try simp (disch := first | omega | assumption | (intros; simp only [dl1]; try omega)) only [h, vb0, ne_eq, vb8, fu, vb9, vb1, bz, fp, vb5, gR, e119 hs])
 all_goals first | (simp_all [scB]; done) | (simp_all [scB]; omega)
theorem e102 {v : Val} (ov : okV v) {d : Nat} {σ : AS} {K : AV -> AS -> Prop} : oC T0 d 102 [aj v] σ K = K (.b (scB v)) σ := (c102 v ov).eq d σ K
theorem c91 (v : Val) (ov : okV v) : R T0 91 [aj v] (.b (scB v)) := by
 have hs := (dy ov).1
 refine r91 _ (fG v) (gG v) ?_
 unfold w91
 dsimp only [av]
 simp (disch := first | omega | assumption | (intros; simp only [dl1]; try omega)) only [vb0, ne_eq, ee, fu, vb9, vb1, bz, fp, vb5, e111 hs]
 repeat' ((first | with_reducible refine aU (fun h => ?_) (fun h => ?_) | with_reducible refine rX (fun h => ?_) (fun h => ?_) | with_reducible refine rY (fun h => ?_) (fun h => ?_) | with_reducible refine rZ (fun h => ?_) (fun h => ?_) | with_reducible refine sa (fun h => ?_) (fun h => ?_) | with_reducible refine gi (fun h => ?_) (fun h => ?_)) <;> try simp (disch := first | omega | assumption | (intros; simp only [dl1]; try omega)) only [h, vb0, ne_eq, ee, fu, vb9, vb1, bz, fp, vb5, e111 hs])
 all_goals first | (simp_all [scB]; done) | (simp_all [scB]; omega)
theorem e91 {v : Val} (ov : okV v) {d : Nat} {σ : AS} {K : AV -> AS -> Prop} : oC T0 d 91 [aj v] σ K = K (.b (scB v)) σ := (c91 v ov).eq d σ K
def lJ (fs : List Fld) (i : Nat) : Bool := decide (i = 0) || Op.bytesLess (fs.getD (i - 1) default).name (fs.getD i default).name
def jA (v : Val) : Bool := scB v && !(!decide (v.kind = 4) && decide (0 < v.list.length)) && !(!decide (v.kind = 5) && decide (0 < v.fields.length)) && decide (v.list.length <= 64) && decide (v.fields.length <= 64)
def aW : Nat -> Val -> Bool
 | 0, _ => false
 | k + 1, v => jA v && v.list.all (aW k) && (List.range v.fields.length).all (fun i => nmB (v.fields.getD i default).name && lJ v.fields i && aW k (v.fields.getD i default).v)
theorem fa {p : Nat -> Bool} {j : Nat} (h : (List.range j).all p = true) (hp : p j = true) : (List.range (j + 1)).all p = true := by
 rw [List.range_succ, List.all_append, h]; simpa using hp
theorem ul {p : Nat -> Bool} {n j : Nat} (hj : j < n) (hp : p j = false) : (List.range n).all p = false := by
 rw [List.all_eq_false]
 exact ⟨j, List.mem_range.2 hj, by simpa using hp⟩
theorem head_eq (v : Val) : (!scB v || !decide (v.kind = 4) && decide ((0 : Int) < (v.list.length : Nat)) || !decide (v.kind = 5) && decide ((0 : Int) < (v.fields.length : Nat)) || decide ((64 : Int) < (v.list.length : Nat)) || decide ((64 : Int) < (v.fields.length : Nat))) = !jA v := by
 have q1 : (0 : Int) < (v.list.length : Nat) ↔ 0 < v.list.length := by omega
 have q2 : (0 : Int) < (v.fields.length : Nat) ↔ 0 < v.fields.length := by omega
 have q3 : (64 : Int) < (v.list.length : Nat) ↔ ¬ v.list.length <= 64 := by omega
 have q4 : (64 : Int) < (v.fields.length : Nat) ↔ ¬ v.fields.length <= 64 := by omega
 unfold jA
 simp only [q1, q2, q3, q4, decide_not, Bool.not_and, Bool.not_not]
 cases scB v <;> cases decide (v.kind = 4) <;> cases decide (v.kind = 5) <;> cases decide (0 < v.list.length) <;> cases decide (0 < v.fields.length) <;> rfl
theorem kV {k : Nat} {v : Val} (h : jA v = false) : aW (k + 1) v = false := by
 unfold aW; rw [h]; rfl
theorem pF {k j : Nat} {v : Val} (hj : j < v.list.length) (h : aW k (v.list.getD j default) = false) : aW (k + 1) v = false := by
 unfold aW; rw [fr (d := default) hj h]; simp
theorem dn {k j : Nat} {v : Val} (hj : j < v.fields.length) (h : (nmB (v.fields.getD j default).name && lJ v.fields j && aW k (v.fields.getD j default).v) = false) : aW (k + 1) v = false := by
 unfold aW; rw [ul (p := fun i => nmB (v.fields.getD i default).name && lJ v.fields i && aW k (v.fields.getD i default).v) hj h]; simp
theorem vb2 : type_of% (And.intro @vD (And.intro @sv (And.intro @xZ (And.intro @ya (And.intro @pn (And.intro @xY (And.intro @kz (And.intro @mc (And.intro @xW (And.intro @xX (And.intro @xU (And.intro @xV (And.intro @xS (And.intro @xT (And.intro @xQ (And.intro @xR (And.intro @xO (And.intro @xP (And.intro @xM (And.intro @xN (And.intro @vf (And.intro @vg (And.intro @vd (And.intro @ve (And.intro @uZ (And.intro @vb (And.intro @gct_1 (And.intro @gcf_1 (And.intro @gct_2 (And.intro @gcf_2 (And.intro @gct_3 (And.intro @gcf_3 (And.intro @gct_4 (And.intro @gcf_4 (And.intro @gct_5 (And.intro @gcf_5 (And.intro @gct_6 (And.intro @gcf_6 (And.intro @gct_7 (And.intro @gcf_7 (And.intro @gct_8 (And.intro @gcf_8 (And.intro @gct_9 (And.intro @gcf_9 (And.intro @gct_10 (And.intro @gcf_10 (And.intro @gct_11 (And.intro @gcf_11 (And.intro @gct_12 (And.intro @gcf_12 (And.intro @gct_13 (And.intro @gcf_13 (And.intro @gct_14 (And.intro @gcf_14 (And.intro @iD (And.intro @xu (And.intro @mO (And.intro @ut (And.intro @uC (And.intro @xz (And.intro @rG (And.intro @uA (And.intro @rF (And.intro @uB (And.intro @uz (And.intro @rE @oZ_V)))))))))))))))))))))))))))))))))))))))))))))))))))))))))))))))))) := And.intro @vD (And.intro @sv (And.intro @xZ (And.intro @ya (And.intro @pn (And.intro @xY (And.intro @kz (And.intro @mc (And.intro @xW (And.intro @xX (And.intro @xU (And.intro @xV (And.intro @xS (And.intro @xT (And.intro @xQ (And.intro @xR (And.intro @xO (And.intro @xP (And.intro @xM (And.intro @xN (And.intro @vf (And.intro @vg (And.intro @vd (And.intro @ve (And.intro @uZ (And.intro @vb (And.intro @gct_1 (And.intro @gcf_1 (And.intro @gct_2 (And.intro @gcf_2 (And.intro @gct_3 (And.intro @gcf_3 (And.intro @gct_4 (And.intro @gcf_4 (And.intro @gct_5 (And.intro @gcf_5 (And.intro @gct_6 (And.intro @gcf_6 (And.intro @gct_7 (And.intro @gcf_7 (And.intro @gct_8 (And.intro @gcf_8 (And.intro @gct_9 (And.intro @gcf_9 (And.intro @gct_10 (And.intro @gcf_10 (And.intro @gct_11 (And.intro @gcf_11 (And.intro @gct_12 (And.intro @gcf_12 (And.intro @gct_13 (And.intro @gcf_13 (And.intro @gct_14 (And.intro @gcf_14 (And.intro @iD (And.intro @xu (And.intro @mO (And.intro @ut (And.intro @uC (And.intro @xz (And.intro @rG (And.intro @uA (And.intro @rF (And.intro @uB (And.intro @uz (And.intro @rE @oZ_V)))))))))))))))))))))))))))))))))))))))))))))))))))))))))))))))))
theorem vb3 : type_of% (And.intro @cw (And.intro @pq (And.intro @ck (And.intro @yX (And.intro @bG (And.intro @tH (And.intro @yU (And.intro @cG (And.intro @pu (And.intro @yS (And.intro @aC (And.intro @bE (And.intro @nT (And.intro @bT (And.intro @md (And.intro @jC (And.intro @kN (And.intro @nZ (And.intro @xL (And.intro @yg (And.intro @yj (And.intro @gg (And.intro @od (And.intro @kM (And.intro @jB (And.intro @uY (And.intro @yf (And.intro @yi (And.intro @rS (And.intro @oc (And.intro @rT (And.intro @rV (And.intro @uX (And.intro @ye (And.intro @yh (And.intro @gtt_10 (And.intro @gff_10 (And.intro @gtf_10 (And.intro @gft_10 (And.intro @gvv_10 (And.intro @gnt_10 @gnf_10))))))))))))))))))))))))))))))))))))))))) := And.intro @cw (And.intro @pq (And.intro @ck (And.intro @yX (And.intro @bG (And.intro @tH (And.intro @yU (And.intro @cG (And.intro @pu (And.intro @yS (And.intro @aC (And.intro @bE (And.intro @nT (And.intro @bT (And.intro @md (And.intro @jC (And.intro @kN (And.intro @nZ (And.intro @xL (And.intro @yg (And.intro @yj (And.intro @gg (And.intro @od (And.intro @kM (And.intro @jB (And.intro @uY (And.intro @yf (And.intro @yi (And.intro @rS (And.intro @oc (And.intro @rT (And.intro @rV (And.intro @uX (And.intro @ye (And.intro @yh (And.intro @gtt_10 (And.intro @gff_10 (And.intro @gtf_10 (And.intro @gft_10 (And.intro @gvv_10 (And.intro @gnt_10 @gnf_10))))))))))))))))))))))))))))))))))))))))
theorem iU : type_of% (And.intro @yb (And.intro @gff_6 (And.intro @gtf_6 (And.intro @yk (And.intro @gvv_6 (And.intro @gnt_6 @gnf_6)))))) := And.intro @yb (And.intro @gff_6 (And.intro @gtf_6 (And.intro @yk (And.intro @gvv_6 (And.intro @gnt_6 @gnf_6)))))
theorem c83 : ∀ (k : Nat) (v : Val), okV v -> k <= 1000 -> R T0 83 [aj v, .i .i64 (k : Nat)] (.b (aW k v)) := by
 intro k
 induction k with
 | zero =>
  intro v ov _
  refine r83 _ _ (ng v _) (mQ v _) ?_
  unfold w83
  dsimp only [av]
  simp (disch := first | omega | assumption | (intros; simp only [dl1]; try omega)) only [vb0, ne_eq, vb3, fu, vb1, iU, vb2, Bool.true_and, Int.ofNat_zero, Int.natCast_zero]
  rfl
 | succ k ih =>
  intro v ov hk
  obtain ⟨ls, ll, lf, ol, of_⟩ := dy ov
  have er : ∀ x, okV x -> ∀ (d : Nat) (σ : AS) (K : AV -> AS -> Prop), oC T0 d 83 [aj x, .i .i64 (k : Nat)] σ K = K (.b (aW k x)) σ := fun x hx d σ K => (ih x hx (by omega)).eq d σ K
  have z0 : decide (((k + 1 : Nat) : Int) = 0) = false := decide_eq_false (by omega)
  refine r83 _ _ (ng v _) (mQ v _) ?_
  unfold w83
  dsimp only [av]
  simp (config := { maxSteps := 1000000 }) (disch := first | omega | assumption | (intros; simp only [dl1]; try omega)) only [vb0, ne_eq, vb3, fu, vb1, iU, vb2, Bool.true_and, z0, e102 ov]
  rw [head_eq]
  cases hd : jA v
  ·rw [Bool.not_false, aG, kV hd]
  rw [Bool.not_true, aA]
  refine gW (X := Nat) (fun _ => .i .i64 ((k + 1 : Nat) : Int)) (fun _ => .ptr 0 0) (fun _ => .lst (v.list.map aj)) (fun _ => .i .i64 (v.list.length : Nat)) (fun j => .i .i64 (j : Nat))
   (fun j σ => j <= v.list.length /\ 1 <= σ.n /\ σ.h.get 0 = some (.cells (aj v).cells 35 false) /\ (v.list.take j).all (aW k) = true) (fun j => v.list.length - j) ?_ 0 _ ⟨Nat.zero_le _, Nat.le_refl _, af _ _ _, rfl⟩
  rintro R j σ ⟨hj, hn, hg, ha⟩ hR
  simp only [cy]
  have kk : ((k + 1 : Nat) : Int) - 1 = (k : Nat) := by omega
  refine aU (fun h => ?_) (fun h => ?_)
  ·have hj' : j < v.list.length := by omega
   have hm := ol _ (bh hj')
   have er' := er _ hm
   cases hv : aW k (v.list.getD j default)
   ·simp (disch := first | omega | assumption | (intros; simp only [dl1]; try omega)) only [vb0, ne_eq, vb3, fu, vb1, iU, kk, er', hv, pF hj' hv]
   ·simp (disch := first | omega | assumption | (intros; simp only [dl1]; try omega)) only [vb0, ne_eq, vb3, fu, vb1, iU, kk, er', hv]
    refine hR (j + 1) _ ⟨by omega, Nat.le_succ_of_le hn, ?_, aV (d := default) ha hj' hv⟩ (by omega)
    dsimp only
    rw [ae _ _ (by omega), ae _ _ (by omega)]; exact hg
  ·have hall := cT ha (by omega)
   clear hR ha
   simp (disch := first | omega | assumption | (intros; simp only [dl1]; try omega)) only [vb0, ne_eq, vb3, fu, vb1, iU, hg]
   refine gW (X := Nat) (fun _ => .i .i64 ((k + 1 : Nat) : Int)) (fun _ => .ptr 0 0) (fun _ => .lst (v.fields.map az)) (fun _ => .i .i64 (v.fields.length : Nat)) (fun j => .i .i64 (j : Nat))
    (fun j σ => j <= v.fields.length /\ 1 <= σ.n /\ σ.h.get 0 = some (.cells (aj v).cells 35 false) /\ (List.range j).all (fun i => nmB (v.fields.getD i default).name && lJ v.fields i && aW k (v.fields.getD i default).v) = true) (fun j => v.fields.length - j) ?_ 0 _ ⟨Nat.zero_le _, hn, hg, rfl⟩
   rintro R j σ ⟨hj, hn, hg, ha⟩ hR
   simp only [cy]
   refine aU (fun h => ?_) (fun h => ?_)
   ·have hj' : j < v.fields.length := by omega
    obtain ⟨hfn, hfv⟩ := lK (of_ _ (bh hj'))
    have er' := er _ hfv
    cases hnm : nmB (v.fields.getD j default).name
    ·have hF : aW (k + 1) v = false := dn hj' (by rw [hnm]; rfl)
     simp (disch := first | omega | assumption | (intros; simp only [dl1]; try omega)) only [vb0, ne_eq, vb3, fu, vb1, iU, kk, zN hfn, hnm, hF]
    ·by_cases j0 : j = 0
     ·subst j0
      have d0 : decide ((0 : Int) < ((0 : Nat) : Int)) = false := rfl
      cases hv : aW k (v.fields.getD 0 default).v
      ·have hF : aW (k + 1) v = false := dn hj' (by rw [hv]; simp)
       simp (disch := first | omega | assumption | (intros; simp only [dl1]; try omega)) only [vb0, ne_eq, vb3, fu, vb1, iU, kk, zN hfn, hnm, d0, er', hv, hF]
      ·simp (disch := first | omega | assumption | (intros; simp only [dl1]; try omega)) only [vb0, ne_eq, vb3, fu, vb1, iU, kk, zN hfn, hnm, d0, er', hv]
       refine hR (0 + 1) _ ⟨by omega, Nat.le_succ_of_le hn, ?_, fa ha (by rw [hnm, hv]; rfl)⟩ (by omega)
       dsimp only
       rw [ae _ _ (by omega), ae _ _ (by omega)]; exact hg
     ·have d0 : decide ((0 : Int) < (j : Nat)) = true := decide_eq_true (by omega)
      have jm : ((j : Nat) : Int) - 1 = ((j - 1 : Nat) : Int) := by omega
      cases ho : Op.bytesLess (v.fields.getD (j - 1) default).name (v.fields.getD j default).name
      ·have hF : aW (k + 1) v = false := dn hj' (by unfold lJ; rw [ho, decide_eq_false j0]; simp)
       simp (disch := first | omega | assumption | (intros; simp only [dl1]; try omega)) only [vb0, ne_eq, vb3, fu, vb1, iU, kk, zN hfn, hnm, d0, hg, jm, ho, hF]
      ·have ho' : lJ v.fields j = true := by unfold lJ; rw [ho]; simp
       cases hv : aW k (v.fields.getD j default).v
       ·have hF : aW (k + 1) v = false := dn hj' (by rw [hv]; simp)
        simp (disch := first | omega | assumption | (intros; simp only [dl1]; try omega)) only [vb0, ne_eq, vb3, fu, vb1, iU, kk, zN hfn, hnm, d0, hg, jm, ho, er', hv, hF]
       ·simp (disch := first | omega | assumption | (intros; simp only [dl1]; try omega)) only [vb0, ne_eq, vb3, fu, vb1, iU, kk, zN hfn, hnm, d0, hg, jm, ho, er', hv]
        refine hR (j + 1) _ ⟨by omega, Nat.le_succ_of_le hn, ?_, fa ha (by rw [hnm, ho', hv]; rfl)⟩ (by omega)
        dsimp only
        rw [ae _ _ (by omega), ae _ _ (by omega)]; exact hg
   ·have hj0 : j = v.fields.length := by omega
    subst hj0
    unfold aW
    rw [hd, hall, ha]; rfl
theorem e83 {k : Nat} {v : Val} (ov : okV v) (hk : k <= 1000) {d : Nat} {σ : AS} {K : AV -> AS -> Prop} : oC T0 d 83 [aj v, .i .i64 (k : Nat)] σ K = K (.b (aW k v)) σ := (c83 k v ov hk).eq d σ K
theorem head_two (v : Val) : jA v = (!(!scB v || decide ((64 : Int) < (v.list.length : Nat)) || decide ((64 : Int) < (v.fields.length : Nat))) && !(!decide (v.kind = 4) && decide ((0 : Int) < (v.list.length : Nat)) || !decide (v.kind = 5) && decide ((0 : Int) < (v.fields.length : Nat)))) := by
 have q1 : (0 : Int) < (v.list.length : Nat) ↔ 0 < v.list.length := by omega
 have q2 : (0 : Int) < (v.fields.length : Nat) ↔ 0 < v.fields.length := by omega
 have q3 : (64 : Int) < (v.list.length : Nat) ↔ ¬ v.list.length <= 64 := by omega
 have q4 : (64 : Int) < (v.fields.length : Nat) ↔ ¬ v.fields.length <= 64 := by omega
 unfold jA
 simp only [q1, q2, q3, q4, decide_not]
 cases scB v <;> cases decide (v.kind = 4) <;> cases decide (v.kind = 5) <;> cases decide (0 < v.list.length) <;> cases decide (0 < v.fields.length) <;> cases decide (v.list.length <= 64) <;> cases decide (v.fields.length <= 64) <;> rfl
theorem kT : type_of% (And.intro @gtt_14 (And.intro @gff_14 (And.intro @gtf_14 (And.intro @gft_14 (And.intro @gvv_14 (And.intro @gnt_14 @gnf_14)))))) := And.intro @gtt_14 (And.intro @gff_14 (And.intro @gtf_14 (And.intro @gft_14 (And.intro @gvv_14 (And.intro @gnt_14 @gnf_14)))))
theorem c57 : ∀ (k : Nat) (v : Val), okV v -> k <= 1000 -> R T0 57 [aj v, .i .i64 (k : Nat)] (.b (aW k v)) := by
 intro k
 induction k with
 | zero =>
  intro v ov _
  refine r57 _ _ (ng v _) (mQ v _) ?_
  unfold w57
  dsimp only [av]
  simp (disch := first | omega | assumption | (intros; simp only [dl1]; try omega)) only [vb0, ne_eq, vb3, ee, vb1, kT, vb2, Bool.true_and, Int.ofNat_zero, Int.natCast_zero]
  rfl
 | succ k ih =>
  intro v ov hk
  obtain ⟨ls, ll, lf, ol, of_⟩ := dy ov
  have er : ∀ x, okV x -> ∀ (d : Nat) (σ : AS) (K : AV -> AS -> Prop), oC T0 d 57 [aj x, .i .i64 (k : Nat)] σ K = K (.b (aW k x)) σ := fun x hx d σ K => (ih x hx (by omega)).eq d σ K
  have z0 : decide (((k + 1 : Nat) : Int) = 0) = false := decide_eq_false (by omega)
  have kk : ((k + 1 : Nat) : Int) - 1 = (k : Nat) := by omega
  refine r57 _ _ (ng v _) (mQ v _) ?_
  unfold w57
  dsimp only [av]
  simp (config := { maxSteps := 1000000 }) (disch := first | omega | assumption | (intros; simp only [dl1]; try omega)) only [vb0, ne_eq, vb3, ee, vb1, kT, vb2, Bool.true_and, z0, e91 ov]
  have h2 := head_two v
  generalize (!scB v || decide ((64 : Int) < (v.list.length : Nat)) || decide ((64 : Int) < (v.fields.length : Nat))) = b1 at h2 |-
  generalize (!decide (v.kind = 4) && decide ((0 : Int) < (v.list.length : Nat)) || !decide (v.kind = 5) && decide ((0 : Int) < (v.fields.length : Nat))) = b2 at h2 |-
  cases b1
  rotate_left
  ·rw [aG, kV h2]
  cases b2
  rotate_left
  ·rw [aA, aG, kV h2]
  rw [aA, aA]
  have hd : jA v = true := h2
  refine fV (X := Nat) (fun _ => .i .i64 ((k + 1 : Nat) : Int)) (fun _ => .ptr 0 0) (fun j => .i .i64 (j : Nat))
   (fun j σ => j <= v.list.length /\ σ.h.get 0 = some (.cells (aj v).cells 35 false) /\ (v.list.take j).all (aW k) = true) (fun j => v.list.length - j) ?_ 0 _ ⟨Nat.zero_le _, af _ _ _, rfl⟩
  rintro R j σ ⟨hj, hg, ha⟩ hR
  simp (disch := first | omega | assumption | (intros; simp only [dl1]; try omega)) only [cy, bT, Nat.zero_add, cN, hg, bP, jh, ii, cg]
  refine aU (fun h => ?_) (fun h => ?_)
  ·have hj' : j < v.list.length := by omega
   have hm := ol _ (bh hj')
   have er' := er _ hm
   cases hv : aW k (v.list.getD j default)
   ·simp (disch := first | omega | assumption | (intros; simp only [dl1]; try omega)) only [vb0, ne_eq, vb3, ee, vb1, kT, kk, hg, er', hv, pF hj' hv]
   ·simp (disch := first | omega | assumption | (intros; simp only [dl1]; try omega)) only [vb0, ne_eq, vb3, ee, vb1, kT, kk, hg, er', hv]
    exact hR (j + 1) _ ⟨by omega, hg, aV (d := default) ha hj' hv⟩ (by omega)
  ·have hall := cT ha (by omega)
   clear hR ha
   refine fV (X := Nat) (fun _ => .i .i64 ((k + 1 : Nat) : Int)) (fun _ => .ptr 0 0) (fun j => .i .i64 (j : Nat))
    (fun j σ => j <= v.fields.length /\ σ.h.get 0 = some (.cells (aj v).cells 35 false) /\ (List.range j).all (fun i => nmB (v.fields.getD i default).name && lJ v.fields i && aW k (v.fields.getD i default).v) = true) (fun j => v.fields.length - j) ?_ 0 _ ⟨Nat.zero_le _, hg, rfl⟩
   rintro R j σ ⟨hj, hg, ha⟩ hR
   simp (disch := first | omega | assumption | (intros; simp only [dl1]; try omega)) only [cy, bT, Nat.zero_add, cN, hg, bP, gk, jT, cg]
   refine aU (fun h => ?_) (fun h => ?_)
   ·have hj' : j < v.fields.length := by omega
    obtain ⟨hfn, hfv⟩ := lK (of_ _ (bh hj'))
    have er' := er _ hfv
    cases hnm : nmB (v.fields.getD j default).name
    ·have hF : aW (k + 1) v = false := dn hj' (by rw [hnm]; rfl)
     simp (disch := first | omega | assumption | (intros; simp only [dl1]; try omega)) only [vb0, ne_eq, vb3, ee, vb1, kT, kk, hg, e92 hfn, hnm, hF]
    ·by_cases j0 : j = 0
     ·subst j0
      have d0 : decide ((0 : Int) < ((0 : Nat) : Int)) = false := rfl
      cases hv : aW k (v.fields.getD 0 default).v
      ·have hF : aW (k + 1) v = false := dn hj' (by rw [hv]; simp)
       simp (disch := first | omega | assumption | (intros; simp only [dl1]; try omega)) only [vb0, ne_eq, vb3, ee, vb1, kT, kk, hg, e92 hfn, hnm, d0, er', hv, hF]
      ·simp (disch := first | omega | assumption | (intros; simp only [dl1]; try omega)) only [vb0, ne_eq, vb3, ee, vb1, kT, kk, hg, e92 hfn, hnm, d0, er', hv]
       exact hR (0 + 1) _ ⟨by omega, hg, fa ha (by rw [hnm, hv]; rfl)⟩ (by omega)
     ·have d0 : decide ((0 : Int) < (j : Nat)) = true := decide_eq_true (by omega)
      have jm : ((j : Nat) : Int) - 1 = ((j - 1 : Nat) : Int) := by omega
      cases ho : Op.bytesLess (v.fields.getD (j - 1) default).name (v.fields.getD j default).name
      ·have hF : aW (k + 1) v = false := dn hj' (by unfold lJ; rw [ho, decide_eq_false j0]; simp)
       simp (disch := first | omega | assumption | (intros; simp only [dl1]; try omega)) only [vb0, ne_eq, vb3, ee, vb1, kT, kk, e92 hfn, hnm, d0, hg, jm, ho, hF]
      ·have ho' : lJ v.fields j = true := by unfold lJ; rw [ho]; simp
       cases hv : aW k (v.fields.getD j default).v
       ·have hF : aW (k + 1) v = false := dn hj' (by rw [hv]; simp)
        simp (disch := first | omega | assumption | (intros; simp only [dl1]; try omega)) only [vb0, ne_eq, vb3, ee, vb1, kT, kk, e92 hfn, hnm, d0, hg, jm, ho, er', hv, hF]
       ·simp (disch := first | omega | assumption | (intros; simp only [dl1]; try omega)) only [vb0, ne_eq, vb3, ee, vb1, kT, kk, e92 hfn, hnm, d0, hg, jm, ho, er', hv]
        exact hR (j + 1) _ ⟨by omega, hg, fa ha (by rw [hnm, ho', hv]; rfl)⟩ (by omega)
   ·have hj0 : j = v.fields.length := by omega
    subst hj0
    try rw [ri]
    unfold aW
    rw [hd, hall, ha]; rfl
theorem e57 {k : Nat} {v : Val} (ov : okV v) (hk : k <= 1000) {d : Nat} {σ : AS} {K : AV -> AS -> Prop} : oC T0 d 57 [aj v, .i .i64 (k : Nat)] σ K = K (.b (aW k v)) σ := (c57 k v ov hk).eq d σ K
mutual
def fv : Val -> Nat
 | .mk _ _ _ l fs => 1 + dr l + dM fs
def sizeF : Fld -> Nat
 | .mk _ v => fv v
def dr : List Val -> Nat
 | [] => 0
 | v :: vs => fv v + dr vs
def dM : List Fld -> Nat
 | [] => 0
 | f :: fs => sizeF f + dM fs
end
theorem pR (v : Val) : fv v = 1 + dr v.list + dM v.fields := by cases v; rw [fv]; rfl
theorem sizeF_eq (f : Fld) : sizeF f = fv f.v := by cases f; rw [sizeF]; rfl
theorem wa (a b : List Val) : dr (a ++ b) = dr a + dr b := by
 induction a with
 | nil => rw [List.nil_append, dr, Nat.zero_add]
 | cons x a ih => rw [List.cons_append, dr, dr, ih]; omega
theorem wb (a b : List Fld) : dM (a ++ b) = dM a + dM b := by
 induction a with
 | nil => rw [List.nil_append, dM, Nat.zero_add]
 | cons x a ih => rw [List.cons_append, dM, dM, ih]; omega
theorem dB {α : Type} [Inhabited α] {l : List α} {j : Nat} (hj : j < l.length) : l.take (j + 1) = l.take j ++ [l.getD j default] := by
 rw [List.take_add_one, List.getD_eq_getElem?_getD, List.getElem?_eq_getElem hj]; rfl
theorem nM {l : List Val} {j : Nat} (hj : j < l.length) : dr (l.take (j + 1)) = dr (l.take j) + fv (l.getD j default) := by
 rw [dB hj, wa, dr, dr, Nat.add_zero]
theorem nN {l : List Fld} {j : Nat} (hj : j < l.length) : dM (l.take (j + 1)) = dM (l.take j) + fv (l.getD j default).v := by
 rw [dB hj, wb, dM, dM, Nat.add_zero, sizeF_eq]
theorem oW (x : Int) : IntKind.wrap .i64 x = (x + 9223372036854775808) % 18446744073709551616 - 9223372036854775808 := by
 have : IntKind.wrap .i64 x = if (x % 18446744073709551616) ≥ 9223372036854775808 then x % 18446744073709551616 - 18446744073709551616 else x % 18446744073709551616 := by
  unfold IntKind.wrap; simp [IntKind.bits, IntKind.signed]
 rw [this]
 split <;> omega
theorem wR (x : Int) : ∃ k : Int, IntKind.wrap .i64 x = x + 18446744073709551616 * k := ⟨-((x + 9223372036854775808) / 18446744073709551616), by rw [oW]; omega⟩
theorem wrap_add (a b : Int) : IntKind.wrap .i64 (IntKind.wrap .i64 a + IntKind.wrap .i64 b) = IntKind.wrap .i64 (a + b) := by
 obtain ⟨k, hk⟩ := wR a
 obtain ⟨m, hm⟩ := wR b
 rw [hk, hm, oW, oW]
 have : a + 18446744073709551616 * k + (b + 18446744073709551616 * m) + 9223372036854775808 = a + b + 9223372036854775808 + 18446744073709551616 * (k + m) := by omega
 rw [this, Int.add_mul_emod_self_left]
def szW (n : Nat) : Int := IntKind.wrap .i64 (n : Nat)
theorem oY (a b : Nat) : IntKind.wrap .i64 (szW a + szW b) = szW (a + b) := by unfold szW; rw [wrap_add]; congr 1
theorem szW_one : szW 1 = 1 := by unfold szW; rw [oW]; rfl
theorem c84 (m : Nat) : ∀ v : Val, SizeOf.sizeOf v <= m -> okV v -> R T0 84 [aj v] (.i .i64 (szW (fv v))) := by
 induction m with
 | zero => intro v h; obtain ⟨_, _, _, _, _⟩ := v; simp only [Val.mk.sizeOf_spec] at h; omega
 | succ m ih =>
  intro v hsz ov
  obtain ⟨ls, ll, lf, ol, of_⟩ := dy ov
  refine r84 _ (fG v) (gG v) ?_
  unfold w84
  dsimp only [av]
  simp (disch := first | omega | assumption | (intros; simp only [dl1]; try omega)) only [vb0, ne_eq, bj, aC, vb1, bz]
  refine gW (X := Nat) (fun j => .i .i64 (szW (1 + dr (v.list.take j)))) (fun _ => .ptr 0 0) (fun _ => .lst (v.list.map aj)) (fun _ => .i .i64 (v.list.length : Nat)) (fun j => .i .i64 (j : Nat))
   (fun j σ => j <= v.list.length /\ 1 <= σ.n /\ σ.h.get 0 = some (.cells (aj v).cells 35 false)) (fun j => v.list.length - j) ?_ 0 _ ⟨Nat.zero_le _, Nat.le_refl _, af _ _ _⟩
  rintro R j σ ⟨hj, hn, hg⟩ hR
  simp only [cy]
  refine aU (fun h => ?_) (fun h => ?_)
  ·have hj' : j < v.list.length := by omega
   have hm := bh hj'
   have er : ∀ (d : Nat) (σ : AS) (K : AV -> AS -> Prop), oC T0 d 84 [aj (v.list.getD j default)] σ K = K (.i .i64 (szW (fv (v.list.getD j default)))) σ := fun d σ K => (ih _ (by have := dj v hm; omega) (ol _ hm)).eq d σ K
   simp (disch := first | omega | assumption | (intros; simp only [dl1]; try omega)) only [vb0, ne_eq, bj, aC, vb1, bz, er, oY, Nat.add_assoc, <- nM hj']
   refine hR (j + 1) _ ⟨by omega, Nat.le_succ_of_le hn, ?_⟩ (by omega)
   dsimp only
   rw [ae _ _ (by omega), ae _ _ (by omega)]; exact hg
  ·have hall : v.list.take j = v.list := List.take_of_length_le (by omega)
   rw [hall]
   clear hR
   simp (disch := first | omega | assumption | (intros; simp only [dl1]; try omega)) only [vb0, ne_eq, bj, aC, vb1, bz, hg]
   refine gJ (X := Nat) (fun j => .i .i64 (szW (1 + (dr v.list + dM (v.fields.take j))))) (fun _ => .lst (v.fields.map az)) (fun _ => .i .i64 (v.fields.length : Nat)) (fun j => .i .i64 (j : Nat))
    (fun j σ => j <= v.fields.length) (fun j => v.fields.length - j) ?_ 0 _ (Nat.zero_le _)
   rintro R j σ hj hR
   simp only [cy]
   refine aU (fun h => ?_) (fun h => ?_)
   ·have hj' : j < v.fields.length := by omega
    have hm := bh hj'
    have er : ∀ (d : Nat) (σ : AS) (K : AV -> AS -> Prop), oC T0 d 84 [aj (v.fields.getD j default).v] σ K = K (.i .i64 (szW (fv (v.fields.getD j default).v))) σ := fun d σ K => (ih _ (by have := cr v hm; omega) (lK (of_ _ hm)).2).eq d σ K
    simp (disch := first | omega | assumption | (intros; simp only [dl1]; try omega)) only [vb0, ne_eq, bj, aC, vb1, bz, er, oY, Nat.add_assoc, <- nN hj']
    exact hR (j + 1) _ (show j + 1 <= v.fields.length by omega) (by omega)
   ·have hall : v.fields.take j = v.fields := List.take_of_length_le (by omega)
    rw [hall, <- Nat.add_assoc, <- pR]
    try rw [oz]
theorem e84 {v : Val} (ov : okV v) {d : Nat} {σ : AS} {K : AV -> AS -> Prop} : oC T0 d 84 [aj v] σ K = K (.i .i64 (szW (fv v))) σ := (c84 _ v (Nat.le_refl _) ov).eq d σ K
theorem c58 (m : Nat) : ∀ v : Val, SizeOf.sizeOf v <= m -> okV v -> R T0 58 [aj v] (.i .i64 (szW (fv v))) := by
 induction m with
 | zero => intro v h; obtain ⟨_, _, _, _, _⟩ := v; simp only [Val.mk.sizeOf_spec] at h; omega
 | succ m ih =>
  intro v hsz ov
  obtain ⟨ls, ll, lf, ol, of_⟩ := dy ov
  refine r58 _ (fG v) (gG v) ?_
  unfold w58
  dsimp only [av]
  rw [aS]
  refine fV (X := Nat) (fun j => .i .i64 (szW (1 + dr (v.list.take j)))) (fun _ => .ptr 0 0) (fun j => .i .i64 (j : Nat))
   (fun j σ => j <= v.list.length /\ σ.h.get 0 = some (.cells (aj v).cells 35 false)) (fun j => v.list.length - j) ?_ 0 _ ⟨Nat.zero_le _, af _ _ _⟩
  rintro R j σ ⟨hj, hg⟩ hR
  simp (disch := first | omega | assumption | (intros; simp only [dl1]; try omega)) only [cy, bT, Nat.zero_add, cN, hg, bP, jh, ii, cg]
  refine aU (fun h => ?_) (fun h => ?_)
  ·have hj' : j < v.list.length := by omega
   have hm := bh hj'
   have er : ∀ (d : Nat) (σ : AS) (K : AV -> AS -> Prop), oC T0 d 58 [aj (v.list.getD j default)] σ K = K (.i .i64 (szW (fv (v.list.getD j default)))) σ := fun d σ K => (ih _ (by have := dj v hm; omega) (ol _ hm)).eq d σ K
   simp (disch := first | omega | assumption | (intros; simp only [dl1]; try omega)) only [vb0, ne_eq, bj, aC, vb1, bz, hg, er, oY, Nat.add_assoc, <- nM hj']
   exact hR (j + 1) _ ⟨by omega, hg⟩ (by omega)
  ·have hall : v.list.take j = v.list := List.take_of_length_le (by omega)
   rw [hall]
   clear hR
   refine fV (X := Nat) (fun j => .i .i64 (szW (1 + (dr v.list + dM (v.fields.take j))))) (fun _ => .ptr 0 0) (fun j => .i .i64 (j : Nat))
    (fun j σ => j <= v.fields.length /\ σ.h.get 0 = some (.cells (aj v).cells 35 false)) (fun j => v.fields.length - j) ?_ 0 _ ⟨Nat.zero_le _, hg⟩
   rintro R j σ ⟨hj, hg⟩ hR
   simp (disch := first | omega | assumption | (intros; simp only [dl1]; try omega)) only [cy, bT, Nat.zero_add, cN, hg, bP, gk, jT, cg]
   refine aU (fun h => ?_) (fun h => ?_)
   ·have hj' : j < v.fields.length := by omega
    have hm := bh hj'
    have er : ∀ (d : Nat) (σ : AS) (K : AV -> AS -> Prop), oC T0 d 58 [aj (v.fields.getD j default).v] σ K = K (.i .i64 (szW (fv (v.fields.getD j default).v))) σ := fun d σ K => (ih _ (by have := cr v hm; omega) (lK (of_ _ hm)).2).eq d σ K
    simp (disch := first | omega | assumption | (intros; simp only [dl1]; try omega)) only [vb0, ne_eq, bj, aC, vb1, bz, hg, er, oY, Nat.add_assoc, <- nN hj']
    exact hR (j + 1) _ ⟨by omega, hg⟩ (by omega)
   ·have hall : v.fields.take j = v.fields := List.take_of_length_le (by omega)
    rw [hall, <- Nat.add_assoc, <- pR]
    try rw [oz]
theorem e58 {v : Val} (ov : okV v) {d : Nat} {σ : AS} {K : AV -> AS -> Prop} : oC T0 d 58 [aj v] σ K = K (.i .i64 (szW (fv v))) σ := (c58 _ v (Nat.le_refl _) ov).eq d σ K
def eV (v : Val) : Bool := aW 12 v && decide (szW (fv v) <= 600)
theorem c54 (v : Val) (ov : okV v) : R T0 54 [aj v] (.b (eV v)) := by
 refine r54 _ (fG v) (gG v) ?_
 unfold w54
 dsimp only [av]
 have er : ∀ (d : Nat) (σ : AS) (K : AV -> AS -> Prop), oC T0 d 83 [aj v, .i .i64 12] σ K = K (.b (aW 12 v)) σ := fun d σ K => e83 (k := 12) ov (by decide)
 simp (disch := first | omega | assumption | (intros; simp only [dl1]; try omega)) only [vb4, ne_eq, ee, vb1, vb5, vb2, Bool.true_and, er, e84 ov]
 rfl
theorem e54 {v : Val} (ov : okV v) {d : Nat} {σ : AS} {K : AV -> AS -> Prop} : oC T0 d 54 [aj v] σ K = K (.b (eV v)) σ := (c54 v ov).eq d σ K
theorem c30 (v : Val) (ov : okV v) : R T0 30 [aj v] (.b (eV v)) := by
 refine r30 _ (fG v) (gG v) ?_
 unfold w30
 dsimp only [av]
 have er : ∀ (d : Nat) (σ : AS) (K : AV -> AS -> Prop), oC T0 d 57 [aj v, .i .i64 12] σ K = K (.b (aW 12 v)) σ := fun d σ K => e57 (k := 12) ov (by decide)
 simp (disch := first | omega | assumption | (intros; simp only [dl1]; try omega)) only [vb4, ne_eq, ee, vb1, vb5, vb2, Bool.true_and, er, e58 ov]
 rfl
theorem e30 {v : Val} (ov : okV v) {d : Nat} {σ : AS} {K : AV -> AS -> Prop} : oC T0 d 30 [aj v] σ K = K (.b (eV v)) σ := (c30 v ov).eq d σ K
def gS (s : List UInt8) : Val := .mk 3 0 s [] []
theorem okV_str {s : List UInt8} (hs : s.length <= 140737488351232) : okV (gS s) := .mk rfl rfl hs (by simp) (by simp) (fun x h => by cases h) (fun x h => by cases h)
theorem vld_str (s : List UInt8) : eV (gS s) = txB s := by
 have h1 : szW (fv (gS s)) = 1 := by
  have : fv (gS s) = 1 := by rw [pR]; show 1 + dr [] + dM [] = 1; rw [dr, dM]
  rw [this, szW_one]
 have h2 : aW 12 (gS s) = txB s := by
  show (jA (gS s) && ([] : List Val).all (aW 11) && (List.range 0).all _) = txB s
  have : jA (gS s) = txB s := by
   unfold jA scB gS Val.kind Val.n Val.s Val.list Val.fields; simp
  rw [this]; simp
 unfold eV; rw [h1, h2]; simp
theorem bld_35 (s : List UInt8) : aO T0 35 [(0, .i .i64 3), (2, .s s)] = some (.agg [.i .i64 3, .i .i64 0, .s s, .nilz true, .nilz true]) := by kernel_rfl
theorem c61 (s : List UInt8) : R T0 61 [.s s] (aj (gS s)) := by
 refine r61 _ rfl rfl ?_
 unfold w61
 dsimp only [av]
 rw [aS, bld_35, aa, mK gw rfl rfl rfl, aF, cM (af _ _ _) (Nat.zero_le _), List.drop_zero, kZ]
 refine ⟨1, _, rfl, ?_⟩
 rw [aw]; rfl
theorem e61 {s : List UInt8} {d : Nat} {σ : AS} {K : AV -> AS -> Prop} : oC T0 d 61 [.s s] σ K = K (aj (gS s)) σ := (c61 s).eq d σ K
def cf (x : XStep) : Bool := if x.kind_ = 1 then nmB x.name_ && decide (x.index_ = 0) && decide (x.value_.length = 0) else if x.kind_ = 2 then decide (0 <= x.index_) && decide (x.index_ <= 64) && decide (x.name_.length = 0) && decide (x.value_.length = 0)
 else if x.kind_ = 3 then nmB x.name_ && decide (x.index_ = 0) && txB x.value_ else false
theorem vb7 : type_of% (And.intro @cN (And.intro @bP (And.intro @af (And.intro @ae (And.intro @xx @dP))))) := And.intro @cN (And.intro @bP (And.intro @af (And.intro @ae (And.intro @xx @dP))))
theorem c35 (x : XStep) (ox : bL x) : R T0 35 [aq x] (.b (cf x)) := by
 have hn : x.name_.length <= 140737488351232 := ox.2.1
 have hv : x.value_.length <= 140737488351232 := ox.2.2.2
 have es : ∀ (d : Nat) (σ : AS) (K : AV -> AS -> Prop), oC T0 d 54 [aj (gS x.value_)] σ K = K (.b (txB x.value_)) σ := fun d σ K => by rw [e54 (okV_str hv), vld_str]
 refine r35 _ rfl rfl ?_
 unfold w35
 dsimp only [av]
 by_cases k1 : x.kind_ = 1
 ·simp (disch := first | omega | assumption | (intros; simp only [dl0]; try omega)) only [vb0, ne_eq, ee, fu, vb9, vb7, bz, vb5, gR, vb2, Bool.true_and, e60 hn, decide_eq_true k1]
  unfold cf; rw [if_pos k1]
 ·by_cases k2 : x.kind_ = 2
  ·simp (disch := first | omega | assumption | (intros; simp only [dl0]; try omega)) only [vb0, ne_eq, ee, fu, vb9, vb7, bz, vb5, gR, vb2, Bool.true_and, e60 hn, decide_eq_false k1, decide_eq_true k2]
   unfold cf; rw [if_neg k1, if_pos k2]
  ·by_cases k3 : x.kind_ = 3
   ·simp (disch := first | omega | assumption | (intros; simp only [dl0]; try omega)) only [vb0, ne_eq, ee, fu, vb9, vb7, bz, vb5, gR, vb2, Bool.true_and, e60 hn, e61, es, decide_eq_false k1, decide_eq_false k2, decide_eq_true k3]
    unfold cf; rw [if_neg k1, if_neg k2, if_pos k3]
   ·simp (disch := first | omega | assumption | (intros; simp only [dl0]; try omega)) only [vb0, ne_eq, ee, fu, vb9, vb7, bz, vb5, gR, vb2, Bool.true_and, e60 hn, decide_eq_false k1, decide_eq_false k2, decide_eq_false k3]
    unfold cf; rw [if_neg k1, if_neg k2, if_neg k3]
theorem e35 {x : XStep} (ox : bL x) {d : Nat} {σ : AS} {K : AV -> AS -> Prop} : oC T0 d 35 [aq x] σ K = K (.b (cf x)) σ := (c35 x ox).eq d σ K
theorem c36 (x : XStep) (ox : bL x) : R T0 36 [aq x] (.b (cf x)) := by
 have hn : x.name_.length <= 140737488351232 := ox.2.1
 have hv : x.value_.length <= 140737488351232 := ox.2.2.2
 refine r36 _ rfl rfl ?_
 unfold w36
 dsimp only [av]
 by_cases k1 : x.kind_ = 1
 ·simp (disch := first | omega | assumption | (intros; simp only [dl0]; try omega)) only [vb0, ne_eq, ee, fu, vb9, vb7, bz, vb5, vb2, Bool.true_and, e62 hn, decide_eq_true k1]
  unfold cf; rw [if_pos k1]
 ·by_cases k2 : x.kind_ = 2
  ·simp (disch := first | omega | assumption | (intros; simp only [dl0]; try omega)) only [vb0, ne_eq, ee, fu, vb9, vb7, bz, vb5, vb2, Bool.true_and, e62 hn, decide_eq_false k1, decide_eq_true k2]
   unfold cf; rw [if_neg k1, if_pos k2]
  ·by_cases k3 : x.kind_ = 3
   ·simp (disch := first | omega | assumption | (intros; simp only [dl0]; try omega)) only [vb0, ne_eq, ee, fu, vb9, vb7, bz, vb5, vb2, Bool.true_and, e62 hn, e63 hv, decide_eq_false k1, decide_eq_false k2, decide_eq_true k3]
    unfold cf; rw [if_neg k1, if_neg k2, if_pos k3]
    cases nmB x.name_ <;> cases txB x.value_ <;> cases decide (x.index_ = 0) <;> rfl
   ·simp (disch := first | omega | assumption | (intros; simp only [dl0]; try omega)) only [vb0, ne_eq, ee, fu, vb9, vb7, bz, vb5, vb2, Bool.true_and, e62 hn, decide_eq_false k1, decide_eq_false k2, decide_eq_false k3]
    unfold cf; rw [if_neg k1, if_neg k2, if_neg k3]; try rfl
theorem e36 {x : XStep} (ox : bL x) {d : Nat} {σ : AS} {K : AV -> AS -> Prop} : oC T0 d 36 [aq x] σ K = K (.b (cf x)) σ := (c36 x ox).eq d σ K
def fc (p : List XStep) : Bool := decide (p.length <= 16) && p.all cf
theorem eq50 (a b : XStep) : jD T0 20 50 (aq a) (aq b) = some ((a.kind_ == b.kind_) && ((a.name_ == b.name_) && ((a.index_ == b.index_) && ((a.value_ == b.value_) && true)))) := by kernel_rfl
theorem step_beq (a b : XStep) : ((a.kind_ == b.kind_) && ((a.name_ == b.name_) && ((a.index_ == b.index_) && ((a.value_ == b.value_) && true)))) = decide (a = b) := by
 rw [Bool.eq_iff_iff]
 cases a; cases b
 simp [XStep.mk.injEq]
theorem bne_50 (a b : XStep) (c : Bool) : ah T0 .neq 50 c (aq a) (aq b) = some (.b (!decide (a = b))) := by
 have h : T0.eq 50 = true := by kernel_rfl
 have e : ah T0 .neq 50 c (aq a) (aq b) = (match BinOp.neq, T0.eq 50 with
  | .eql, true => (jD T0 20 50 (aq a) (aq b)).map .b
  | .neq, true => (jD T0 20 50 (aq a) (aq b)).map fun r => .b (!r)
  | _, _ => none) := rfl
 rw [e, h, eq50, step_beq]; rfl
theorem c34 (x : XStep) (ox : bL x) : R T0 34 [aq x] (.b (!cf x)) := by
 refine r34 _ rfl rfl ?_
 unfold w34
 dsimp only [av]
 simp (disch := first | omega | assumption | (intros; simp only [dl0]; try omega)) only [vb0, ne_eq, vb7, e35 ox]
theorem e34 {x : XStep} (ox : bL x) {d : Nat} {σ : AS} {K : AV -> AS -> Prop} : oC T0 d 34 [aq x] σ K = K (.b (!cf x)) σ := (c34 x ox).eq d σ K
theorem wz {α : Type} {q : α -> Bool} {l : List α} {j : Nat} {d : α} (ha : (l.take j).all (fun x => !q x) = true) (hj : j < l.length) (hp : q (l.getD j d) = true) : l.findIdx q = j := by
 rw [List.findIdx_eq hj]
 have hg : l.getD j d = l[j] := by simp [List.getD_eq_getElem?_getD, hj]
 refine ⟨by rw [<- hg]; exact hp, fun i hi => ?_⟩
 rw [List.all_eq_true] at ha
 have : l[i] ∈ l.take j := by
  rw [List.mem_take_iff_getElem]
  exact ⟨i, by omega, rfl⟩
 simpa using ha _ this
def fY {α : Type} (q : α -> Bool) (l : List α) : Int := if l.findIdx q < l.length then (l.findIdx q : Nat) else -1
theorem jf {α : Type} {q : α -> Bool} {l : List α} {j : Nat} {d : α} (ha : (l.take j).all (fun x => !q x) = true) (hj : j < l.length) (hp : q (l.getD j d) = true) : fY q l = (j : Nat) := by
 unfold fY; rw [wz ha hj hp, if_pos hj]
theorem gX {α : Type} {q : α -> Bool} {l : List α} (ha : l.all (fun x => !q x) = true) : fY q l = -1 := by
 have : l.findIdx q = l.length := by
  rw [List.findIdx_eq_length]
  intro x hx
  rw [List.all_eq_true] at ha
  simpa using ha x hx
 unfold fY; rw [this, if_neg (by omega)]
theorem idxB_ge {α : Type} (q : α -> Bool) (l : List α) : decide (0 <= fY q l) = l.any q := by
 unfold fY
 cases h : l.any q
 ·have : ¬ l.findIdx q < l.length := by
   intro hlt
   have := List.findIdx_lt_length.1 hlt
   obtain ⟨x, hx, hq⟩ := this
   rw [List.any_eq_false] at h
   exact h x hx hq
  rw [if_neg this]; rfl
 ·have : l.findIdx q < l.length := by
   rw [List.any_eq_true] at h
   exact List.findIdx_lt_length.2 h
  rw [if_pos this]; simp
theorem kI : type_of% (And.intro @aC (And.intro @fi @ia_22)) := And.intro @aC (And.intro @fi @ia_22)
theorem c59 (p : List XStep) (hp : p.length <= 140737488351232) (ox : ∀ x ∈ p, bL x) : R T0 59 [.lst (p.map aq), .fn 34 [] []] (.i .i64 (fY (fun x => !cf x) p)) := by
 refine r59 _ _ rfl rfl ?_
 unfold w59
 dsimp only [av]
 simp (disch := first | omega | assumption | (intros; simp only [dl0]; try omega)) only [aa, fi, cg]
 refine gJ (X := Nat) (fun _ => .lst (p.map aq)) (fun _ => .fn 34 [] []) (fun _ => .i .i64 (p.length : Nat)) (fun j => .i .i64 (j : Nat)) (fun j σ => j <= p.length /\ (p.take j).all (fun x => !(!cf x)) = true) (fun j => p.length - j) ?_ 0 _ ⟨Nat.zero_le _, rfl⟩
 rintro R j σ ⟨hj, ha⟩ hR
 simp only [cy]
 refine aU (fun h => ?_) (fun h => ?_)
 ·have hj' : j < p.length := by omega
  have e34' := fun (d : Nat) (σ : AS) (K : AV -> AS -> Prop) => e34 (ox _ (bh hj')) (d := d) (σ := σ) (K := K)
  cases hs : cf (p.getD j default)
  ·simp (disch := first | omega | assumption | (intros; simp only [dl0]; try omega)) only [vb0, ne_eq, bj, kI, vb7, kL, List.nil_append, List.append_nil, e34', hs]
   rw [jf (d := default) ha hj' (by rw [hs]; rfl)]
  ·simp (disch := first | omega | assumption | (intros; simp only [dl0]; try omega)) only [vb0, ne_eq, bj, kI, vb7, kL, List.nil_append, List.append_nil, e34', hs]
   exact hR (j + 1) _ ⟨by omega, aV (d := default) ha hj' (by rw [hs]; rfl)⟩ (by omega)
 ·rw [gX (cT ha (by omega)), oz]
theorem c33 (p : List XStep) (hp : p.length <= 140737488351232) (ox : ∀ x ∈ p, bL x) : R T0 33 [.lst (p.map aq), .fn 34 [] []] (.b (!p.all cf)) := by
 refine r33 _ _ rfl rfl ?_
 unfold w33
 dsimp only [av]
 have e : ∀ (d : Nat) (σ : AS) (K : AV -> AS -> Prop), oC T0 d 59 [.lst (p.map aq), .fn 34 [] []] σ K = K (.i .i64 (fY (fun x => !cf x) p)) σ := fun d σ K => (c59 p hp ox).eq d σ K
 simp (disch := first | omega | assumption | (intros; simp only [dl0]; try omega)) only [vb4, ne_eq, fu, e, idxB_ge]
 rw [List.not_all_eq_any_not]
theorem c13 (p : List XStep) (hp : p.length <= 140737488351232) (ox : ∀ x ∈ p, bL x) : R T0 13 [.lst (p.map aq)] (.b (fc p)) := by
 refine r13 _ rfl rfl ?_
 unfold w13
 dsimp only [av]
 have e : ∀ (d : Nat) (σ : AS) (K : AV -> AS -> Prop), oC T0 d 33 [.lst (p.map aq), .fn 34 [] []] σ K = K (.b (!p.all cf)) σ := fun d σ K => (c33 p hp ox).eq d σ K
 have q : ((p.length : Nat) : Int) <= 16 ↔ p.length <= 16 := by omega
 simp (disch := first | omega | assumption | (intros; simp only [dl0]; try omega)) only [vb0, ne_eq, ee, fi, vb5, vb2, Bool.true_and, e, q]
 rfl
theorem e13 {p : List XStep} (hp : p.length <= 140737488351232) (ox : ∀ x ∈ p, bL x) {d : Nat} {σ : AS} {K : AV -> AS -> Prop} : oC T0 d 13 [.lst (p.map aq)] σ K = K (.b (fc p)) σ := (c13 p hp ox).eq d σ K
theorem c14 (p : List XStep) (hp : p.length <= 140737488351232) (ox : ∀ x ∈ p, bL x) : R T0 14 [.lst (p.map aq)] (.b (fc p)) := by
 refine r14 _ rfl rfl ?_
 unfold w14
 dsimp only [av]
 refine rI (X := Nat) (fun _ => .lst (p.map aq)) (fun j => .i .i64 (j : Nat)) (fun j σ => j <= p.length /\ (p.take j).all cf = true) (fun j => p.length - j) ?_ 0 _ ⟨Nat.zero_le _, rfl⟩
 rintro R j σ ⟨hj, ha⟩ hR
 simp (disch := first | omega | assumption | (intros; simp only [dl0]; try omega)) only [cy, fi, cg]
 refine aU (fun h => ?_) (fun h => ?_)
 ·have hj' : j < p.length := by omega
  have e36' := fun (d : Nat) (σ : AS) (K : AV -> AS -> Prop) => e36 (ox _ (bh hj')) (d := d) (σ := σ) (K := K)
  cases hs : cf (p.getD j default)
  ·simp (disch := first | omega | assumption | (intros; simp only [dl0]; try omega)) only [vb0, ne_eq, bj, ee, kI, vb7, e36', hs]
   unfold fc; rw [fr (d := default) hj' hs, Bool.and_false]
  ·simp (disch := first | omega | assumption | (intros; simp only [dl0]; try omega)) only [vb0, ne_eq, bj, ee, kI, vb7, e36', hs]
   exact hR (j + 1) _ ⟨by omega, aV (d := default) ha hj' hs⟩ (by omega)
 ·have q : ((p.length : Nat) : Int) <= 16 ↔ p.length <= 16 := by omega
  simp (disch := first | omega | assumption | (intros; simp only [dl0]; try omega)) only [vb0, ne_eq, bj, ee, kI, vb7, q]
  unfold fc; rw [cT ha (by omega), Bool.and_true]
theorem e14 {p : List XStep} (hp : p.length <= 140737488351232) (ox : ∀ x ∈ p, bL x) {d : Nat} {σ : AS} {K : AV -> AS -> Prop} : oC T0 d 14 [.lst (p.map aq)] σ K = K (.b (fc p)) σ := (c14 p hp ox).eq d σ K
theorem qT {α : Type} {enc : α -> AV} {z : Nat} (h : ∀ x, (enc x).cells.length = z) (l : List α) : ki z (l.map enc) = true := by
 induction l with
 | nil => rfl
 | cons x l ih => simp only [List.map_cons, ki, h, Nat.beq_refl, ih, Bool.and_self]
theorem sl_pre {α : Type} {T : Tab} {enc : α -> AV} {t e z : Nat} {l : List α} {n : Nat} {k : IntKind} (ht : T.ty t = some (.slice e)) (hz : T.sz e = some (z + 1)) (hE : ∀ x, (enc x).cells.length = z + 1) (hn : n <= l.length) : cS T t (.lst (l.map enc)) none (some (.i k (n : Nat))) none = some (.lst ((l.take n).map enc)) := by
 have b1 : eF (l.map enc).length (l.map enc).length (some (.i k (n : Nat))) = some n := by
  simp only [eF, bnd, List.length_map]; rw [if_pos ⟨by omega, by omega⟩]; simp
 have b : bM (l.map enc).length none none (some (.i k (n : Nat))) none = some (0, n, none) := by
  simp only [bM, Option.getD_none, eF]
  simp only [eF] at b1
  rw [b1]
 unfold cS
 simp only [ht, hz, b, qT hE, List.drop_zero, Nat.sub_zero, List.map_take]
theorem vZ {α : Type} {T : Tab} {enc : α -> AV} {t e z : Nat} {l : List α} {n : Nat} {k : IntKind} (ht : T.ty t = some (.slice e)) (hz : T.sz e = some (z + 1)) (hE : ∀ x, (enc x).cells.length = z + 1) (hn : n <= l.length) : cS T t (.lst (l.map enc)) (some (.i k (n : Nat))) none none = some (.lst ((l.drop n).map enc)) := by
 have b1 : eF (l.map enc).length 0 (some (.i k (n : Nat))) = some n := by
  simp only [eF, bnd, List.length_map]; rw [if_pos ⟨by omega, by omega⟩]; simp
 have b : bM (l.map enc).length none (some (.i k (n : Nat))) none none = some (n, (l.map enc).length, none) := by
  simp only [bM, Option.getD_none, eF, b1]
  simp only [eF] at b1
  rw [b1]
 have e2 : (l.map enc).drop n = (l.drop n).map enc := by rw [List.map_drop]
 have e3 : ((l.drop n).map enc).take ((l.map enc).length - n) = (l.drop n).map enc := List.take_of_length_le (by simp)
 unfold cS
 simp only [ht, hz, b, qT hE, e2, e3]
theorem ty22 : T0.ty 22 = some (.slice 50) := by kernel_rfl
theorem slS_suf {p : List XStep} {h : Tr AB} {n : Nat} {k : IntKind} (hn : n <= p.length) : aL T0 h 22 (.lst (p.map aq)) (some (.i k (n : Nat))) none none = some (.lst ((p.drop n).map aq)) := ic (vZ ty22 sz_50 (fun _ => rfl) hn)
theorem sN {α : Type} [Inhabited α] {a b : List α} {j : Nat} (ha : j < a.length) (hb : j < b.length) (h : a.take j = b.take j) (he : a.getD j default = b.getD j default) : a.take (j + 1) = b.take (j + 1) := by
 rw [dB ha, dB hb, h, he]
theorem take_ne {α : Type} [Inhabited α] {a b : List α} {j : Nat} (he : ¬ a.getD j default = b.getD j default) : ¬ a = b := fun e => he (by rw [e])
theorem c37 (a b : List XStep) (ha : a.length <= 140737488351232) (hb : b.length <= 140737488351232) : R T0 37 [.lst (a.map aq), .lst (b.map aq)] (.b (decide (a = b))) := by
 refine r37 _ _ rfl rfl ?_
 unfold w37
 dsimp only [av]
 by_cases hl : a.length = b.length
 ·have hl' : decide (((a.length : Nat) : Int) = (b.length : Nat)) = true := decide_eq_true (by omega)
  simp (disch := first | omega | assumption | (intros; simp only [dl0]; try omega)) only [vb0, ne_eq, bj, dF, kI, vb7, hl']
  refine gJ (X := Nat) (fun _ => .lst (b.map aq)) (fun _ => .lst (a.map aq)) (fun _ => .i .i64 (a.length : Nat)) (fun j => .i .i64 (j : Nat)) (fun j σ => j <= a.length /\ a.take j = b.take j) (fun j => a.length - j) ?_ 0 _ ⟨Nat.zero_le _, rfl⟩
  rintro R j σ ⟨hj, ht⟩ hR
  simp only [cy]
  refine aU (fun h => ?_) (fun h => ?_)
  ·have hj' : j < a.length := by omega
   by_cases q : a.getD j default = b.getD j default
   ·simp (disch := first | omega | assumption | (intros; simp only [dl0]; try omega)) only [vb0, ne_eq, bj, dF, kI, vb7, bne_50, decide_eq_true q]
    exact hR (j + 1) _ ⟨by omega, sN hj' (by omega) ht q⟩ (by omega)
   ·simp (disch := first | omega | assumption | (intros; simp only [dl0]; try omega)) only [vb0, ne_eq, bj, dF, kI, vb7, bne_50, decide_eq_false q]
    rw [decide_eq_false (take_ne q)]
  ·have : a = b := by
    have h1 : a.take j = a := List.take_of_length_le (by omega)
    have h2 : b.take j = b := List.take_of_length_le (by omega)
    rw [<- h1, ht, h2]
   try rw [ri]
   rw [decide_eq_true this]
 ·have hl' : decide (((a.length : Nat) : Int) = (b.length : Nat)) = false := decide_eq_false (by omega)
  simp (disch := first | omega | assumption | (intros; simp only [dl0]; try omega)) only [vb0, ne_eq, bj, dF, kI, vb7, hl']
  rw [decide_eq_false (fun e => hl (by rw [e]))]
def wA (p : List XStep) : Bool := decide (p.length <= 20) && p.all (fun x => decide (x.name_.length <= 300) && decide (x.value_.length <= 300))
theorem c11 (p : List XStep) (hp : p.length <= 140737488351232) (ox : ∀ x ∈ p, bL x) : R T0 11 [.lst (p.map aq)] (.b (wA p)) := by
 refine r11 _ rfl rfl ?_
 unfold w11
 dsimp only [av]
 by_cases hl : p.length <= 20
 ·have hl' : decide ((20 : Int) < (p.length : Nat)) = false := decide_eq_false (by omega)
  simp (disch := first | omega | assumption | (intros; simp only [dl0]; try omega)) only [fi, cg, aa, ck, hl', aA]
  refine fV (X := Nat) (fun _ => .lst (p.map aq)) (fun _ => .i .i64 (p.length : Nat)) (fun j => .i .i64 (j : Nat)) (fun j σ => j <= p.length /\ (p.take j).all (fun x => decide (x.name_.length <= 300) && decide (x.value_.length <= 300)) = true) (fun j => p.length - j) ?_ 0 _ ⟨Nat.zero_le _, rfl⟩
  rintro R j σ ⟨hj, ha⟩ hR
  simp only [cy]
  refine aU (fun h => ?_) (fun h => ?_)
  ·have hj' : j < p.length := by omega
   have no : (decide ((p.getD j default).name_.length <= 300) && decide ((p.getD j default).value_.length <= 300)) = false -> wA p = false := fun q => by
    unfold wA; rw [fr (p := fun x : XStep => decide (x.name_.length <= 300) && decide (x.value_.length <= 300)) (d := default) hj' q, Bool.and_false]
   by_cases q1 : (p.getD j default).name_.length <= 300
   ·have q1' : decide ((300 : Int) < ((p.getD j default).name_.length : Nat)) = false := decide_eq_false (by omega)
    by_cases q2 : (p.getD j default).value_.length <= 300
    ·have q2' : decide ((300 : Int) < ((p.getD j default).value_.length : Nat)) = false := decide_eq_false (by omega)
     simp (disch := first | omega | assumption | (intros; simp only [dl0]; try omega)) only [vb0, ne_eq, bj, iq, kI, vb7, bz, dz, gR, q1', q2']
     exact hR (j + 1) _ ⟨by omega, aV (d := default) ha hj' (by rw [decide_eq_true q1, decide_eq_true q2]; rfl)⟩ (by omega)
    ·have q2' : decide ((300 : Int) < ((p.getD j default).value_.length : Nat)) = true := decide_eq_true (by omega)
     simp (disch := first | omega | assumption | (intros; simp only [dl0]; try omega)) only [vb0, ne_eq, bj, iq, kI, vb7, bz, dz, gR, q1', q2', no (by rw [decide_eq_false q2, Bool.and_false])]
   ·have q1' : decide ((300 : Int) < ((p.getD j default).name_.length : Nat)) = true := decide_eq_true (by omega)
    simp (disch := first | omega | assumption | (intros; simp only [dl0]; try omega)) only [vb0, ne_eq, bj, iq, kI, vb7, bz, dz, gR, q1', no (by rw [decide_eq_false q1, Bool.false_and])]
  ·try rw [ri]
   unfold wA; rw [decide_eq_true hl, cT ha (by omega)]; rfl
 ·have hl' : decide ((20 : Int) < (p.length : Nat)) = true := decide_eq_true (by omega)
  simp (disch := first | omega | assumption | (intros; simp only [dl0]; try omega)) only [fi, cg, aa, ck, hl', aG, ri]
  unfold wA; rw [decide_eq_false hl, Bool.false_and]
theorem e11 {p : List XStep} (hp : p.length <= 140737488351232) (ox : ∀ x ∈ p, bL x) {d : Nat} {σ : AS} {K : AV -> AS -> Prop} : oC T0 d 11 [.lst (p.map aq)] σ K = K (.b (wA p)) σ := (c11 p hp ox).eq d σ K
theorem c12 : R T0 12 [] (.b true) := ⟨200, fun σ => by kernel_rfl⟩
theorem e12 {d : Nat} {σ : AS} {K : AV -> AS -> Prop} : oC T0 d 12 [] σ K = K (.b true) σ := c12.eq d σ K
def bA (c : UInt8) : AV := .i .u8 (c.toNat : Nat)
def OwnB (h : Tr AB) (n : Nat) (l : List UInt8) : Option Nat -> Prop
 | none => l = []
 | some b => l ≠ [] /\ b < n /\ h.get b = some (.cells (l.map bA) 5 true)
def Bld (h : Tr AB) (n id : Nat) (l : List UInt8) (o : Option Nat) : Prop := id < n /\ (∃ a g, h.get id = some (.cells [a, vOf o l.length] 65 g) /\ (a = .nilp ∨ a = .ptr id 0)) /\ OwnB h n l o /\ ∀ i, o = some i -> i ≠ id
theorem sM : T0.ty 63 = some (.slice 5) := by kernel_rfl
theorem xF (l : List UInt8) : aQ (l.map bA) = true := by
 induction l with
 | nil => rfl
 | cons c l ih => simp only [List.map_cons, aQ]; exact ih
theorem yQ (l : List UInt8) : bytesOf (l.map bA) = some l := by
 induction l with
 | nil => rfl
 | cons c l ih =>
  have e : bytesOf ((c :: l).map bA) = (bytesOf (l.map bA)).map (UInt8.ofNat ((c.toNat : Nat) : Int).toNat :: ·) := rfl
  rw [e, ih]
  simp
theorem small1 {n : Nat} (h : n <= 140737488351232) : cq n 1 = true := by
 unfold cq
 rw [Nat.ble_eq_true_of_le h, Nat.ble_eq_true_of_le (by omega), Nat.ble_eq_true_of_le (by omega)]; rfl
theorem appB {h : Tr AB} {n : Nat} {l xs : List UInt8} {o : Option Nat} {x : AV} {xt : Nat} {xd : TypeDesc} (ho : OwnB h n l o) (hxt : T0.ty xt = some xd) (hxd : xd = .string ∨ ∃ e, xd = .slice e) (hlen : iJ x = some xs.length) (hnew : bO h 1 xs.length x = some (xs.map bA)) (hs : (l ++ xs).length <= 140737488351232) (hne : xs ≠ []) :
  aD T0 ⟨h, n⟩ 63 xt (vOf o l.length) x = some (vOf (some n) (l ++ xs).length, ⟨(fW h o).put n (some (.cells ((l ++ xs).map bA) 5 true)), n + 1⟩) := by
 have hz : T0.sz 5 = some 1 := by kernel_rfl
 have hb : T0.by_ 5 = some 1 := by kernel_rfl
 obtain ⟨zv, hzv⟩ : ∃ zv, T0.zr 5 = some zv := Option.isSome_iff_exists.1 (by kernel_rfl)
 obtain ⟨m, hm⟩ : ∃ m, xs.length = m + 1 := by
  cases xs with
  | nil => exact absurd rfl hne
  | cons a b => exact ⟨b.length, rfl⟩
 rw [List.length_append] at hs
 rw [hm] at hlen hnew hs
 have hsm := small1 hs
 unfold aD
 rcases hxd with rfl | ⟨e, rfl⟩
 all_goals
  simp only [sM, hz, hb, hxt, hlen, hzv, Nat.zero_add, hnew]
  cases o with
  | none =>
   have hl : l = [] := ho
   subst hl
   simp only [List.length_nil, Nat.zero_add] at hsm
   simp only [vOf, List.length_nil, hsm, im, fW, List.nil_append, hm]
  | some b =>
   obtain ⟨h1, h2, h3⟩ := ho
   have b1 : Nat.beq 5 5 = true := rfl
   have b2 : Nat.beq (l.length * 1) (l.map bA).length = true := by rw [List.length_map, Nat.mul_one]; exact Nat.beq_refl _
   simp only [vOf, h3, xF, hsm, b1, b2, fW, List.map_append, List.length_append, hm]
theorem appB0 {h : Tr AB} {n : Nat} {l : List UInt8} {o : Option Nat} {x : AV} {xt : Nat} {xd : TypeDesc} (ho : OwnB h n l o) (hxt : T0.ty xt = some xd) (hxd : xd = .string ∨ ∃ e, xd = .slice e) (hlen : iJ x = some 0) (hnew : bO h 1 0 x = some []) :
  aD T0 ⟨h, n⟩ 63 xt (vOf o l.length) x = some (vOf o l.length, ⟨h, n⟩) := by
 have hz : T0.sz 5 = some 1 := by kernel_rfl
 have hb : T0.by_ 5 = some 1 := by kernel_rfl
 obtain ⟨zv, hzv⟩ : ∃ zv, T0.zr 5 = some zv := Option.isSome_iff_exists.1 (by kernel_rfl)
 unfold aD
 rcases hxd with rfl | ⟨e, rfl⟩
 all_goals
  simp only [sM, hz, hb, hxt, hlen, hzv, Nat.zero_add, hnew]
  cases o <;> rfl
def BldTo (h : Tr AB) (n id : Nat) (o : Option Nat) (l' : List UInt8) (σ' : AS) : Prop := ∃ o', Bld σ'.h σ'.n id l' o' /\ n <= σ'.n /\ (∀ j, j < n -> j ≠ id -> o ≠ some j -> σ'.h.get j = h.get j) /\ (∀ i, o' = some i -> o = some i ∨ n <= i)
theorem e98 (x : AV) {d : Nat} {σ : AS} {K : AV -> AS -> Prop} : oC T0 d 98 [x] σ K = K x σ := by
 have hp : T0.prim 98 = some iB := by kernel_rfl
 have : R T0 98 [x] x := ⟨1, fun σ => by unfold aJ; simp only [hp, iB]⟩
 exact this.eq d σ K
theorem cv1 {h : Tr AB} {id : Nat} {a b : AV} {e : Nat} {g : Bool} (hg : h.get id = some (.cells [a, b] e g)) : cR T0 h 62 106 (.ptr id 0) = some (.ptr id 0) := by
 have h1 : T0.ty 62 = some (.pointer 65) := by kernel_rfl
 have h2 : T0.ty 106 = some .unsafePointer := by kernel_rfl
 have h3 : T0.sz 65 = some 2 := by kernel_rfl
 unfold cR; simp only [h1, h2, hg, h3]
theorem cv2 {h : Tr AB} {id : Nat} {a b : AV} {g : Bool} (hg : h.get id = some (.cells [a, b] 65 g)) : cR T0 h 106 62 (.ptr id 0) = some (.ptr id 0) := by
 have h1 : T0.ty 62 = some (.pointer 65) := by kernel_rfl
 have h2 : T0.ty 106 = some .unsafePointer := by kernel_rfl
 have h3 : T0.sz 65 = some 2 := by kernel_rfl
 unfold cR; simp only [h1, h2, hg, h3]; rfl
theorem peq {id : Nat} {c : Bool} : ah T0 .neq 62 c (.ptr id 0) (.ptr id 0) = some (.b false) := by
 have h1 : T0.ty 62 = some (.pointer 65) := by kernel_rfl
 have h3 : T0.sz 65 = some 2 := by kernel_rfl
 simp only [ah, Nat.beq_refl, h1, h3, Bool.and_self]
theorem pnil {a : AV} {id : Nat} (ha : a = .nilp ∨ a = .ptr id 0) : ah T0 .eql 62 true a .nilp = some (.b (match a with | .nilp => true | _ => false)) := by
 have h1 : T0.ty 62 = some (.pointer 65) := by kernel_rfl
 rcases ha with rfl | rfl <;> simp only [ah, h1, ke, rN, qj, Option.map_some] <;> rfl
theorem c69 {h : Tr AB} {n id : Nat} {l : List UInt8} {o : Option Nat} (hb : Bld h n id l o) : ∃ h', Runs T0 69 [.ptr id 0] ⟨h, n⟩ (.tup []) ⟨h', n⟩ /\ (∃ g, h'.get id = some (.cells [.ptr id 0, vOf o l.length] 65 g)) /\ ∀ j, j ≠ id -> h'.get j = h.get j := by
 obtain ⟨hid, ⟨a, g, hg, ha⟩, ho, hne⟩ := hb
 have ld : ac T0 h 62 (.ptr id 0) = some a := by
  rw [cM hg (Nat.zero_le _)]
  rcases ha with rfl | rfl <;> exact ofc_62 _ _
 rcases ha with rfl | rfl
 ·have st : aB T0 h 62 (.ptr id 0) (.ptr id 0) = some (h.put id (some (.cells [.ptr id 0, vOf o l.length] 65 g))) := dU sz_62 hg rfl rfl rfl
  refine ⟨_, r69 _ ?_, ⟨g, af _ _ _⟩, fun j hj => ae _ _ hj⟩
  unfold w69
  dsimp only [av]
  simp only [mS, aa, bT, Nat.zero_add, ld, pnil (id := id) (.inl rfl), aG, cv1 hg, e98, cv2 hg, st, aF, and_self]
 ·refine ⟨h, r69 _ ?_, ⟨g, hg⟩, fun j hj => rfl⟩
  unfold w69
  dsimp only [av]
  simp only [mS, aa, bT, Nat.zero_add, ld, pnil (id := id) (.inr rfl), aA, peq, and_self]
theorem vOf_leaf (o : Option Nat) (k : Nat) : (vOf o k).leaf = true := by cases o <;> rfl
theorem mI (o : Option Nat) (k : Nat) : (vOf o k).cells = [vOf o k] := by cases o <;> rfl
theorem vJ {h h' : Tr AB} {n id : Nat} {l xs : List UInt8} {o : Option Nat} {g : Bool} (hb : Bld h n id l o) (hg : h'.get id = some (.cells [.ptr id 0, vOf o l.length] 65 g)) (hs : ∀ j, j ≠ id -> h'.get j = h.get j) (hne : xs ≠ []) :
  BldTo h n id o (l ++ xs) ⟨((fW h' o).put n (some (.cells ((l ++ xs).map bA) 5 true))).put id (some (.cells [.ptr id 0, vOf (some n) (l ++ xs).length] 65 g)), n + 1⟩ := by
 have hid := hb.1
 refine ⟨some n, ⟨by dsimp only; omega, ⟨_, g, af _ _ _, .inr rfl⟩, ⟨by simp [hne], by dsimp only; omega, ?_⟩, fun i e => by injection e with e; omega⟩, by dsimp only; omega, fun j hj hji ho => ?_, fun i e => by injection e with e; right; omega⟩
 ·dsimp only; rw [ae _ _ (by omega), af]
 ·dsimp only; rw [ae _ _ hji, ae _ _ (by omega), uP ho, hs j hji]
theorem lG {h h' : Tr AB} {n id : Nat} {l : List UInt8} {o : Option Nat} (hb : Bld h n id l o) (hs : ∀ j, j ≠ id -> h'.get j = h.get j) : OwnB h' n l o := by
 obtain ⟨_, _, ho, hne⟩ := hb
 cases o with
 | none => exact ho
 | some b => exact ⟨ho.1, ho.2.1, by rw [hs b (hne b rfl)]; exact ho.2.2⟩
theorem st_buf {h : Tr AB} {n id : Nat} {o : Option Nat} {k k' : Nat} {g : Bool} {blk : AB} (hid : id < n) (ho : o ≠ some id) (hg : h.get id = some (.cells [.ptr id 0, vOf o k] 65 g)) :
  aB T0 ((fW h o).put n (some blk)) 63 (.ptr id 1) (vOf (some n) k') = some (((fW h o).put n (some blk)).put id (some (.cells [.ptr id 0, vOf (some n) k'] 65 g))) :=
 dU sz_63 (by rw [ae _ _ (by omega), uP ho]; exact hg) rfl rfl rfl
theorem st_buf0 {h : Tr AB} {id : Nat} {o : Option Nat} {k : Nat} {g : Bool} (hg : h.get id = some (.cells [.ptr id 0, vOf o k] 65 g)) :
  aB T0 h 63 (.ptr id 1) (vOf o k) = some (h.put id (some (.cells [.ptr id 0, vOf o k] 65 g))) :=
 dU sz_63 hg (by rw [mI]; rfl) (by rw [mI]; simp [aQ, vOf_leaf]) (by rw [mI]; rfl)
theorem tq {h : Tr AB} {id : Nat} {o : Option Nat} {k : Nat} {a : AV} {g : Bool} (hg : h.get id = some (.cells [a, vOf o k] 65 g)) : ac T0 h 63 (.ptr id 1) = some (vOf o k) := by
 rw [cM hg (by show 1 <= 2; decide)]; exact ofc_63 _ _
theorem ice63 (x : Int) : cE T0 63 1 [(0, .i .u8 x)] = some (.lst [.i .u8 x]) := by kernel_rfl
theorem ty9 : T0.ty 9 = some .string := by kernel_rfl
theorem c41 {h : Tr AB} {n id : Nat} {l : List UInt8} {o : Option Nat} (c : UInt8) (hb : Bld h n id l o) (hl : l.length + 1 <= 140737488351232) : ∃ σ', Runs T0 41 [.ptr id 0, bA c] ⟨h, n⟩ .nili σ' /\ BldTo h n id o (l ++ [c]) σ' := by
 obtain ⟨h', hr, ⟨g, hg⟩, hs⟩ := c69 hb
 have hoid : o ≠ some id := fun e => hb.2.2.2 id e rfl
 have ap := appB (x := .lst [bA c]) (xs := [c]) (lG hb hs) sM (.inr ⟨_, rfl⟩) rfl rfl (by rw [List.length_append]; exact hl) (by simp)
 refine ⟨_, r41 _ _ ?_, vJ hb hg hs (by simp)⟩
 unfold w41
 dsimp only [av]
 rw [hr.eq]
 simp only [mS, aa, bT, Nat.zero_add, tq hg]
 rw [show bA c = .i .u8 (c.toNat : Nat) from rfl, ice63, aa]
 rw [show (AV.i .u8 ((c.toNat : Nat) : Int)) = bA c from rfl, ap, aM]
 rw [st_buf hb.1 hoid hg, aF]
 first | exact ⟨rfl, rfl⟩ | exact ⟨trivial, rfl⟩
theorem c42 {h : Tr AB} {n id : Nat} {l : List UInt8} {o : Option Nat} (s : List UInt8) (hb : Bld h n id l o) (hl : l.length + s.length <= 140737488351232) : ∃ σ', Runs T0 42 [.ptr id 0, .s s] ⟨h, n⟩ (.tup [.i .i64 (s.length : Nat), .nili]) σ' /\ BldTo h n id o (l ++ s) σ' := by
 obtain ⟨h', hr, ⟨g, hg⟩, hs⟩ := c69 hb
 have hoid : o ≠ some id := fun e => hb.2.2.2 id e rfl
 by_cases hne : s = []
 ·subst hne
  have ap := appB0 (x := .s []) (xt := 9) (lG hb hs) ty9 (.inl rfl) rfl rfl
  rw [List.append_nil]
  have hown : OwnB (h'.put id (some (.cells [.ptr id 0, vOf o l.length] 65 g))) n l o := lG hb (fun j hj => by rw [ae _ _ hj, hs j hj])
  refine ⟨⟨h'.put id (some (.cells [.ptr id 0, vOf o l.length] 65 g)), n⟩, r42 _ _ ?_, o, ⟨hb.1, ⟨_, g, af _ _ _, .inr rfl⟩, hown, hb.2.2.2⟩, Nat.le_refl _, fun j hj hji hj2 => ?_, fun i e => .inl e⟩
  ·unfold w42
   dsimp only [av]
   rw [hr.eq]
   simp only [mS, aa, bT, Nat.zero_add, tq hg]
   rw [ap, aM, st_buf0 hg, aF, dz, aa]
   first | exact ⟨rfl, rfl⟩ | exact ⟨trivial, rfl⟩
  ·dsimp only; rw [ae _ _ hji, hs j hji]
 ·have ap := appB (x := .s s) (xs := s) (xt := 9) (lG hb hs) ty9 (.inl rfl) rfl (by show some ((s.take s.length).map _) = _; rw [List.take_length]; rfl) (by rw [List.length_append]; exact hl) hne
  refine ⟨_, r42 _ _ ?_, vJ hb hg hs hne⟩
  unfold w42
  dsimp only [av]
  rw [hr.eq]
  simp only [mS, aa, bT, Nat.zero_add, tq hg]
  rw [ap, aM, st_buf hb.1 hoid hg, aF, dz, aa]
  first | exact ⟨rfl, rfl⟩ | exact ⟨trivial, rfl⟩
theorem u8s_b (l : List UInt8) : u8s (l.map bA) = true := by
 induction l with
 | nil => rfl
 | cons c l ih =>
  have h1 := c.toNat_lt
  have e : u8s ((c :: l).map bA) = (decide ((0 : Int) <= (c.toNat : Nat)) && decide (((c.toNat : Nat) : Int) < 256) && u8s (l.map bA)) := rfl
  rw [e, ih, decide_eq_true (by omega), decide_eq_true (by omega)]; rfl
theorem c45 {h : Tr AB} {n id : Nat} {l : List UInt8} {o : Option Nat} (hb : Bld h n id l o) (hl : l.length <= 140737488351232) : Runs T0 45 [.ptr id 0] ⟨h, n⟩ (.s l) ⟨fW h o, n⟩ := by
 obtain ⟨hid, ⟨a, g, hg, ha⟩, ho, hne⟩ := hb
 have ty87 : T0.ty 87 = some (.pointer 5) := by kernel_rfl
 have hz : T0.sz 5 = some 1 := by kernel_rfl
 refine r45 _ ?_
 unfold w45
 dsimp only [av]
 simp only [mS, aa, bT, Nat.zero_add, tq hg]
 cases o with
 | none =>
  have hl0 : l = [] := ho
  subst hl0
  have h1 : ak T0 h .unsafeSliceData [63] [vOf none 0] = some .nilp := rfl
  have h2 : ak T0 h .len [63] [vOf none 0] = some (.i .i64 0) := by simp [ak, vOf, sM]
  have h3 : gc T0 ⟨h, n⟩ 87 .nilp (.i .i64 0) = some (.s [], ⟨h, n⟩) := by simp [gc, ty87]
  rw [List.length_nil, h1, aa, h2, aa, h3, aM]
  exact ⟨rfl, rfl⟩
 | some b =>
  obtain ⟨h1, h2, h3⟩ := ho
  obtain ⟨m, hm⟩ : ∃ m, l.length = m + 1 := by
   cases l with
   | nil => exact absurd rfl h1
   | cons a b => exact ⟨b.length, rfl⟩
  have g1 : ak T0 h .unsafeSliceData [63] [vOf (some b) l.length] = some (.ptr b 0) := by rw [hm]; rfl
  have g2 : ak T0 h .len [63] [vOf (some b) l.length] = some (.i .i64 (l.length : Nat)) := by simp [ak, vOf, sM]
  have tk : cK l.length (l.map bA) = some (l.map bA) := by
   have := dT (l.map bA)
   rwa [List.length_map] at this
  have g3 : gc T0 ⟨h, n⟩ 87 (.ptr b 0) (.i .i64 (l.length : Nat)) = some (.s l, ⟨h.put b none, n⟩) := by
   unfold gc
   simp only [ty87, h3, hz, Int.toNat_natCast, tk, yQ, u8s_b, Nat.beq_refl]
   rw [if_pos ⟨by omega, by omega⟩]
  rw [g1, aa, g2, aa, g3, aM]
  exact ⟨rfl, rfl⟩
theorem Bld.same {h h' : Tr AB} {n n' id : Nat} {l : List UInt8} {o : Option Nat} (hb : Bld h n id l o) (hn : n <= n') (hs : ∀ j, (j = id ∨ o = some j) -> h'.get j = h.get j) : Bld h' n' id l o := by
 obtain ⟨h1, ⟨a, g, hg, ha⟩, ho, hne⟩ := hb
 refine ⟨by omega, ⟨a, g, by rw [hs id (.inl rfl)]; exact hg, ha⟩, ?_, hne⟩
 cases o with
 | none => exact ho
 | some b => exact ⟨ho.1, by have := ho.2.1; omega, by rw [hs b (.inr rfl)]; exact ho.2.2⟩
theorem sls {s : List UInt8} {h : Tr AB} {l r : Nat} {k1 k2 : IntKind} (h1 : l <= r) (h2 : r <= s.length) : aL T0 h 9 (.s s) (some (.i k1 (l : Nat))) (some (.i k2 (r : Nat))) none = some (.s ((s.drop l).take (r - l))) := by
 have b1 : eF s.length s.length (some (.i k2 (r : Nat))) = some r := by
  simp only [eF, bnd]; rw [if_pos ⟨by omega, by omega⟩]; simp
 have b2 : eF r 0 (some (.i k1 (l : Nat))) = some l := by
  simp only [eF, bnd]; rw [if_pos ⟨by omega, by omega⟩]; simp
 have b : bM s.length (some s.length) (some (.i k1 (l : Nat))) (some (.i k2 (r : Nat))) none = some (l, r, some s.length) := by
  simp only [bM, Option.getD_some, b1, b2]
 refine ic ?_
 unfold cS
 simp only [ty9, b]
theorem take_one {s : List UInt8} {j : Nat} (hj : j < s.length) : (s.drop j).take (j + 1 - j) = [s.getD j 0] := by
 have : j + 1 - j = 1 := by omega
 rw [this, List.getD_eq_getElem?_getD, List.getElem?_eq_getElem hj, List.drop_eq_getElem_cons hj]; rfl
def dec (n : Nat) : List UInt8 := if n < 10 then [UInt8.ofNat (48 + n)] else [UInt8.ofNat (48 + n / 10), UInt8.ofNat (48 + n % 10)]
theorem wL : ∀ n, n < 10 -> (([48, 49, 50, 51, 52, 53, 54, 55, 56, 57] : List UInt8).drop n).take (n + 1 - n) = [UInt8.ofNat (48 + n)] := by decide
theorem c46 (n : Nat) (hn : n <= 64) : R T0 46 [.i .i64 (n : Nat)] (.s (dec n)) := by
 refine r46 _ rfl rfl ?_
 unfold w46
 dsimp only [av]
 by_cases h : n < 10
 ·have h' : decide (((n : Nat) : Int) < 10) = true := decide_eq_true (by omega)
  have e1 : ((n : Nat) : Int) + 1 = ((n + 1 : Nat) : Int) := by omega
  simp (disch := first | omega | assumption | (intros; simp only [dl0]; try omega)) only [vb0, ne_eq, bj, aC, h', e1, sls (s := [48, 49, 50, 51, 52, 53, 54, 55, 56, 57]) (l := n) (r := n + 1) (by omega) (by show n + 1 <= 10; omega), wL n h]
  unfold dec; rw [if_pos h]
 ·have h' : decide (((n : Nat) : Int) < 10) = false := decide_eq_false (by omega)
  have q1 : (n : Int).tdiv 10 = ((n / 10 : Nat) : Int) := by rw [Int.tdiv_eq_ediv_of_nonneg (by omega)]; omega
  have q2 : (n : Int).tmod 10 = ((n % 10 : Nat) : Int) := by rw [Int.tmod_eq_emod_of_nonneg (by omega)]; omega
  have e1 : ((n / 10 : Nat) : Int) + 1 = ((n / 10 + 1 : Nat) : Int) := by omega
  have e2 : ((n % 10 : Nat) : Int) + 1 = ((n % 10 + 1 : Nat) : Int) := by omega
  have d1 : n / 10 < 10 := by omega
  have d2 : n % 10 < 10 := by omega
  have hq : ∀ c, ah T0 .quo 3 c (.i .i64 (n : Nat)) (.i .i64 10) = some (.i .i64 ((n / 10 : Nat) : Int)) := fun c => by rw [bin_quo (by decide), q1, cx (by omega) (by omega)]
  have hr : ∀ c, ah T0 .rem 3 c (.i .i64 (n : Nat)) (.i .i64 10) = some (.i .i64 ((n % 10 : Nat) : Int)) := fun c => by rw [bin_rem (by decide), q2]
  simp (disch := first | omega | assumption | (intros; simp only [dl0]; try omega)) only [vb0, ne_eq, bj, aC, h', hq, hr, e1, e2, sls (s := [48, 49, 50, 51, 52, 53, 54, 55, 56, 57]) (l := n / 10) (r := n / 10 + 1) (by omega) (by show n / 10 + 1 <= 10; omega), sls (s := [48, 49, 50, 51, 52, 53, 54, 55, 56, 57]) (l := n % 10) (r := n % 10 + 1) (by omega) (by show n % 10 + 1 <= 10; omega), wL _ d1, wL _ d2]
  rw [kf (by simp), aa, wo]
  unfold dec; rw [if_neg h]; rfl
theorem e46 {n : Nat} (hn : n <= 64) {d : Nat} {σ : AS} {K : AV -> AS -> Prop} : oC T0 d 46 [.i .i64 (n : Nat)] σ K = K (.s (dec n)) σ := (c46 n hn).eq d σ K
def quC (c : UInt8) : List UInt8 := if c.toNat = 10 then [92, 110] else if c.toNat = 34 ∨ c.toNat = 92 then [92, c] else [c]
def quS (s : List UInt8) : List UInt8 := [34] ++ s.flatMap quC ++ [34]
theorem quC_len (c : UInt8) : (quC c).length <= 2 := by
 unfold quC; split
 ·decide
 ·split <;> simp
theorem qB (s : List UInt8) : (s.flatMap quC).length <= 2 * s.length := by
 induction s with
 | nil => simp
 | cons c s ih => have := quC_len c; simp only [List.flatMap_cons, List.length_append, List.length_cons]; omega
theorem zH {s : List UInt8} {j : Nat} (hj : j < s.length) : (s.take (j + 1)).flatMap quC = (s.take j).flatMap quC ++ quC (s.getD j 0) := by
 have : s.take (j + 1) = s.take j ++ [s.getD j 0] := by
  rw [List.take_add_one, List.getD_eq_getElem?_getD, List.getElem?_eq_getElem hj]; rfl
 rw [this, List.flatMap_append]; simp
theorem rk (s : List UInt8) (j : Nat) : ((s.take j).flatMap quC).length <= 2 * s.length := by
 have h1 := qB (s.take j)
 have h2 : (s.take j).length <= s.length := by rw [List.length_take]; omega
 omega
theorem c47 (s : List UInt8) (hs : s.length <= 100000) : R T0 47 [.s s] (.s (quS s)) := by
 refine r47 _ rfl rfl ?_
 unfold w47
 dsimp only [av]
 refine fV (X := Nat) (fun j => .s ([34] ++ (s.take j).flatMap quC)) (fun _ => .s s) (fun j => .i .i64 (j : Nat)) (fun j σ => j <= s.length) (fun j => s.length - j) ?_ 0 _ (Nat.zero_le _)
 rintro R j σ hj hR
 simp (disch := first | omega | assumption | (intros; simp only [dl0]; try omega)) only [cy, dz]
 refine aU (fun h => ?_) (fun h => ?_)
 ·have hj' : j < s.length := by omega
  have hfl := rk s j
  have e1 : ((j : Nat) : Int) + 1 = ((j + 1 : Nat) : Int) := by omega
  have hR' := hR (j + 1)
  rw [zH hj', <- List.append_assoc] at hR'
  have sl := fun (h : Tr AB) => sls (h := h) (s := s) (l := j) (r := j + 1) (k1 := .i64) (k2 := .i64) (by omega) (by omega)
  rw [take_one hj'] at sl
  generalize hA : [34] ++ (s.take j).flatMap quC = A at hR' |-
  have hAl : A.length <= 2 * s.length + 1 := by rw [<- hA]; simp only [List.length_append, List.length_cons, List.length_nil]; omega
  have ad : ∀ (b : List UInt8) (c : Bool), b.length <= 2 -> ah T0 .add 9 c (.s A) (.s b) = some (.s (A ++ b)) := fun b c hb => kf (by omega) c
  have ad2 : ∀ (b d : List UInt8) (c : Bool), b.length <= 2 -> d.length <= 2 -> ah T0 .add 9 c (.s (A ++ b)) (.s d) = some (.s (A ++ b ++ d)) := fun b d c hb hd => kf (by rw [List.length_append]; omega) c
  by_cases q1 : (s.getD j 0).toNat = 10
  ·have q1' : decide ((((s.getD j 0).toNat : Nat) : Int) = 10) = true := decide_eq_true (by omega)
   simp (disch := first | first | omega | assumption | exact jp | exact bQ | (simp only [bQ]; omega) | simp) only [vb0, ne_eq, bj, vb9, gQ, fX, gR, q1', ad, e1]
   have : quC (s.getD j 0) = [92, 110] := by unfold quC; rw [if_pos q1]
   rw [this] at hR'
   exact hR' _ (show j + 1 <= s.length by omega) (by omega)
  ·have q1' : decide ((((s.getD j 0).toNat : Nat) : Int) = 10) = false := decide_eq_false (by omega)
   by_cases q2 : (s.getD j 0).toNat = 34 ∨ (s.getD j 0).toNat = 92
   ·have : quC (s.getD j 0) = [92] ++ [s.getD j 0] := by unfold quC; rw [if_neg q1, if_pos q2]; rfl
    rw [this, <- List.append_assoc] at hR'
    by_cases q3 : (s.getD j 0).toNat = 34
    ·have q3' : decide ((((s.getD j 0).toNat : Nat) : Int) = 34) = true := decide_eq_true (by omega)
     simp (disch := first | first | omega | assumption | exact jp | exact bQ | (simp only [bQ]; omega) | simp) only [vb0, ne_eq, bj, vb9, gQ, fX, gR, q1', q3', ad, e1, sl, ad2]
     exact hR' _ (show j + 1 <= s.length by omega) (by omega)
    ·have q3' : decide ((((s.getD j 0).toNat : Nat) : Int) = 34) = false := decide_eq_false (by omega)
     have q4' : decide ((((s.getD j 0).toNat : Nat) : Int) = 92) = true := decide_eq_true (by omega)
     simp (disch := first | first | omega | assumption | exact jp | exact bQ | (simp only [bQ]; omega) | simp) only [vb0, ne_eq, bj, vb9, gQ, fX, gR, q1', q3', q4', ad, e1, sl, ad2]
     exact hR' _ (show j + 1 <= s.length by omega) (by omega)
   ·have : quC (s.getD j 0) = [s.getD j 0] := by unfold quC; rw [if_neg q1, if_neg q2]
    rw [this] at hR'
    have q3' : decide ((((s.getD j 0).toNat : Nat) : Int) = 34) = false := decide_eq_false (by omega)
    have q4' : decide ((((s.getD j 0).toNat : Nat) : Int) = 92) = false := decide_eq_false (by omega)
    simp (disch := first | first | omega | assumption | exact jp | exact bQ | (simp only [bQ]; omega) | simp) only [vb0, ne_eq, bj, vb9, gQ, fX, gR, q1', q3', q4', ad, e1, sl, ad2]
    exact hR' _ (show j + 1 <= s.length by omega) (by omega)
 ·have hall : s.take j = s := List.take_of_length_le (by omega)
  have hfl := qB s
  rw [hall, kf (by simp only [List.length_append, List.length_cons, List.length_nil]; omega), aa, wo]; rfl
theorem e47 {s : List UInt8} (hs : s.length <= 100000) {d : Nat} {σ : AS} {K : AV -> AS -> Prop} : oC T0 d 47 [.s s] σ K = K (.s (quS s)) σ := (c47 s hs).eq d σ K
theorem BldTo.keep {h : Tr AB} {n id it : Nat} {o : Option Nat} {l' : List UInt8} {σ' : AS} {b : Option AB} (t : BldTo h n id o l' σ') (h1 : it < n) (h2 : it ≠ id) (h3 : o ≠ some it) (hg : h.get it = b) : ∃ o', Bld σ'.h σ'.n id l' o' /\ it < σ'.n /\ o' ≠ some it /\ σ'.h.get it = b := by
 obtain ⟨o', b1, b2, b3, b4⟩ := t
 refine ⟨o', b1, by omega, fun e => ?_, by rw [b3 it h1 h2 h3]; exact hg⟩
 rcases b4 it e with q | q
 ·exact h3 q
 ·omega
def stP (j : Nat) (x : XStep) : List UInt8 := if x.kind_ = 2 then [91] ++ dec x.index_.toNat ++ [93] else if x.kind_ = 3 then [91] ++ x.name_ ++ [61] ++ quS x.value_ ++ [93] else if j = 0 then x.name_ else [46] ++ x.name_
def prT (p : List XStep) : Nat -> List UInt8
 | 0 => []
 | j + 1 => prT p j ++ stP j (p.getD j default)
theorem eI {x : XStep} (h : cf x = true) : (x.kind_ = 1 ∨ x.kind_ = 2 ∨ x.kind_ = 3) /\ x.name_.length <= 40 /\ x.value_.length <= 200 /\ (∀ c ∈ x.value_, c.toNat < 128) /\ (x.kind_ = 2 -> 0 <= x.index_ /\ x.index_ <= 64) := by
 have nm : nmB x.name_ = true -> x.name_.length <= 40 := fun h => by
  unfold nmB at h; simp only [Bool.and_eq_true, decide_eq_true_eq] at h; exact h.2
 unfold cf at h
 split at h
 ·rename_i k
  simp only [Bool.and_eq_true, decide_eq_true_eq] at h
  exact ⟨.inl k, nm h.1.1, by omega, fun c hc => (by rw [List.length_eq_zero_iff.mp h.2] at hc; cases hc), fun q => by omega⟩
 ·split at h
  ·rename_i k
   simp only [Bool.and_eq_true, decide_eq_true_eq] at h
   exact ⟨.inr (.inl k), by omega, by omega, fun c hc => (by rw [List.length_eq_zero_iff.mp h.2] at hc; cases hc), fun q => by omega⟩
  ·split at h
   ·rename_i k1 k2 k
    simp only [Bool.and_eq_true, decide_eq_true_eq] at h
    have ht := h.2
    unfold txB at ht
    simp only [Bool.and_eq_true, decide_eq_true_eq, List.all_eq_true] at ht
    exact ⟨.inr (.inr k), nm h.1.1, ht.2, fun c hc => by
     have := ht.1 c hc
     unfold fP at this
     simp only [decide_eq_true_eq] at this
     omega, fun q => absurd q k2⟩
   ·cases h
theorem yK (n : Nat) : (dec n).length <= 2 := by unfold dec; split <;> simp
theorem xo (s : List UInt8) : (quS s).length <= 2 * s.length + 2 := by
 have := qB s
 unfold quS; simp only [List.length_append, List.length_cons, List.length_nil]; omega
theorem stP_len {j : Nat} {x : XStep} (h : cf x = true) : (stP j x).length <= 500 := by
 obtain ⟨-, h1, h2, -, -⟩ := eI h
 have := yK x.index_.toNat
 have := xo x.value_
 unfold stP; repeat' split
 all_goals (first | omega | (simp only [List.length_append, List.length_cons, List.length_nil]; omega))
theorem xr {p : List XStep} (h : ∀ x ∈ p, cf x = true) : ∀ j, j <= p.length -> (prT p j).length <= 500 * j
 | 0, _ => Nat.le_refl _
 | j + 1, hj => by
  have h1 := xr h j (by omega)
  have h2 := stP_len (j := j) (h _ (bh (show j < p.length by omega)))
  rw [prT, List.length_append]; omega
theorem jc {p : List XStep} (h : fc p = true) : p.length <= 16 /\ ∀ x ∈ p, cf x = true := by
 unfold fc at h; simp only [Bool.and_eq_true, decide_eq_true_eq, List.all_eq_true] at h; exact h
theorem ozt {σ : AS} {K : AV -> Prop} {a : List UInt8} {n : Int} : oZ T0 σ (.tup [.s a, .i .i64 n]) K = K (.tup [.s a, .i .i64 n]) := dv rfl
def prR (p : List XStep) : AV := if fc p = true then .tup [.s (prT p p.length), .i .i64 0] else .tup [.s [], .i .i64 1]
theorem sadd {a b : List UInt8} (ha : a.length <= 100000) (hb : b.length <= 100000) (t : Nat) (c : Bool) : ah T0 .add t c (.s a) (.s b) = some (.s (a ++ b)) := kf (by omega) c
theorem dec_at {x : XStep} (h : 0 <= x.index_) (h2 : x.index_ <= 64) {d : Nat} {σ : AS} {K : AV -> AS -> Prop} : oC T0 d 46 [.i .i64 x.index_] σ K = K (.s (dec x.index_.toNat)) σ := by
 have e := @e46 x.index_.toNat (by omega) d σ K
 rw [Int.toNat_of_nonneg h] at e; exact e
theorem c21 (p : List XStep) (hp : p.length <= 140737488351232) (ox : ∀ x ∈ p, bL x) : R T0 21 [.lst (p.map aq)] (prR p) := by
 refine r21 _ rfl rfl ?_
 unfold w21
 dsimp only [av]
 by_cases hb : fc p = true
 ·obtain ⟨hl, hv⟩ := jc hb
  rw [show prR p = .tup [.s (prT p p.length), .i .i64 0] from if_pos hb]
  rw [e14 hp ox, hb, cJ, aa, Bool.not_true, aA]
  refine fV (X := Nat) (fun j => .s (prT p j)) (fun _ => .lst (p.map aq)) (fun j => .i .i64 (j : Nat)) (fun j σ => j <= p.length) (fun j => p.length - j) ?_ 0 _ (Nat.zero_le _)
  rintro R j σ hj hR
  simp (disch := first | omega | assumption | (intros; simp only [dl0]; try omega)) only [cy, fi, cg]
  refine aU (fun h => ?_) (fun h => ?_)
  ·have hj' : j < p.length := by omega
   have hA := xr hv j hj
   obtain ⟨hk, hn, hq, hc, hi⟩ := eI (hv _ (bh hj'))
   have hd := yK (p.getD j default).index_.toNat
   have hqs := xo (p.getD j default).value_
   have hR' := hR (j + 1)
   rw [show prT p (j + 1) = prT p j ++ stP j (p.getD j default) from rfl] at hR'
   have hAz : j = 0 -> prT p j = [] := fun e => by subst e; rfl
   generalize prT p j = A at hA hAz hR' |-
   rcases hk with k | k | k
   ·have d2 : decide ((p.getD j default).kind_ = 2) = false := decide_eq_false (by omega)
    have d3 : decide ((p.getD j default).kind_ = 3) = false := decide_eq_false (by omega)
    by_cases h0 : j = 0
    ·subst h0
     have d0 : decide ((0 : Int) < ((0 : Nat) : Int)) = false := rfl
     rw [hAz rfl, List.nil_append] at hR'
     rw [show stP 0 (p.getD 0 default) = (p.getD 0 default).name_ by unfold stP; rw [if_neg (by omega), if_neg (by omega), if_pos rfl]] at hR'
     simp (disch := first | omega | assumption | (intros; simp only [dl2]; try omega)) only [vb0, ne_eq, bj, iq, vb9, kI, vb7, bz, fX, d2, d3, d0, sadd]
     exact hR' _ (show 0 + 1 <= p.length by omega) (by omega)
    ·have d0 : decide ((0 : Int) < ((j : Nat) : Int)) = true := decide_eq_true (by omega)
     rw [show stP j (p.getD j default) = [46] ++ (p.getD j default).name_ by unfold stP; rw [if_neg (by omega), if_neg (by omega), if_neg h0], <- List.append_assoc] at hR'
     simp (disch := first | omega | assumption | (intros; simp only [dl2]; try omega)) only [vb0, ne_eq, bj, iq, vb9, kI, vb7, bz, fX, d2, d3, d0, sadd]
     exact hR' _ (show j + 1 <= p.length by omega) (by omega)
   ·have d2 : decide ((p.getD j default).kind_ = 2) = true := decide_eq_true k
    rw [show stP j (p.getD j default) = [91] ++ dec (p.getD j default).index_.toNat ++ [93] from if_pos k, <- List.append_assoc, <- List.append_assoc] at hR'
    have ed := fun (d : Nat) (σ : AS) (K : AV -> AS -> Prop) => dec_at (hi k).1 (hi k).2 (d := d) (σ := σ) (K := K)
    simp (disch := first | omega | assumption | (intros; simp only [dl2]; try omega)) only [vb0, ne_eq, bj, iq, vb9, kI, vb7, bz, fX, d2, ed, sadd]
    exact hR' _ (show j + 1 <= p.length by omega) (by omega)
   ·have d2 : decide ((p.getD j default).kind_ = 2) = false := decide_eq_false (by omega)
    have d3 : decide ((p.getD j default).kind_ = 3) = true := decide_eq_true (by omega)
    rw [show stP j (p.getD j default) = [91] ++ (p.getD j default).name_ ++ [61] ++ quS (p.getD j default).value_ ++ [93] by unfold stP; rw [if_neg (by omega), if_pos k], <- List.append_assoc, <- List.append_assoc, <- List.append_assoc, <- List.append_assoc] at hR'
    have eq := fun (d : Nat) (σ : AS) (K : AV -> AS -> Prop) => e47 (s := (p.getD j default).value_) (by omega) (d := d) (σ := σ) (K := K)
    simp (disch := first | omega | assumption | (intros; simp only [dl2]; try omega)) only [vb0, ne_eq, bj, iq, vb9, kI, vb7, bz, fX, d2, d3, eq, sadd]
    exact hR' _ (show j + 1 <= p.length by omega) (by omega)
  ·have : j = p.length := by omega
   subst this
   rw [ozt]
 ·rw [show prR p = .tup [.s [], .i .i64 1] from if_neg hb]
  rw [e14 hp ox, Bool.not_eq_true _ |>.mp hb, cJ, aa, Bool.not_false, aG, ozt]
def nmC (c : UInt8) : Bool := dm c.toNat
def nmL (s : List UInt8) : Nat := (s.takeWhile nmC).length
theorem nmL_le (s : List UInt8) : nmL s <= s.length := (List.takeWhile_sublist nmC).length_le
def digC (c : UInt8) : Bool := decide (48 <= c.toNat /\ c.toNat <= 57)
def canB (s : List UInt8) : Bool := s.all digC && (decide (s.length = 1) || (decide (1 < s.length) && !decide ((s.getD 0 0).toNat = 48)))
def kW (a : Nat) (c : UInt8) : Nat := a * 10 + (c.toNat - 48)
def fO (a : Nat) (l : List UInt8) : Nat := l.foldl kW a
theorem rn (a : Nat) (c : UInt8) (r : List UInt8) : fO a (c :: r) = fO (kW a c) r := List.foldl_cons
theorem oX (a : Nat) (c : UInt8) : kW a c = a * 10 + (c.toNat - 48) := rfl
theorem wW (l : List UInt8) : ∀ a : Nat, a <= fO a l := by
 induction l with
 | nil => intro a; exact Nat.le_refl _
 | cons c r ih =>
  intro a
  rw [rn]
  have h := ih (kW a c)
  have h2 := oX a c
  generalize fO (kW a c) r = v at h |-
  omega
theorem pu_dig (l : List UInt8) : ∀ a : Nat, l.all digC = true -> (Lib.parseUint10 a l = .ok (fO a l)) ∨ (Lib.parseUint10 a l = .range /\ 18446744073709551616 <= fO a l) := by
 induction l with
 | nil => intro a _; exact .inl rfl
 | cons c r ih =>
  intro a h
  rw [List.all_cons, Bool.and_eq_true] at h
  have hd : 48 <= c.toNat /\ c.toNat <= 57 := of_decide_eq_true h.1
  have hg := wW r (kW a c)
  have ih' := ih (kW a c) h.2
  have hv := oX a c
  rw [Lib.parseUint10, if_pos hd, rn, <- oX]
  generalize fO (kW a c) r = v at hg ih' |-
  by_cases h1 : 1844674407370955162 <= a
  ·rw [if_pos h1]; exact .inr ⟨rfl, by omega⟩
  ·rw [if_neg h1]
   by_cases h2 : 18446744073709551616 <= kW a c
   ·rw [if_pos h2]; exact .inr ⟨rfl, by omega⟩
   ·rw [if_neg h2]; exact ih'
theorem atoi_dig {s : List UInt8} (hne : s ≠ []) (h : s.all digC = true) : (Lib.atoiAll s = .ok (fO 0 s : Nat) /\ fO 0 s < 9223372036854775808) ∨ (Lib.atoiAll s = .range /\ 9223372036854775808 <= fO 0 s) := by
 match s, hne with
 | c :: r, _ =>
  have h0 := h
  rw [List.all_cons, Bool.and_eq_true] at h
  have hd : 48 <= c.toNat /\ c.toNat <= 57 := of_decide_eq_true h.1
  have hp : Lib.parseMag (c :: r) = Lib.parseUint10 0 (c :: r) := if_neg (by simp)
  have hc : ¬ (c.toNat = 43 ∨ c.toNat = 45) := by omega
  have hn : ¬ c.toNat = 45 := by omega
  unfold Lib.atoiAll
  simp only []
  rw [if_neg hc, hp]
  rcases pu_dig (c :: r) 0 h0 with e | ⟨e, hv⟩
  ·rw [e]; simp only []
   by_cases hv : 9223372036854775808 <= fO 0 (c :: r)
   ·rw [if_pos ⟨hn, hv⟩]; exact .inr ⟨rfl, hv⟩
   ·rw [if_neg (fun q => hv q.2), if_neg (fun q => hn q.1), if_neg hn]; exact .inl ⟨rfl, by omega⟩
  ·rw [e]; exact .inr ⟨rfl, by omega⟩
theorem ub {α : Type} : ∀ (a b : List α), a.length = b.length -> bN a 0 b = some b
 | [], [], _ => rfl
 | _ :: a, d :: b, h => by
  have := ub a b (by simpa using h)
  simp only [bN, this]; rfl
 | [], _ :: _, h => by simp at h
 | _ :: _, [], h => by simp at h
theorem uh (a : AV) : ∀ n, (di [a] n).length = n
 | 0 => rfl
 | n + 1 => by
  have := uh a n
  simp only [di, List.length_append, List.length_cons, List.length_nil, this]; omega
theorem c140 (s : List UInt8) (hl : s.length <= 1048576) : R T0 140 [.s s] (.s s) := by
 have ty87 : T0.ty 87 = some (.pointer 5) := by kernel_rfl
 have hz : T0.sz 5 = some 1 := by kernel_rfl
 have hzr : T0.zr 5 = some (.i .u8 0) := by kernel_rfl
 have hby : T0.by_ 5 = some 1 := by kernel_rfl
 refine r140 _ rfl rfl ?_
 unfold w140
 dsimp only [av]
 by_cases h0 : s = []
 ·subst h0
  simp (disch := first | omega | assumption | (intros; simp only [dl0]; try omega)) only [vb4, ne_eq, vb9, dz, len_63, ia_63, List.length_nil, Int.natCast_zero]
  first | done | rfl
 ·have hpos : 0 < s.length := List.length_pos_iff.mpr h0
  have d0 : decide (((s.length : Nat) : Int) = 0) = false := decide_eq_false (by omega)
  have mk : qI T0 63 (.i .i64 (s.length : Nat)) (.i .i64 (s.length : Nat)) = some (.cells (di [.i .u8 0] s.length) 5 false, fun id => .sl id 0 s.length (some s.length)) := by
   unfold qI
   simp only [sM, hz, hzr, hby]
   rw [if_pos ⟨by omega, by omega, by omega, by omega⟩]; rfl
  have nw : ∀ h : Tr AB, bO h 1 (Nat.min s.length s.length) (.s s) = some (s.map bA) := fun h => by
   rw [show Nat.min s.length s.length = s.length from Nat.min_self _]
   show some ((s.take s.length).map _) = _
   rw [List.take_length]; rfl
  have cp : lp T0 ⟨Tr.nil.put 0 (some (.cells (di [.i .u8 0] s.length) 5 false)), 1⟩ 63 (.sl 0 0 s.length (some s.length)) (.s s) = some (.i .i64 (Nat.min s.length s.length : Nat), ⟨(Tr.nil.put 0 (some (.cells (di [.i .u8 0] s.length) 5 false))).put 0 (some (.cells (s.map bA) 5 false)), 1⟩) := by
   have hset : bN (di [.i .u8 0] s.length) 0 (s.map bA) = some (s.map bA) := ub _ _ (by rw [uh, List.length_map])
   unfold lp
   simp only [sM, hz, iJ, nw, af, xF, hset]
  have ia : ai T0 63 (.sl 0 0 s.length (some s.length)) (.i .i64 0) = some (.ptr 0 0) := by
   unfold ai
   simp only [sM, hz]
   rw [if_pos ⟨by omega, by omega⟩]; rfl
  have ln : ∀ h : Tr AB, ak T0 h .len [63] [.sl 0 0 s.length (some s.length)] = some (.i .i64 (s.length : Nat)) := fun h => by simp [ak, sM]
  have tk : cK s.length (s.map bA) = some (s.map bA) := by
   have := dT (s.map bA)
   rwa [List.length_map] at this
  have us : ∀ h : Tr AB, h.get 0 = some (.cells (s.map bA) 5 false) -> gc T0 ⟨h, 1⟩ 87 (.ptr 0 0) (.i .i64 (s.length : Nat)) = some (.s s, ⟨h.put 0 none, 1⟩) := fun h hg => by
   unfold gc
   simp only [ty87, hg, hz, Int.toNat_natCast, tk, yQ, u8s_b, Nat.beq_refl]
   rw [if_pos ⟨by omega, by omega⟩]
  rw [dz, aa, bG, aa, d0, aA, aa, mk, eG, aS]
  rw [cp, aM, ia, aa, ln, aa, us _ (af _ _ _), aM, wo]
theorem e140 {s : List UInt8} (hl : s.length <= 1048576) {d : Nat} {σ : AS} {K : AV -> AS -> Prop} : oC T0 d 140 [.s s] σ K = K (.s s) σ := (c140 s hl).eq d σ K
def rgE (a s : List UInt8) : AV := .iptr [.s a, .s s, (.ifc 148 (.iptr [(.s [118, 97, 108, 117, 101, 32, 111, 117, 116, 32, 111, 102, 32, 114, 97, 110, 103, 101])]))]
theorem c128 (a s : List UInt8) (hl : s.length <= 1048576) : R T0 128 [.s a, .s s] (rgE a s) := by
 have ld : ∃ e : AV, ac T0 Tr.nil 67 (.iptr [(.ifc 148 (.iptr [(.s [118, 97, 108, 117, 101, 32, 111, 117, 116, 32, 111, 102, 32, 114, 97, 110, 103, 101])]))]) = some e /\ e = (.ifc 148 (.iptr [(.s [118, 97, 108, 117, 101, 32, 111, 117, 116, 32, 111, 102, 32, 114, 97, 110, 103, 101])])) := ⟨_, by kernel_rfl, rfl⟩
 obtain ⟨e, ld, he⟩ := ld
 have bd : aO T0 144 [(0, .s a), (1, .s s), (2, (.ifc 148 (.iptr [(.s [118, 97, 108, 117, 101, 32, 111, 117, 116, 32, 111, 102, 32, 114, 97, 110, 103, 101])])))] = some (.agg [.s a, .s s, .ifc 148 (.iptr [(.s [118, 97, 108, 117, 101, 32, 111, 117, 116, 32, 111, 102, 32, 114, 97, 110, 103, 101])])]) := by kernel_rfl
 refine r128 _ _ rfl rfl ?_
 unfold w128
 dsimp only [av]
 rw [e140 hl, ld, aa, he, bd, aa, dl]
 refine ⟨9, rgE a s, ?_, rfl⟩
 kernel_rfl
theorem e128 {a s : List UInt8} (hl : s.length <= 1048576) {d : Nat} {σ : AS} {K : AV -> AS -> Prop} : oC T0 d 128 [.s a, .s s] σ K = K (rgE a s) σ := (c128 a s hl).eq d σ K
theorem c113 (a s : List UInt8) (hl : s.length <= 1048576) : R T0 113 [.s a, .s s, .i .i64 0, .i .i64 0, .ifc 126 (.i .i64 1)] (.ifc 129 (rgE a s)) := by
 have q1 : ah T0 .eql 67 false (.ifc 126 (.i .i64 1)) (.ifc 126 (.i .i64 2)) = some (.b false) := by kernel_rfl
 have q2 : ah T0 .eql 67 false (.ifc 126 (.i .i64 1)) (.ifc 126 (.i .i64 1)) = some (.b true) := by kernel_rfl
 refine r113 _ _ _ _ _ rfl rfl ?_
 unfold w113
 dsimp only [av]
 rw [q1, aa, aA, q2, aa, aG, e128 hl]
 rw [dv rfl]; rfl
theorem c112 (s : List UInt8) (hl : s.length <= 1048576) : R T0 112 [.s s] (qQ s) := by
 have h : fI T0 112 [.s s] = mn [.s s] := by kernel_rfl
 refine R.ext (by kernel_rfl) ?_
 rw [h]
 have hb : Nat.ble s.length 9223372036854775806 = true := Nat.ble_eq_true_of_le (by omega)
 unfold mn
 simp only [hb]
theorem c94 (s : List UInt8) (hl : s.length <= 1048576) (hne : s ≠ []) (hd : s.all digC = true) : (R T0 94 [.s s] (.tup [.i .i64 (fO 0 s : Nat), .nili]) /\ fO 0 s < 9223372036854775808) ∨ ∃ x : Int, R T0 94 [.s s] (.tup [.i .i64 x, .ifc 129 (rgE [65, 116, 111, 105] s)]) /\ 65 <= fO 0 s := by
 rcases atoi_dig hne hd with ⟨e, hv⟩ | ⟨e, hv⟩
 ·have ea : qQ s = .tup [.i .i64 (fO 0 s : Nat), .nili] := by unfold qQ; rw [e]
  have q : ah T0 .neq 67 true .nili .nili = some (.b false) := by kernel_rfl
  refine .inl ⟨r94 _ rfl rfl ?_, hv⟩
  unfold w94
  dsimp only [av]
  rw [(c112 s hl).eq, ea]
  simp only [mm, List.getElem?_cons_zero, List.getElem?_cons_succ, aa, q, aA]
  rw [dv rfl]; rfl
 ·have ea : qQ s = .tup [.i .i64 (Lib.atoiSat s), .ifc 126 (.i .i64 1)] := by unfold qQ; rw [e]
  have q : ah T0 .neq 67 true (.ifc 126 (.i .i64 1)) .nili = some (.b true) := by kernel_rfl
  refine .inr ⟨_, r94 _ rfl rfl (r := .tup [.i .i64 (Lib.atoiSat s), .ifc 129 (rgE [65, 116, 111, 105] s)]) ?_, by omega⟩
  unfold w94
  dsimp only [av]
  rw [(c112 s hl).eq, ea]
  simp only [mm, List.getElem?_cons_zero, List.getElem?_cons_succ, aa, q, aG]
  rw [(c113 _ s hl).eq, dv rfl]; rfl
inductive UQ where
 | ok (acc rest : List UInt8)
 | bad
 | op (acc : List UInt8)
def unqL (acc : List UInt8) : List UInt8 -> UQ
 | [] => .op acc
 | c :: r => if c.toNat = 34 then .ok acc r else if c.toNat < 32 ∨ 126 < c.toNat then .bad else if ¬ c.toNat = 92 then unqL (acc ++ [c]) r else
  match r with
  | [] => .bad
  | d :: r' => if d.toNat = 34 ∨ d.toNat = 92 then unqL (acc ++ [d]) r' else if d.toNat = 110 then unqL (acc ++ [10]) r' else .bad
end Go.Proofs.YtmfhmlhaofpeiaaGreatDoor.Ev
