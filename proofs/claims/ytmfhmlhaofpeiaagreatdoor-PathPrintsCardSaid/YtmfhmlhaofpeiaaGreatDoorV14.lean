/- WriteRune of a plain character; the program's quote. -/
import Derived.Test.YtmfhmlhaofpeiaaGreatDoorV13
namespace Go.Proofs.YtmfhmlhaofpeiaaGreatDoor.Ev
open Go Go.RowKit
set_option linter.unusedSimpArgs false
set_option linter.unusedVariables false
set_option maxRecDepth 100000

theorem cvu32 {h : Tr AB} (n : Int) : evConv T0 h 21 122 (.i .i32 n) = some (.i .u32 (IntKind.wrap .u32 n)) := by kernel_rfl
theorem cvu8 {h : Tr AB} (n : Int) : evConv T0 h 21 5 (.i .i32 n) = some (.i .u8 (IntKind.wrap .u8 n)) := by kernel_rfl
theorem wr32u {c : Nat} (hc : c < 128) : IntKind.wrap .u32 (c : Nat) = (c : Nat) := by
  unfold IntKind.wrap; simp [IntKind.bits, IntKind.signed]; omega
theorem wr8u {c : Nat} (hc : c < 128) : IntKind.wrap .u8 (c : Nat) = (c : Nat) := by
  unfold IntKind.wrap; simp [IntKind.bits, IntKind.signed]; omega
theorem c100 {h : Tr AB} {n : Nat} {l : List UInt8} {o : Option Nat} {c : UInt8} (hc : c.toNat < 128) (ho : OwnB h n l o) (hl : l.length + 1 ≤ 140737488351232) : Runs T0 100 [vOf o l.length, .i .i32 (c.toNat : Nat)] ⟨h, n⟩ (vOf (some n) (l ++ [c]).length) ⟨(killO h o).put n (some (.cells ((l ++ [c]).map bA) 5 true)), n + 1⟩ := by
  have ap := appB (x := .lst [bA c]) (xs := [c]) ho ty63 (.inr ⟨_, rfl⟩) rfl rfl (by rw [List.length_append]; exact hl) (by simp)
  refine r100 _ _ ?_
  unfold w100
  dsimp only [prims]
  have h' : decide (((c.toNat : Nat) : Int) ≤ 127) = true := decide_eq_true (by omega)
  rw [cvu32, oV_some', wr32u hc, bin_le, oV_some', h', oI_true, cvu8, oV_some', wr8u hc, ice63, oV_some']
  rw [show (AV.i .u8 ((c.toNat : Nat) : Int)) = bA c from rfl, ap, oM_some]
  first | exact ⟨rfl, rfl⟩ | exact ⟨trivial, rfl⟩
theorem len63 {h : Tr AB} {o : Option Nat} {k : Nat} (ho : o = none → k = 0) : evBuiltin T0 h .len [63] [vOf o k] = some (.i .i64 (k : Nat)) := by
  cases o with
  | none => rw [ho rfl]; simp [evBuiltin, vOf, ty63]
  | some b => simp [evBuiltin, vOf, ty63]
theorem c71 {h : Tr AB} {n id : Nat} {l : List UInt8} {o : Option Nat} {c : UInt8} (hc : c.toNat < 128) (hb : Bld h n id l o) (hl : l.length + 1 ≤ 140737488351232) : ∃ σ', Runs T0 71 [.ptr id 0, .i .i32 (c.toNat : Nat)] ⟨h, n⟩ (.tup [.i .i64 1, .nili]) σ' ∧ BldTo h n id o (l ++ [c]) σ' := by
  obtain ⟨h', hr, ⟨g, hg⟩, hs⟩ := c69 hb
  have hoid : o ≠ some id := fun e => hb.2.2.2 id e rfl
  have hown := own_same hb hs
  have h0 : o = none → l.length = 0 := fun e => by subst e; have : l = [] := hown; rw [this]; rfl
  refine ⟨_, r71 _ _ ?_, bld_done hb hg hs (by simp)⟩
  unfold w71
  dsimp only [prims]
  rw [hr.eq]
  simp only [nilc_p, oV_some', off_p, Nat.zero_add, ld_buf hg, len63 h0]
  rw [(c100 hc hown hl).eq]
  simp only []
  rw [st_buf hb.1 hoid hg, oH_some]
  simp only []
  rw [ld_buf (get_put_same _ _ _), oV_some', len63 (fun e => by cases e), oV_some', bin_sub, oV_some']
  have e : IntKind.wrap .i64 (((l ++ [c]).length : Nat) - (l.length : Nat) : Int) = 1 := by
    rw [wr64 (by rw [List.length_append]; simp only [List.length_cons, List.length_nil]; omega) (by rw [List.length_append]; simp only [List.length_cons, List.length_nil]; omega)]
    rw [List.length_append]; simp only [List.length_cons, List.length_nil]; omega
  rw [e]
  exact ⟨rfl, trivial⟩
/-- Another block of the call's own stays. -/
theorem BldTo.keep {h : Tr AB} {n id it : Nat} {o : Option Nat} {l' : List UInt8} {σ' : AS} {b : Option AB} (t : BldTo h n id o l' σ') (h1 : it < n) (h2 : it ≠ id) (h3 : o ≠ some it) (hg : h.get it = b) : ∃ o', Bld σ'.h σ'.n id l' o' ∧ it < σ'.n ∧ o' ≠ some it ∧ σ'.h.get it = b := by
  obtain ⟨o', b1, b2, b3, b4⟩ := t
  refine ⟨o', b1, by omega, fun e => ?_, by rw [b3 it h1 h2 h3]; exact hg⟩
  rcases b4 it e with q | q
  · exact h3 q
  · omega
theorem c44 (s : List UInt8) (hs : s.length ≤ 100000) (ha : ∀ c ∈ s, c.toNat < 128) : R T0 44 [.s s] (.s (quS s)) := by
  refine r44 _ rfl rfl ?_
  unfold w44
  dsimp only [prims]
  rw [oN_eq]
  have b0 : Bld (Tr.nil.put 0 (some (.cells [.nilp, .nilz true] 65 false))) 1 0 [] none := bld_new
  obtain ⟨σ1, r1, t1⟩ := c41 34 b0 (by decide)
  rw [show (AV.i .u8 34) = bA 34 from rfl, r1.eq]
  obtain ⟨o1, b1, n1, f1, g1⟩ := t1
  rw [rng_9, oE_some, oN_eq]
  have hid1 := b1.1
  refine loop2 (X := Nat) (fun _ => .ptr 0 0) (fun _ => .ptr σ1.n 0) (fun j σ => j ≤ s.length ∧ ∃ o, Bld σ.h σ.n 0 ([34] ++ (s.take j).flatMap quC) o ∧ σ1.n < σ.n ∧ o ≠ some σ1.n ∧ σ.h.get σ1.n = some (.siter s j)) (fun j => s.length - j) ?_ 0 _
    ⟨Nat.zero_le _, o1, b1.same (Nat.le_succ _) (fun j hj => get_put_ne _ _ (by
      rcases hj with rfl | hj
      · omega
      · intro e; subst e
        rw [hj] at b1
        have := b1.2.2.1.2.1; omega)), Nat.lt_succ_self _, fun e => by rw [e] at b1; have := b1.2.2.1.2.1; omega, get_put_same _ _ _⟩
  rintro R j ⟨h, n⟩ ⟨hj, o, hb, hn, hoi, hg⟩ hR
  dsimp only at hb hn hg
  have hfl := flat_take_len s j
  by_cases hj' : j < s.length
  · have hc := ha _ (show s.getD j 0 ∈ s by rw [List.getD_eq_getElem?_getD, List.getElem?_eq_getElem hj']; exact List.getElem_mem hj')
    have hR' := hR (j + 1)
    rw [flat_take hj', ← List.append_assoc] at hR'
    have hb' : Bld (h.put σ1.n (some (.siter s (j + 1)))) n 0 ([34] ++ (s.take j).flatMap quC) o := hb.same (Nat.le_refl _) (fun i hi => get_put_ne _ _ (by
      rcases hi with rfl | hi
      · omega
      · intro e; subst e; exact hoi hi))
    have hgi : (h.put σ1.n (some (.siter s (j + 1)))).get σ1.n = some (.siter s (j + 1)) := get_put_same _ _ _
    have hAl : ([34] ++ (s.take j).flatMap quC).length ≤ 2 * s.length + 1 := by simp only [List.length_append, List.length_cons, List.length_nil]; omega
    rw [next_lt hg hj' hc, oM_some]
    generalize [34] ++ (s.take j).flatMap quC = A at hb' hR' hAl
    generalize hcc : s.getD j 0 = c at hc hR'
    generalize h.put σ1.n (some (.siter s (j + 1))) = h1 at hb' hgi
    by_cases q1 : c.toNat = 10
    · have d1 : decide (((c.toNat : Nat) : Int) = 34) = false := decide_eq_false (by omega)
      have d2 : decide (((c.toNat : Nat) : Int) = 92) = false := decide_eq_false (by omega)
      have d3 : decide (((c.toNat : Nat) : Int) = 10) = true := decide_eq_true (by omega)
      obtain ⟨σ2, r2, t2⟩ := c42 [92, 110] hb' (by simp only [List.length_cons, List.length_nil]; omega)
      obtain ⟨o2, b2, k1, k2, k3⟩ := t2.keep hn (by omega) hoi hgi
      simp (disch := first | omega | assumption | exact scell | exact clen_XStep | (simp only [clen_XStep]; omega)) only [Nat.zero_add, oV_some', oN_eq, oM_some, oH_some, oD_some, oE_some, oS_eq, oT_true, oI_true, oI_false, pick_t, pick_f, un_not, oI_not, decide_not, toNat_sub1, toNat_add1, decide_true, decide_false, not_true, not_false_eq_true, Bool.not_true, Bool.not_false, Bool.not_not, oZ_b, oZ_i, oZ_s, oZ_l, slen_map, wr64, Int.toNat_natCast, Int.toNat_zero, ne_eq, bin_eq, b_snil, beq_4, ext_t, List.getElem?_cons_zero, List.getElem?_cons_succ, ofc_encXStep, ofc0_encXStep, st_XStep, fld_XStep_kind_, fld_XStep_name_, fld_XStep_index_, fld_XStep_value_, prt_XStep_kind_, prt_XStep_name_, prt_XStep_index_, prt_XStep_value_, join5_eq, d1, d2, d3, r2.eq]
      have : quC c = [92, 110] := by unfold quC; rw [if_pos q1]
      rw [this] at hR'
      exact hR' _ ⟨by omega, o2, b2, k1, k2, k3⟩ (by omega)
    · have d3 : decide (((c.toNat : Nat) : Int) = 10) = false := decide_eq_false (by omega)
      by_cases q2 : c.toNat = 34 ∨ c.toNat = 92
      · obtain ⟨σ2, r2, t2⟩ := c41 92 hb' (by omega)
        obtain ⟨o2, b2, k1, k2, k3⟩ := t2.keep hn (by omega) hoi hgi
        obtain ⟨σ3, r3, t3⟩ := c71 hc b2 (by rw [List.length_append]; simp only [List.length_cons, List.length_nil]; omega)
        obtain ⟨o3, b3, m1, m2, m3⟩ := t3.keep k1 (by omega) k2 k3
        have : quC c = [92] ++ [c] := by unfold quC; rw [if_neg q1, if_pos q2]; rfl
        rw [this, ← List.append_assoc] at hR'
        have r2' : ∀ (d : Nat) (K : AV → AS → Prop), oC T0 d 41 [.ptr 0 0, .i .u8 92] ⟨h1, n⟩ K = K .nili σ2 := fun d K => r2.eq d K
        have r3' : ∀ (d : Nat) (K : AV → AS → Prop), oC T0 d 71 [.ptr 0 0, .i .i32 (c.toNat : Nat)] σ2 K = K (.tup [.i .i64 1, .nili]) σ3 := fun d K => r3.eq d K
        by_cases q3 : c.toNat = 34
        · have d1 : decide (((c.toNat : Nat) : Int) = 34) = true := decide_eq_true (by omega)
          simp (disch := first | omega | assumption | exact scell | exact clen_XStep | (simp only [clen_XStep]; omega)) only [Nat.zero_add, oV_some', oN_eq, oM_some, oH_some, oD_some, oE_some, oS_eq, oT_true, oI_true, oI_false, pick_t, pick_f, un_not, oI_not, decide_not, toNat_sub1, toNat_add1, decide_true, decide_false, not_true, not_false_eq_true, Bool.not_true, Bool.not_false, Bool.not_not, oZ_b, oZ_i, oZ_s, oZ_l, slen_map, wr64, Int.toNat_natCast, Int.toNat_zero, ne_eq, bin_eq, b_snil, beq_4, ext_t, List.getElem?_cons_zero, List.getElem?_cons_succ, ofc_encXStep, ofc0_encXStep, st_XStep, fld_XStep_kind_, fld_XStep_name_, fld_XStep_index_, fld_XStep_value_, prt_XStep_kind_, prt_XStep_name_, prt_XStep_index_, prt_XStep_value_, join5_eq, d1, d3, r2', r3']
          exact hR' _ ⟨by omega, o3, b3, m1, m2, m3⟩ (by omega)
        · have d1 : decide (((c.toNat : Nat) : Int) = 34) = false := decide_eq_false (by omega)
          have d2 : decide (((c.toNat : Nat) : Int) = 92) = true := decide_eq_true (by omega)
          simp (disch := first | omega | assumption | exact scell | exact clen_XStep | (simp only [clen_XStep]; omega)) only [Nat.zero_add, oV_some', oN_eq, oM_some, oH_some, oD_some, oE_some, oS_eq, oT_true, oI_true, oI_false, pick_t, pick_f, un_not, oI_not, decide_not, toNat_sub1, toNat_add1, decide_true, decide_false, not_true, not_false_eq_true, Bool.not_true, Bool.not_false, Bool.not_not, oZ_b, oZ_i, oZ_s, oZ_l, slen_map, wr64, Int.toNat_natCast, Int.toNat_zero, ne_eq, bin_eq, b_snil, beq_4, ext_t, List.getElem?_cons_zero, List.getElem?_cons_succ, ofc_encXStep, ofc0_encXStep, st_XStep, fld_XStep_kind_, fld_XStep_name_, fld_XStep_index_, fld_XStep_value_, prt_XStep_kind_, prt_XStep_name_, prt_XStep_index_, prt_XStep_value_, join5_eq, d1, d2, d3, r2', r3']
          exact hR' _ ⟨by omega, o3, b3, m1, m2, m3⟩ (by omega)
      · obtain ⟨σ3, r3, t3⟩ := c71 hc hb' (by omega)
        obtain ⟨o3, b3, m1, m2, m3⟩ := t3.keep hn (by omega) hoi hgi
        have : quC c = [c] := by unfold quC; rw [if_neg q1, if_neg q2]
        rw [this] at hR'
        have d1 : decide (((c.toNat : Nat) : Int) = 34) = false := decide_eq_false (by omega)
        have d2 : decide (((c.toNat : Nat) : Int) = 92) = false := decide_eq_false (by omega)
        simp (disch := first | omega | assumption | exact scell | exact clen_XStep | (simp only [clen_XStep]; omega)) only [Nat.zero_add, oV_some', oN_eq, oM_some, oH_some, oD_some, oE_some, oS_eq, oT_true, oI_true, oI_false, pick_t, pick_f, un_not, oI_not, decide_not, toNat_sub1, toNat_add1, decide_true, decide_false, not_true, not_false_eq_true, Bool.not_true, Bool.not_false, Bool.not_not, oZ_b, oZ_i, oZ_s, oZ_l, slen_map, wr64, Int.toNat_natCast, Int.toNat_zero, ne_eq, bin_eq, b_snil, beq_4, ext_t, List.getElem?_cons_zero, List.getElem?_cons_succ, ofc_encXStep, ofc0_encXStep, st_XStep, fld_XStep_kind_, fld_XStep_name_, fld_XStep_index_, fld_XStep_value_, prt_XStep_kind_, prt_XStep_name_, prt_XStep_index_, prt_XStep_value_, join5_eq, d1, d2, d3, r3.eq]
        exact hR' _ ⟨by omega, o3, b3, m1, m2, m3⟩ (by omega)
  · have hall : s.take j = s := List.take_of_length_le (by omega)
    have hfl := flat_len s
    rw [hall] at hb
    have hAl : ([34] ++ s.flatMap quC).length ≤ 2 * s.length + 1 := by simp only [List.length_append, List.length_cons, List.length_nil]; omega
    obtain ⟨σ2, r2, t2⟩ := c41 34 hb (by omega)
    obtain ⟨o2, b2, -, -, -⟩ := t2
    have r3 := c45 b2 (by rw [List.length_append]; simp only [List.length_cons, List.length_nil]; omega)
    rw [next_no hg (by omega), oM_some]
    rw [show evExtract 0 (AV.tup [AV.b false]) = some (.b false) from rfl, oV_some', oI_false, r2.eq]
    rw [show σ2 = ⟨σ2.h, σ2.n⟩ from rfl, r3.eq]
    try rw [oZ_s]
    try rfl
theorem e44 {s : List UInt8} (hs : s.length ≤ 100000) (ha : ∀ c ∈ s, c.toNat < 128) {d : Nat} {σ : AS} {K : AV → AS → Prop} : oC T0 d 44 [.s s] σ K = K (.s (quS s)) σ := (c44 s hs ha).eq d σ K
end Go.Proofs.YtmfhmlhaofpeiaaGreatDoor.Ev
