/- Chapter 01 in plain Lean: the program's Parse. -/
import Derived.Test.YtjidhmklfkkckaaDoorCom
namespace Go.Proofs.YtjidhmklfkkckaaDoor.X
open Go.RowKit Go.Proofs.YtjidhmklfkkckaaDoorW.PrintWords Go.Proofs.YtjidhmklfkkckaaDoorW.PrintLast Go.Proofs.YtjidhmklfkkckaaDoorW.PrintMore Go.Proofs.YtjidhmklfkkckaaDoorW.Str

def e0 : ByteArray := ⟨#[]⟩
def cutW (s : ByteArray) : ByteArray := s.extract 0 (dl (ls s))
def cutR (s : ByteArray) : ByteArray := s.extract (dl (ls s)) s.size
def tail1 (s : ByteArray) : ByteArray := s.extract 1 s.size
theorem ls_cutW (s : ByteArray) : ls (cutW s) = (ls s).take (dl (ls s)) := ls_head _ _
theorem ls_cutR (s : ByteArray) : ls (cutR s) = (ls s).drop (dl (ls s)) := ls_to_end _ _
theorem ls_tail1 (s : ByteArray) : ls (tail1 s) = (ls s).drop 1 := ls_to_end _ _
theorem size_cutR (s : ByteArray) : (cutR s).size ≤ s.size := by rw [size_ls, ls_cutR, List.length_drop, size_ls]; omega
theorem size_tail1 (s : ByteArray) : (tail1 s).size ≤ s.size := by rw [size_ls, ls_tail1, List.length_drop, size_ls]; omega
theorem size_cutW (s : ByteArray) : (cutW s).size = dl (ls s) := by rw [size_ls, ls_cutW]; exact len_take_dl _
def splitR (s : ByteArray) : ByteArray × ByteArray × ByteArray × Bool :=
  if bad (ls s) then (e0, e0, e0, false)
  else if (ls (cutR s)).head? = some 46 then (cutW s, cutW (tail1 (cutR s)), cutR (tail1 (cutR s)), decide (1 ≤ dl (ls (tail1 (cutR s))) ∧ dl (ls (tail1 (cutR s))) ≤ 3))
  else (cutW s, e0, cutR s, true)
theorem qsplit (s : ByteArray) (hs : s.size ≤ 140737488351232) (k : Nat) (hk : s.size + 5 < k) : quantity_split.f k s = some (splitR s) := by
  unfold quantity_split.f
  rw [qdigits s hs k (by omega)]
  simp only [Option.bind_some]
  have hdl := dl_le (ls s)
  rw [← size_ls] at hdl
  rw [if_pos (by omega), if_pos (by omega), Int.toNat_natCast]
  have key : ∀ b : Bool, (b = true ↔ bad (ls s)) → quantity_split.j0 k (cutR s) (cutW s) b = some (splitR s) := by
    intro b hb
    obtain ⟨k, rfl⟩ : ∃ m, k = m + 1 := ⟨k - 1, by omega⟩
    simp only [quantity_split.j0]
    unfold splitR
    by_cases h : bad (ls s)
    · rw [if_pos (hb.2 h), if_pos h]; rfl
    · rw [if_neg (fun e => h (hb.1 e)), if_neg h]
      have hR := size_cutR s
      rw [cut1 _ 46 (by omega)]
      simp only [Option.bind_some]
      by_cases h1 : (ls (cutR s)).head? = some 46
      · rw [if_pos h1, if_pos h1]
        simp only
        rw [if_pos trivial]
        have hT := size_tail1 (cutR s)
        change (quantity_digits.f k (tail1 (cutR s))).bind _ = _
        rw [qdigits (tail1 (cutR s)) (by omega) k (by omega)]
        simp only [Option.bind_some, Int.toNat_natCast]
        have hd := dl_le (ls (tail1 (cutR s)))
        rw [← size_ls] at hd
        change (if 0 ≤ ((dl (ls (tail1 (cutR s))) : Nat) : Int) then if ((dl (ls (tail1 (cutR s))) : Nat) : Int) ≤ (((tail1 (cutR s)).size : Nat) : Int) then if ((dl (ls (tail1 (cutR s))) : Nat) : Int) ≥ 1 then some (cutW s, cutW (tail1 (cutR s)), cutR (tail1 (cutR s)), decide (((dl (ls (tail1 (cutR s))) : Nat) : Int) ≤ 3)) else some (cutW s, cutW (tail1 (cutR s)), cutR (tail1 (cutR s)), false) else none else none) = _
        generalize dl (ls (tail1 (cutR s))) = j at *
        rw [if_pos (by omega), if_pos (by omega)]
        by_cases h2 : 1 ≤ j
        · rw [if_pos (by omega)]
          have : decide (((j : Nat) : Int) ≤ 3) = decide (1 ≤ j ∧ j ≤ 3) := by rw [decide_eq_decide]; omega
          rw [this]
        · rw [if_neg (by omega)]
          have : decide (1 ≤ j ∧ j ≤ 3) = false := by rw [decide_eq_false_iff_not]; omega
          rw [this]
      · rw [if_neg h1, if_neg h1]
        simp only
        rw [if_neg (by decide)]
        rfl
  change (if ((dl (ls s) : Nat) : Int) < 1 then quantity_split.j0 k (cutR s) (cutW s) true else if ((dl (ls s) : Nat) : Int) > 15 then quantity_split.j0 k (cutR s) (cutW s) true else if ((dl (ls s) : Nat) : Int) > 1 then if 0 < (((cutW s).size : Nat) : Int) then quantity_split.j0 k (cutR s) (cutW s) (bt (cutW s) 0 == 48) else none else quantity_split.j0 k (cutR s) (cutW s) false) = _
  by_cases c1 : dl (ls s) < 1
  · rw [if_pos (by omega), key true (by simp [bad, c1])]
  · rw [if_neg (by omega)]
    by_cases c2 : 15 < dl (ls s)
    · rw [if_pos (by omega), key true (by simp [bad, c2])]
    · rw [if_neg (by omega)]
      by_cases c3 : 1 < dl (ls s)
      · rw [if_pos (by omega), if_pos (by rw [size_cutW]; omega)]
        refine key _ ?_
        rw [show (0 : Int) = ((0 : Nat) : Int) from rfl, bt_nat, ls_cutW]
        have e : ((ls s).take (dl (ls s))).getD 0 0 = (ls s).getD 0 0 := by
          obtain ⟨m, hm⟩ : ∃ m, dl (ls s) = m + 1 := ⟨dl (ls s) - 1, by omega⟩
          rw [hm]
          cases ls s <;> rfl
        rw [e]
        unfold bad
        simp
        omega
      · rw [if_neg (by omega)]
        exact key false (by unfold bad; simp; omega)

/-! ### the table of units -/
def scan (l : List UInt8) : List S47 → Bool × Int → Bool × Int
  | [], r => r
  | u :: us, r => scan l us (if ls u.f0 = l then (true, u.f1) else r)
theorem units_l (m : Bool) (S : ByteArray) (n : Int) (us : List S47) (hu : us.length ≤ 100) : ∀ (d k i : Nat) (ok : Bool) (f : Int), i + d = us.length →
    quantity_Parse.l0 (k + d + 1) m S ok n f us (us.length : Int) (i : Int) = quantity_Parse.j1 k m (scan (ls S) (us.drop i) (ok, f)).1 n (scan (ls S) (us.drop i) (ok, f)).2 := by
  intro d
  induction d with
  | zero =>
    intro k i ok f hi
    simp only [quantity_Parse.l0]
    rw [if_neg (by omega), List.drop_eq_nil_of_le (by omega)]
    rfl
  | succ d ih =>
    intro k i ok f hi
    have ih' := fun ok f => ih k (i + 1) ok f (by omega)
    rw [show k + (d + 1) + 1 = (k + d + 1) + 1 from by omega]
    generalize k + d + 1 = K at *
    simp only [quantity_Parse.l0]
    have hlt : i < us.length := by omega
    rw [if_pos (by omega), if_pos (by omega), if_pos (by omega), List.drop_eq_getElem_cons hlt]
    have e : wrap64 ((i : Int) + 1) = ((i + 1 : Nat) : Int) := by rw [w64 (by omega) (by omega)]; push_cast; rfl
    have er : rd_T47 us (i : Int) = us[i] := by
      unfold rd_T47
      rw [Int.toNat_natCast, List.getD_eq_getElem?_getD, List.getElem?_eq_getElem hlt]
      rfl
    rw [e, er, toList_ls, toList_ls]
    simp only [scan]
    by_cases h : ls (us[i]).f0 = ls S
    · rw [if_pos h, if_pos h, ih']
    · rw [if_neg h, if_neg h, ih']
def allUnits : List S47 := [(⟨(⟨#[71]⟩ : ByteArray), 1000000000⟩ : S47), (⟨(⟨#[77]⟩ : ByteArray), 1000000⟩ : S47), (⟨(⟨#[107]⟩ : ByteArray), 1000⟩ : S47), (⟨(⟨#[71, 105]⟩ : ByteArray), 1073741824⟩ : S47), (⟨(⟨#[77, 105]⟩ : ByteArray), 1048576⟩ : S47), (⟨(⟨#[75, 105]⟩ : ByteArray), 1024⟩ : S47), (⟨(⟨#[]⟩ : ByteArray), 1⟩ : S47)]
theorem scan_units (l : List UInt8) : scan l allUnits (false, 1) = (decide (fac l ≠ 0), if fac l = 0 then 1 else fac l) := by
  by_cases h1 : l = [71]
  · subst h1; decide
  by_cases h2 : l = [77]
  · subst h2; decide
  by_cases h3 : l = [107]
  · subst h3; decide
  by_cases h4 : l = [71, 105]
  · subst h4; decide
  by_cases h5 : l = [77, 105]
  · subst h5; decide
  by_cases h6 : l = [75, 105]
  · subst h6; decide
  by_cases h7 : l = []
  · subst h7; decide
  have hf : fac l = 0 := by unfold fac; simp [h1, h2, h3, h4, h5, h6, h7]
  have q : ∀ {a : List UInt8}, ¬ l = a → ¬ a = l := fun h e => h e.symm
  rw [hf]
  simp only [allUnits, scan]
  refine Eq.trans (if_neg (q h7)) ?_
  refine Eq.trans (if_neg (q h6)) ?_
  refine Eq.trans (if_neg (q h5)) ?_
  refine Eq.trans (if_neg (q h4)) ?_
  refine Eq.trans (if_neg (q h3)) ?_
  refine Eq.trans (if_neg (q h2)) ?_
  refine Eq.trans (if_neg (q h1)) ?_
  rfl
def fin1 (m ok : Bool) (n f : Int) : Int × Int := if ok = true then if n > 1000000000000000 / f then (0, 5) else if m = true then (-(n * f), 0) else (n * f, 0) else (0, 2)
theorem qj1 (k : Nat) (m ok : Bool) (n f : Int) (hn : 0 ≤ n) (hn' : n ≤ 1000000000000000000) (hf : 1 ≤ f) (hf' : f ≤ 1073741824) : quantity_Parse.j1 (k + 1) m ok n f = some (fin1 m ok n f) := by
  simp only [quantity_Parse.j1]
  unfold fin1
  cases ok with
  | false => rfl
  | true =>
    rw [if_pos rfl, if_neg (by omega), if_pos rfl]
    have ed : Int.tdiv 1000000000000000 f = 1000000000000000 / f := Int.tdiv_eq_ediv_of_nonneg (by omega)
    have hd : 1000000000000000 / f ≤ 1000000000000000 := Int.ediv_le_self _ (by omega)
    have hd0 : 0 ≤ 1000000000000000 / f := Int.ediv_nonneg (by omega) (by omega)
    rw [ed, w64 (x := 1000000000000000 / f) (by omega) (by omega)]
    by_cases h2 : n > 1000000000000000 / f
    · rw [if_pos h2, if_pos h2]
    · rw [if_neg h2, if_neg h2]
      have h3 : n * f ≤ 1000000000000000 / f * f := Int.mul_le_mul_of_nonneg_right (by omega) (by omega)
      have h4 := Int.ediv_mul_le 1000000000000000 (b := f) (by omega)
      have h5 := Int.mul_nonneg hn (show 0 ≤ f by omega)
      rw [w64 (x := n * f) (by omega) (by omega), w64 (x := -n) (by omega) (by omega), Int.neg_mul, w64 (by omega) (by omega)]
      cases m <;> rfl
theorem fin1_minus (m ok : Bool) (n f : Int) : fin1 m ok n f = (if m = true then -(fin1 false ok n f).1 else (fin1 false ok n f).1, (fin1 false ok n f).2) := by
  unfold fin1
  cases m <;> cases ok <;> simp <;> (try split) <;> simp
theorem fin_fin1 (w p : Int) (l : List UInt8) : fin1 false (decide (fac l ≠ 0)) (w * 1000 + p) (if fac l = 0 then 1 else fac l) = fin w p l := by
  unfold fin1 fin
  by_cases h : fac l = 0
  · simp [h]
  · simp [h]
theorem part3 (P : List UInt8) (h1 : 1 ≤ P.length) (h3 : P.length ≤ 3) : (P ++ [48, 48]).take 3 = P ++ ([48, 48, 48] : List UInt8).drop P.length := by
  match P, h1, h3 with
  | [a], _, _ => rfl
  | [a, b], _, _ => rfl
  | [a, b, c], _, _ => rfl
/-- What follows a cut: the value of whole, part and suffix. -/
def specS (r : ByteArray × ByteArray × ByteArray × Bool) : Int × Int :=
  if r.2.2.2 = true then
    if ls r.2.2.1 = [109] then (if ls r.2.1 = [] then (vl 0 (ls r.1), 0) else (0, 2))
    else fin (vl 0 (ls r.1)) (vl 0 (ls r.2.1 ++ ([48, 48, 48] : List UInt8).drop (ls r.2.1).length)) (ls r.2.2.1)
  else (0, 2)
theorem specS_split (s : ByteArray) : specS (splitR s) = spec0 (ls s) := by
  unfold specS splitR spec0
  by_cases hb : bad (ls s)
  · rw [if_pos hb, if_pos hb]; rfl
  · rw [if_neg hb, if_neg hb, ls_cutR]
    by_cases h1 : ((ls s).drop (dl (ls s))).head? = some 46
    · rw [if_pos h1, if_pos h1]
      have hm : ¬ (ls s).drop (dl (ls s)) = [109] := fun e => by rw [e] at h1; exact absurd (Option.some.inj h1) (by decide)
      rw [if_neg hm]
      simp only [ls_cutW, ls_cutR, ls_tail1]
      generalize ((ls s).drop (dl (ls s))).drop 1 = T
      generalize vl 0 ((ls s).take (dl (ls s))) = w
      have hlt := len_take_dl T
      rw [hlt]
      by_cases h2 : dl T < 1 ∨ 3 < dl T
      · rw [if_pos h2, if_neg (by simp; omega)]
      · rw [if_neg h2, if_pos (by simp; omega)]
        rw [part3 _ (by omega) (by omega), hlt]
        by_cases h3 : T.drop (dl T) = [109]
        · rw [if_pos h3, h3, if_neg (by intro e; rw [e] at hlt; simp at hlt; omega)]
          rfl
        · rw [if_neg h3]
    · rw [if_neg h1, if_neg h1]
      simp only [ls_cutW, ls_cutR]
      rw [if_pos trivial]
      have hE : ls e0 = [] := rfl
      rw [hE, if_pos rfl]
      rfl
theorem qtail (k : Nat) (m : Bool) (r : ByteArray × ByteArray × ByteArray × Bool) (h1 : r.2.2.2 = true → (∀ c ∈ ls r.1, dg c = true) ∧ 1 ≤ r.1.size ∧ r.1.size ≤ 15) (h2 : r.2.2.2 = true → (∀ c ∈ ls r.2.1, dg c = true) ∧ r.2.1.size ≤ 3) :
    (if r.2.2.2 = true then ((strconv_Atoi.f r.1).bind fun bt117 => (if r.2.2.1.toList = ([109] : List UInt8) then (quantity_Parse.j1 (k + 9) m (r.2.1.toList == ([] : List UInt8)) bt117.1 1) else (if 0 ≤ (r.2.1.size : Int) then (if (r.2.1.size : Int) ≤ 3 then (if r.2.1.size + ((⟨#[48, 48, 48]⟩ : ByteArray).extract ((r.2.1.size : Int) : Int).toNat (⟨#[48, 48, 48]⟩ : ByteArray).size).size ≤ 9223372036854775807 then ((strconv_Atoi.f (r.2.1 ++ ((⟨#[48, 48, 48]⟩ : ByteArray).extract ((r.2.1.size : Int) : Int).toNat (⟨#[48, 48, 48]⟩ : ByteArray).size))).bind fun bt119 => ((quantity_units.f).bind fun t121 => (quantity_Parse.l0 (k + 9) m r.2.2.1 false (wrap64 ((wrap64 (bt117.1 * 1000)) + bt119.1)) 1 t121 (t121.length : Int) 0))) else (none)) else (none)) else (none)))) else (some (0, 2))) =
    some (if m = true then -(specS r).1 else (specS r).1, (specS r).2) := by
  obtain ⟨W, P, S, ok⟩ := r
  simp only at h1 h2
  unfold specS
  simp only
  cases ok with
  | false => cases m <;> rfl
  | true =>
    obtain ⟨hw, hw1, hw2⟩ := h1 rfl
    obtain ⟨hp, hp1⟩ := h2 rfl
    rw [if_pos rfl, if_pos rfl, qatoi W hw (by omega) hw1]
    simp only [Option.bind_some]
    have bw := vl_lt _ hw
    rw [← size_ls] at bw
    have bw2 : vl 0 (ls W) < 1000000000000000 := by have := ten_mono hw2; omega
    rw [toList_ls, toList_ls]
    by_cases hm : ls S = [109]
    · rw [if_pos hm, if_pos hm, qj1 _ m _ _ _ bw.1 (by omega) (by omega) (by omega), fin1_minus]
      have : fin1 false (ls P == []) (vl 0 (ls W)) 1 = (if ls P = [] then (vl 0 (ls W), 0) else (0, 2)) := by
        unfold fin1
        by_cases hP : ls P = []
        · rw [hP, if_pos rfl, if_pos (by rfl), if_neg (by omega)]; simp
        · rw [if_neg hP, if_neg (by simpa using hP)]
      rw [this]
    · rw [if_neg hm, if_neg hm]
      have hL : ls ((⟨#[48, 48, 48]⟩ : ByteArray).extract P.size (⟨#[48, 48, 48]⟩ : ByteArray).size) = ([48, 48, 48] : List UInt8).drop P.size := ls_to_end _ _
      rw [Int.toNat_natCast]
      generalize (⟨#[48, 48, 48]⟩ : ByteArray).extract P.size (⟨#[48, 48, 48]⟩ : ByteArray).size = Z at *
      have hZ : Z.size = 3 - P.size := by rw [size_ls, hL, List.length_drop]; rfl
      have hPZ : ls (P ++ Z) = ls P ++ ([48, 48, 48] : List UInt8).drop (ls P).length := by rw [ls_append, hL]; rfl
      have hPZs : (P ++ Z).size = 3 := by rw [size_ls, ls_append, List.length_append, ← size_ls, ← size_ls, hZ]; omega
      have hPZd : ∀ c ∈ ls (P ++ Z), dg c = true := by
        intro c hc
        rw [ls_append, hL] at hc
        rcases List.mem_append.1 hc with h | h
        · exact hp c h
        · have : c = 48 := by simpa using List.mem_of_mem_drop h
          rw [this]; decide
      have l1 : ((P.size : Nat) : Int) ≤ 3 := by omega
      have l2 : P.size + Z.size ≤ 9223372036854775807 := by rw [hZ]; omega
      rw [if_pos (Int.natCast_nonneg _), if_pos l1, if_pos l2, qatoi (P ++ Z) hPZd (by omega) (by omega)]
      have bp := vl_lt _ hPZd
      rw [← size_ls, hPZs] at bp
      simp only [Option.bind_some]
      rw [← hPZ]
      generalize vl 0 (ls (P ++ Z)) = p at *
      generalize vl 0 (ls W) = w at *
      unfold quantity_units.f
      simp only [Option.bind_some]
      have hu := units_l m S (w * 1000 + p) allUnits (by decide) 7 (k + 1) 0 false 1 rfl
      rw [List.drop_zero, scan_units] at hu
      have b3 : (10 : Int) ^ 3 = 1000 := by decide
      rw [b3] at bp
      rw [w64 (x := w * 1000) (by omega) (by omega), w64 (x := w * 1000 + p) (by omega) (by omega)]
      refine Eq.trans hu ?_
      have hf := fac_bd (ls S)
      rw [qj1 _ m _ _ _ (by omega) (by omega) (by split <;> omega) (by split <;> omega), fin1_minus, fin_fin1]
theorem split_ok (s : ByteArray) : ((splitR s).2.2.2 = true → (∀ c ∈ ls (splitR s).1, dg c = true) ∧ 1 ≤ (splitR s).1.size ∧ (splitR s).1.size ≤ 15) ∧ ((splitR s).2.2.2 = true → (∀ c ∈ ls (splitR s).2.1, dg c = true) ∧ (splitR s).2.1.size ≤ 3) := by
  unfold splitR
  by_cases hb : bad (ls s)
  · rw [if_pos hb]; simp
  · rw [if_neg hb]
    have h1 : (∀ c ∈ ls (cutW s), dg c = true) ∧ 1 ≤ (cutW s).size ∧ (cutW s).size ≤ 15 := by
      rw [ls_cutW, size_cutW]
      refine ⟨take_dg _, ?_, ?_⟩ <;> unfold bad at hb <;> omega
    split
    · refine ⟨fun _ => h1, fun h => ?_⟩
      simp only at h ⊢
      rw [ls_cutW, size_cutW]
      refine ⟨take_dg _, ?_⟩
      simp at h
      omega
    · refine ⟨fun _ => h1, fun _ => ⟨?_, ?_⟩⟩
      · intro c hc; exact absurd hc (by simp [e0, ls])
      · exact Nat.zero_le 3
theorem qparse (s : ByteArray) (hs : s.size ≤ 140737488351232) (k : Nat) (hk : s.size + 20 < k) : quantity_Parse.f k s = some (spec (ls s)) := by
  unfold quantity_Parse.f
  rw [cut1 s 45 hs]
  simp only [Option.bind_some]
  unfold spec
  obtain ⟨k, rfl⟩ : ∃ m, k = m + 9 := ⟨k - 9, by omega⟩
  by_cases h : (ls s).head? = some 45
  · rw [if_pos h, if_pos h]
    have hT := size_tail1 s
    change (quantity_split.f (k + 9) (tail1 s)).bind _ = _
    rw [qsplit (tail1 s) (by omega) (k + 9) (by omega)]
    simp only [Option.bind_some]
    have := qtail k true (splitR (tail1 s)) (split_ok _).1 (split_ok _).2
    rw [specS_split, ls_tail1] at this
    exact this
  · rw [if_neg h, if_neg h]
    rw [qsplit s (by omega) (k + 9) (by omega)]
    simp only [Option.bind_some]
    have := qtail k false (splitR s) (split_ok _).1 (split_ok _).2
    rw [specS_split] at this
    exact this
end Go.Proofs.YtjidhmklfkkckaaDoor.X
