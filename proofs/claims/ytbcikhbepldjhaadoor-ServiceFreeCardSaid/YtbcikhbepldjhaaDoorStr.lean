/- Strings as lists of bytes: reading, cutting, joining; decimal digits, counted, valued and written. Plain Lean over the print's words. -/
import Derived.Test.YtbcikhbepldjhaaDoorWMore
import Derived.Lib.Strings
import Derived.Lib.Atoi
import Derived.Lib.ItoaNum
import Derived.Lib.IndexBytes
namespace Go.Proofs.YtbcikhbepldjhaaDoorW.Str
open Go.RowKit Go.Proofs.YtbcikhbepldjhaaDoorW.PrintWords Go.Proofs.YtbcikhbepldjhaaDoorW.PrintLast Go.Proofs.YtbcikhbepldjhaaDoorW.PrintMore

theorem w64 {x : Int} (h0 : -9223372036854775808 ≤ x) (h1 : x ≤ 9223372036854775807) : wrap64 x = x := by unfold wrap64; omega
theorem wf_i64 {x : Int} (h : (Lit.int .i64 x).wf = true) : -9223372036854775808 ≤ x ∧ x ≤ 9223372036854775807 := by
  simp [Lit.wf] at h
  rw [show IntKind.i64.min = -9223372036854775808 from by decide] at h
  exact h

/-- A string's bytes. -/
def ls (s : ByteArray) : List UInt8 := s.data.toList
theorem size_ls (s : ByteArray) : s.size = (ls s).length := rfl
theorem toList_ls (s : ByteArray) : s.toList = ls s := Lib.toList_data s
theorem ls_append (a b : ByteArray) : ls (a ++ b) = ls a ++ ls b := by
  unfold ls
  rw [ByteArray.data_append, Array.toList_append]
theorem ls_extract (s : ByteArray) (a b : Nat) : ls (s.extract a b) = ((ls s).drop a).take (b - a) := Lib.extract_data s a b
theorem ls_to_end (s : ByteArray) (a : Nat) : ls (s.extract a s.size) = (ls s).drop a := Lib.extract_to_end s a
theorem ls_head (s : ByteArray) (b : Nat) : ls (s.extract 0 b) = (ls s).take b := by rw [ls_extract]; simp
theorem ls_mk (l : List UInt8) : ls ⟨l.toArray⟩ = l := rfl
theorem ls_inj {a b : ByteArray} (h : ls a = ls b) : a = b := by
  obtain ⟨⟨a⟩⟩ := a
  obtain ⟨⟨b⟩⟩ := b
  simp only [ls] at h
  rw [h]
theorem ls_eq_iff (a b : ByteArray) : ls a = ls b ↔ a = b := ⟨ls_inj, fun h => by rw [h]⟩
theorem bt_ls (s : ByteArray) (i : Int) : bt s i = (((ls s).getD i.toNat 0).toNat : Int) := by
  unfold bt
  split
  · rename_i h
    congr 1
    obtain ⟨⟨l⟩⟩ := s
    simp only [ls, List.getD_eq_getElem?_getD]
    have h' : i.toNat < l.length := h
    rw [List.getElem?_eq_getElem h']
    rfl
  · rename_i h
    rw [List.getD_eq_getElem?_getD, List.getElem?_eq_none (by rw [← size_ls]; omega)]
    rfl
theorem bt_nat (s : ByteArray) (i : Nat) : bt s (i : Int) = (((ls s).getD i 0).toNat : Int) := by rw [bt_ls]; simp
theorem drop_cons {l : List UInt8} {i : Nat} (h : i < l.length) : l.drop i = l.getD i 0 :: l.drop (i + 1) := by
  rw [List.drop_eq_getElem_cons h, List.getD_eq_getElem?_getD, List.getElem?_eq_getElem h]
  rfl

/-! ### digits -/
def dg (c : UInt8) : Bool := decide (48 ≤ c.toNat) && decide (c.toNat ≤ 57)
theorem dg_iff (c : UInt8) : dg c = true ↔ 48 ≤ c.toNat ∧ c.toNat ≤ 57 := by simp [dg]
/-- How many digits a text begins with. -/
def dl : List UInt8 → Nat
  | [] => 0
  | c :: r => if dg c = true then dl r + 1 else 0
theorem dl_le : ∀ l : List UInt8, dl l ≤ l.length
  | [] => Nat.le_refl _
  | c :: r => by
    have := dl_le r
    unfold dl
    split <;> simp <;> omega
theorem dl_take : ∀ (l : List UInt8), ∀ c ∈ l.take (dl l), dg c = true
  | [] => by simp [dl]
  | c :: r => by
    have ih := dl_take r
    unfold dl
    split
    · rename_i h
      intro d hd
      simp only [List.take_succ_cons, List.mem_cons] at hd
      rcases hd with rfl | hd
      · exact h
      · exact ih d hd
    · simp
theorem dl_all : ∀ {l : List UInt8} (_ : ∀ c ∈ l, dg c = true) (r : List UInt8) (_ : ∀ c, r.head? = some c → dg c = false), dl (l ++ r) = l.length
  | [], _, r, hr => by
    cases r with
    | nil => rfl
    | cons c r => simp [dl, hr c rfl]
  | c :: l, h, r, hr => by
    have := dl_all (l := l) (fun d hd => h d (by simp [hd])) r hr
    simp [dl, h c (by simp), this]
/-- The value of digits behind a number. -/
def vl (acc : Int) : List UInt8 → Int
  | [] => acc
  | c :: r => vl (acc * 10 + ((c.toNat : Int) - 48)) r
theorem vl_append (acc : Int) : ∀ (l r : List UInt8), vl acc (l ++ r) = vl (vl acc l) r
  | l, r => by
    induction l generalizing acc with
    | nil => rfl
    | cons c l ih => exact ih _
theorem vl_bd : ∀ (l : List UInt8) (acc : Int), 0 ≤ acc → (∀ c ∈ l, dg c = true) → 0 ≤ vl acc l ∧ vl acc l + 1 ≤ (acc + 1) * 10 ^ l.length
  | [], acc, h0, _ => by simp [vl]; omega
  | c :: l, acc, h0, h => by
    have hc := (dg_iff c).1 (h c (by simp))
    have ih := vl_bd l (acc * 10 + ((c.toNat : Int) - 48)) (by omega) (fun d hd => h d (by simp [hd]))
    refine ⟨ih.1, ?_⟩
    have e : (acc + 1) * 10 ^ (c :: l).length = ((acc + 1) * 10) * 10 ^ l.length := by
      rw [List.length_cons, Int.pow_succ, Int.mul_assoc, Int.mul_comm 10 (10 ^ l.length)]
    rw [e]
    refine Int.le_trans ih.2 (Int.mul_le_mul_of_nonneg_right (by omega) ?_)
    exact Int.pow_nonneg (by omega)
theorem vl_lt (l : List UInt8) (h : ∀ c ∈ l, dg c = true) : 0 ≤ vl 0 l ∧ vl 0 l < 10 ^ l.length := by
  have := vl_bd l 0 (by omega) h
  omega
theorem ten_mono {n m : Nat} (h : n ≤ m) : (10 : Int) ^ n ≤ 10 ^ m := by
  obtain ⟨d, rfl⟩ := Nat.exists_eq_add_of_le h
  rw [Int.pow_add]
  have h1 : (1 : Int) ≤ 10 ^ d := by
    have : (0 : Int) < 10 ^ d := Int.pow_pos (by omega)
    omega
  have h2 : (0 : Int) ≤ 10 ^ n := Int.pow_nonneg (by omega)
  have := Int.mul_le_mul_of_nonneg_left h1 h2
  omega

/-! ### strconv.Atoi of digits -/
theorem decFrom_vl : ∀ (l : List UInt8) (acc : Nat), (∀ c ∈ l, dg c = true) → ∃ m : Nat, Lib.decFrom acc l = some m ∧ (m : Int) = vl acc l
  | [], acc, _ => ⟨acc, rfl, rfl⟩
  | c :: l, acc, h => by
    have hc := (dg_iff c).1 (h c (by simp))
    obtain ⟨m, h1, h2⟩ := decFrom_vl l (acc * 10 + (c.toNat - 48)) (fun d hd => h d (by simp [hd]))
    have hd : Lib.digitVal c = some (c.toNat - 48) := by
      unfold Lib.digitVal
      rw [if_pos hc]
    refine ⟨m, ?_, ?_⟩
    · simp only [Lib.decFrom, hd]
      exact h1
    · rw [h2]
      simp only [vl]
      congr 1
      push_cast
      omega
theorem atoi_vl (l : List UInt8) (h : ∀ c ∈ l, dg c = true) (hne : l ≠ []) : Lib.atoi l = some (vl 0 l) := by
  obtain ⟨m, h1, h2⟩ := decFrom_vl l 0 h
  cases l with
  | nil => exact absurd rfl hne
  | cons c l =>
    have hc := (dg_iff c).1 (h c (by simp))
    have n1 : (c == 45) = false := by
      rw [beq_eq_false_iff_ne]; rintro rfl; exact absurd hc.1 (by decide)
    have n2 : (c == 43) = false := by
      rw [beq_eq_false_iff_ne]; rintro rfl; exact absurd hc.1 (by decide)
    simp only [Lib.atoi, n1, n2, Lib.decNat, List.isEmpty_cons, h1]
    simp [h2]

/-! ### the digits of a number -/
theorem ofNat_digit {d : Nat} (h : d < 10) : (UInt8.ofNat (48 + d)).toNat = 48 + d := by
  rw [UInt8.toNat_ofNat']
  omega
theorem dec_dg (u : Nat) : ∀ c ∈ Lib.decDigits u, dg c = true := by
  induction u using Nat.strongRecOn with
  | _ u ih =>
    rw [Lib.decDigits]
    split
    · rename_i h
      intro c hc
      rw [List.mem_singleton.1 hc, dg_iff, ofNat_digit h]
      omega
    · rename_i h
      intro c hc
      rcases List.mem_append.1 hc with hc | hc
      · exact ih (u / 10) (by omega) c hc
      · rw [List.mem_singleton.1 hc, dg_iff, ofNat_digit (Nat.mod_lt _ (by omega))]
        omega
theorem dec_ne (u : Nat) : Lib.decDigits u ≠ [] := by
  rw [Lib.decDigits]
  split <;> simp
theorem dec_vl (u : Nat) : vl 0 (Lib.decDigits u) = u := by
  induction u using Nat.strongRecOn with
  | _ u ih =>
    rw [Lib.decDigits]
    split
    · rename_i h
      simp only [vl, ofNat_digit h]
      push_cast
      omega
    · rename_i h
      rw [vl_append, ih (u / 10) (by omega)]
      simp only [vl, ofNat_digit (Nat.mod_lt u (by omega : 0 < 10))]
      push_cast
      omega
theorem dec_len (n : Nat) : ∀ u : Nat, u < 10 ^ (n + 1) → (Lib.decDigits u).length ≤ n + 1 := by
  induction n with
  | zero =>
    intro u h
    rw [Lib.decDigits, dif_pos (by simpa using h)]
    simp
  | succ n ih =>
    intro u h
    rw [Lib.decDigits]
    split
    · simp
    · have := ih (u / 10) (by rw [Nat.pow_succ] at h; omega)
      simp
      omega
/-- No leading zero. -/
theorem dec_head (u : Nat) (h : 1 ≤ u) : ∀ c, (Lib.decDigits u).head? = some c → c.toNat ≠ 48 := by
  induction u using Nat.strongRecOn with
  | _ u ih =>
    rw [Lib.decDigits]
    split
    · rename_i h'
      intro c hc
      obtain rfl : UInt8.ofNat (48 + u) = c := Option.some.inj hc
      rw [ofNat_digit h']
      omega
    · rename_i h'
      intro c hc
      have hne := dec_ne (u / 10)
      have e : (Lib.decDigits (u / 10) ++ [UInt8.ofNat (48 + u % 10)]).head? = (Lib.decDigits (u / 10)).head? := by
        cases hh : Lib.decDigits (u / 10) with
        | nil => exact absurd hh hne
        | cons a b => rfl
      rw [e] at hc
      exact ih (u / 10) (by omega) (by omega) c hc
theorem dec_inj {u v : Nat} (h : Lib.decDigits u = Lib.decDigits v) : u = v := by
  have h1 := dec_vl u
  have h2 := dec_vl v
  rw [h] at h1
  omega
theorem dec_ten {u : Nat} (h : ¬ u < 10) : Lib.decDigits u = Lib.decDigits (u / 10) ++ [UInt8.ofNat (48 + u % 10)] := by
  rw [Lib.decDigits, dif_neg h]
end Go.Proofs.YtbcikhbepldjhaaDoorW.Str
