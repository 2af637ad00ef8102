/- The variables that are laid ahead of the run, as the evaluator sees them; functions whose contracts the library brings (Itoa, Atoi). Written by evgl.py, a program of this session's. -/
import Derived.Test.YtmfhmlhaofpeiaaGreatDoorEv4
import Derived.Test.YtmfhmlhaofpeiaaGreatDoorSh
import Derived.Lib.AppendIntMem
import Derived.Lib.ItoaNum
import Derived.Lib.AtoiErrMem
namespace Go.Proofs.YtmfhmlhaofpeiaaGreatDoor.Ev
set_option linter.unusedVariables false
set_option linter.unusedSimpArgs false
open Go Go.RowKit
def gl4 : List AV := [0, 1, 28, 2, 29, 14, 24, 3, 30, 22, 20, 15, 25, 17, 4, 8, 31, 27, 13, 23, 21, 19, 16, 7, 26, 12, 18, 6, 11, 5, 10, 9].map (AV.i .u8)
def gl5 : List AV := [0, 1, 56, 2, 57, 49, 28, 3, 61, 58, 42, 50, 38, 29, 17, 4, 62, 47, 59, 36, 45, 43, 51, 22, 53, 39, 33, 30, 24, 18, 12, 5, 63, 55, 48, 27, 60, 41, 37, 16, 46, 35, 44, 21, 52, 32, 23, 11, 54, 26, 40, 15, 34, 20, 31, 10, 25, 14, 19, 9, 13, 8, 7, 6].map (AV.i .u8)
def gl0 : List AV := [1, 10, 100, 1000, 10000, 100000, 1000000, 10000000, 100000000, 1000000000, 10000000000, 100000000000, 1000000000000, 10000000000000, 100000000000000, 1000000000000000, 10000000000000000, 100000000000000000, 1000000000000000000, 10000000000000000000].map (AV.i .u64)
def gl3 : List AV := [.ifc 148 (.iptr [.s [118, 97, 108, 117, 101, 32, 111, 117, 116, 32, 111, 102, 32, 114, 97, 110, 103, 101]])]
def gl2 : List AV := [.ifc 148 (.iptr [.s [105, 110, 118, 97, 108, 105, 100, 32, 115, 121, 110, 116, 97, 120]])]
def nS (g : Nat) : Option (List AV) := if g = 4 then some gl4 else if g = 5 then some gl5 else if g = 0 then some gl0 else if g = 3 then some gl3 else if g = 2 then some gl2 else none
theorem glOf_ok : ∀ g cs, nS g = some cs -> AV.idfree.idfrees cs = true := by
 intro g cs h
 unfold nS at h
 split at h
 ·injection h with h; subst h; kernel_rfl
 split at h
 ·injection h with h; subst h; kernel_rfl
 split at h
 ·injection h with h; subst h; kernel_rfl
 split at h
 ·injection h with h; subst h; kernel_rfl
 split at h
 ·injection h with h; subst h; kernel_rfl
 cases h
def decK : Nat -> Nat -> List UInt8
 | 0, _ => []
 | k + 1, u => match Nat.ble 10 u with
  | false => [UInt8.ofNat (48 + u)]
  | true => decK k (u / 10) ++ [UInt8.ofNat (48 + u % 10)]
theorem uh : ∀ (k u : Nat), u < 10 ^ k -> 0 < k -> decK k u = Lib.decDigits u
 | 0, u, h, h0 => by omega
 | k + 1, u, h, _ => by
  unfold decK
  rw [Lib.decDigits]
  by_cases q : u < 10
  ·have : Nat.ble 10 u = false := by cases hb : Nat.ble 10 u with | false => rfl | true => exact absurd (Nat.le_of_ble_eq_true hb) (by omega)
   rw [this, dif_pos q]
  ·rw [Nat.ble_eq_true_of_le (by omega), dif_neg q]
   have hk : 0 < k := by
    rcases Nat.eq_zero_or_pos k with rfl | h'
    ·simp at h; omega
    ·exact h'
   rw [uh k (u / 10) (by rw [Nat.pow_succ] at h; omega) hk]
def itoaK (n : Int) : List UInt8 := if n < 0 then 45 :: decK 20 n.natAbs else decK 20 n.toNat
theorem itoaK_eq {n : Int} (h0 : -9223372036854775808 <= n) (h1 : n <= 9223372036854775807) : itoaK n = Lib.itoa n := by
 have e : (10 : Nat) ^ 20 = 100000000000000000000 := by decide
 unfold itoaK Lib.itoa
 rw [uh 20 n.natAbs (by rw [e]; omega) (by decide), uh 20 n.toNat (by rw [e]; omega) (by decide)]
theorem zT {P : Program} {φ : Nat -> Nat × Nat} {A S : Nat -> Prop} {w : World} {g : Nat} {k : IntKind} {zs : List Int} {name : String} (h : VR φ A S w (.iptr (zs.map (AV.i k))) (.pointer (some ⟨g, 0, none⟩))) (hn : w.cell? ⟨g, (zs.map (AV.i k)).length, none⟩ = none) (h0 : 0 < zs.length)
  (hg : P.globalNamed name = some g) : Lib.TabIs P w name k zs := by
 cases h with | iptr _ vs _ _ h1 hS h3 h4 =>
 have hlen : vs.length = zs.length := by rw [h1, List.length_map]
 have hvs : vs = zs.map fun z => Value.int k z := by
  refine List.ext_getElem? fun j => ?_
  rw [List.getElem?_map]
  cases hz : zs[j]? with
  | none => rw [List.getElem?_eq_none (by rw [hlen]; exact List.getElem?_eq_none_iff.1 hz)]; rfl
  | some z =>
   have hj : j < vs.length := by rw [hlen]; exact (List.getElem?_eq_some_iff.1 hz).1
   have := h4 j (.i k z) vs[j] (by rw [List.getElem?_map, hz]; rfl) (List.getElem?_eq_getElem hj)
   rw [List.getElem?_eq_getElem hj]
   generalize vs[j] = v at this
   cases this; rfl
 unfold Lib.TabIs World.var?
 rw [hg]
 simp only [Option.bind_some]
 have hc0 := h3 0 vs[0] (List.getElem?_eq_getElem (by omega))
 simp only [World.cell?] at hc0 hn h3
 cases ho : w.heap[g]? with
 | none => rw [ho] at hc0; cases hc0
 | some o =>
  rw [ho] at hc0 hn h3
  cases o with
  | cells C e fz =>
   simp only [Option.isSome_none, Bool.false_eq_true, if_false, Nat.zero_add] at hc0 hn h3
   rw [hvs] at h3
   have hsz : C.size <= zs.length := by
    have := Array.getElem?_eq_none_iff.1 hn
    simpa using this
   show some C = some _
   congr 1
   apply Array.ext_getElem?
   intro j
   cases hz : (zs.map fun z => Value.int k z)[j]? with
   | none =>
    have hj := List.getElem?_eq_none_iff.1 hz
    rw [Array.getElem?_eq_none_iff.2 (by simp at hj; omega)]
    simpa using hz.symm
   | some v =>
    rw [h3 j v hz]
    simpa using hz.symm
  | _ => cases hc0
theorem enters {P : Program} {f : Nat} {fn : Func} {w : World} {vals : List Value} (h1 : P.funcs[f]? = some fn) (h2 : (fn.name == "runtime.NumGoroutine") = false) (h3 : fn.body.isNone = false) : (callFunc f ⟨vals⟩).run P w = .ok (.enter f ⟨vals⟩) w := by
 unfold callFunc
 simp only [Sem.run_bind, run_program, Result.andThen_ok, h1]
 rw [if_neg (by rw [h2]; simp), if_neg (by rw [h3]; simp)]
 rfl
def ud : List AV -> Option AV
 | [.i .i64 n] => if -9223372036854775808 <= n /\ n <= 9223372036854775807 then some (.s (itoaK n)) else none
 | _ => none
set_option maxRecDepth 100000 in
theorem xp : kO Tryz.prog nS 70 ud := by
 intro args r hr φ A S w vals hg hv
 unfold ud at hr
 split at hr
 ·rename_i n
  split at hr
  ·rename_i h
   injection hr with hr; subst hr
   have hl := hv.1
   match vals, hl, hv with
   | [x], _, hv =>
    have h0 := hv.2 0 _ x rfl rfl
    cases h0
    have htab : Lib.TabIs Tryz.prog w "internal/strconv.uint64pow10" .u64 Lib.pow10Tab := by
     obtain ⟨q1, q2⟩ := hg 0 gl0 rfl
     exact zT q1 q2 (by decide) (by kernel_rfl)
    refine ⟨enters (fn := Tryz.f70) (by kernel_rfl) (by kernel_rfl) (by kernel_rfl), (Tryz.internal_strconv_Itoa n h.1 h.2 w htab).mono ?_⟩
    rintro e w' ⟨rfl, k, os, rfl⟩
    refine ⟨_, rfl, Lib.below_grow _ w (Nat.le_refl _) k os, fun φ A S w => .s _ _ ?_⟩
    rw [itoaK_eq h.1 h.2]
  ·cases hr
 ·cases hr
def rx : List UInt8 -> AV := fun l => match Lib.atoiAll l with
 | .ok n => .tup [.i .i64 n, .nili]
 | .range => .tup [.i .i64 (Lib.atoiSat l), .ifc 126 (.i .i64 1)]
 | _ => .tup [.i .i64 0, .ifc 126 (.i .i64 2)]
def mQ : List AV -> Option AV
 | [.s l] => match Nat.ble l.length 9223372036854775806 with | true => some (rx l) | false => none
 | _ => none
set_option maxRecDepth 100000 in
theorem xq : kO Tryz.prog nS 112 mQ := by
 intro args r hr φ A S w vals hg hv
 unfold mQ at hr
 split at hr
 ·rename_i l
  split at hr
  ·rename_i h
   injection hr with hr; subst hr
   have hl := hv.1
   match vals, hl, hv with
   | [x], _, hv =>
    have h0 := hv.2 0 _ x rfl rfl
    cases h0 with | s _ s hs =>
    have hsz : s.size = l.length := by rw [<- hs]; exact (Array.length_toList).symm
    refine ⟨enters (fn := Tryz.f112) (by kernel_rfl) (by kernel_rfl) (by kernel_rfl), (Tryz.internal_strconv_Atoi_all s (by rw [hsz]; exact Nat.le_of_ble_eq_true h) w).mono ?_⟩
    rintro e w' ⟨rfl, hw⟩
    refine ⟨_, rfl, ?_, fun φ A S w => ?_⟩
    ·rcases hw with rfl | ⟨t, rfl⟩
     ·exact Below.refl _ _
     ·exact Lib.bytesWorld_below w 5 t
    ·unfold rx Lib.intTuple
     rw [hs]
     cases Lib.atoiAll l <;> first
      | exact .tup _ _ rfl (VRs.nil.cons .nili |>.cons (.i _ _)).2
      | exact .tup _ _ rfl (VRs.nil.cons (.ifc _ _ _ (.i _ _)) |>.cons (.i _ _)).2
  ·cases hr
 ·cases hr
def zx (f : Nat) : Option (List AV -> Option AV) := if f = 70 then some ud else if f = 112 then some mQ else none
theorem ext_ok : ∀ f g, zx f = some g -> kO Tryz.prog nS f g := by
 intro f g h
 unfold zx at h
 split at h
 ·rename_i e; injection h with h; subst h; subst e; exact xp
 split at h
 ·rename_i e; injection h with h; subst h; subst e; exact xq
 cases h
end Go.Proofs.YtmfhmlhaofpeiaaGreatDoor.Ev
