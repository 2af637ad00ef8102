/- The second form: what is read is of bulk at most 1048576: so no row that came in is longer. -/
import Derived.Test.YtbcikhbepldjhaaDoorRows
import Derived.Test.YtbcikhbepldjhaaDoorOp
import Derived.ChangeArms
namespace Go.Proofs.YtbcikhbepldjhaaDoorW.Upto
open Go.Proofs.YtbcikhbepldjhaaDoor.Rows
variable {H : Type}
theorem bulk_pos (d : DataW H) : 1 ≤ uptoBulk d := by
  cases d with
  | lit l => cases l <;> simp [uptoBulk]
  | _ => simp [uptoBulk]
theorem bulkAll_len : ∀ ds : List (DataW H), ds.length ≤ uptoBulkAll ds
  | [] => Nat.zero_le _
  | d :: r => by
    have := bulkAll_len r
    have := bulk_pos d
    simp only [uptoBulkAll, List.length_cons]
    omega
theorem small_le {ds : List (DataW H)} (h : uptoSmall H ds = true) : uptoBulkAll ds ≤ 1048576 := of_decide_eq_true h
theorem bulk_at : ∀ {ds : List (DataW H)} {i : Nat} {d : DataW H}, ds[i]? = some d → uptoBulk d ≤ uptoBulkAll ds
  | [], i, d, h => by simp at h
  | x :: r, 0, d, h => by simp at h; subst h; simp only [uptoBulkAll]; omega
  | x :: r, i + 1, d, h => by
    have := bulk_at (ds := r) (i := i) (by simpa using h)
    simp only [uptoBulkAll]; omega
theorem slice_len {P : Program} {enc : TypeId × Value → H} {w : World} {base : Nat} {spare : Nat → Bool} {held : Bool} {m : Nat} {t e : TypeId} {A : Option Addr} {n c : Nat} {y : DataW H × List MemPlace} (ht : P.underlying t = some (.slice e))
    (hy : DataW.trod enc P w base spare held m t [.slice A n c] = some y) : n ≤ uptoBulk y.1 := by
  rcases DataW.trod_slice ht hy with ⟨h, rfl⟩ | ⟨a, len, cap, elems, rest, k, _, h, rfl, _, _, _, hlen, _⟩
  · injection h with h; injection h with h1 h2 h3; omega
  · injection h with h; injection h with h1 h2 h3
    have := bulkAll_len (elems.map (·.1))
    simp only [List.length_map] at this
    simp only [uptoBulk]
    omega
theorem string_len {P : Program} {enc : TypeId × Value → H} {w : World} {base : Nat} {spare : Nat → Bool} {held : Bool} {m : Nat} {t : TypeId} {s : ByteArray} {y : DataW H × List MemPlace} (ht : P.underlying t = some .string)
    (hy : DataW.trod enc P w base spare held m t [.string s] = some y) : s.size ≤ uptoBulk y.1 := by
  obtain ⟨s', h, rfl, _⟩ := DataW.trod_string ht hy
  injection h with h; injection h with h; subst h
  have : s.data.toList.length = s.size := Array.length_toList
  simp only [uptoBulk]
  omega
theorem row_len {w : World} {es : List Go.Proofs.YtbcikhbepldjhaaDoor.Ev.AV} {p : Option Addr} {n c : Nat} (h : Go.Proofs.YtbcikhbepldjhaaDoor.Ev.V0s w [.lst es] [.slice p n c]) : n = es.length := by
  have := Go.Proofs.YtbcikhbepldjhaaDoor.Ev.V_leaf h
  cases this <;> rfl
theorem str_len {w : World} {s : List UInt8} {t : ByteArray} (h : Go.Proofs.YtbcikhbepldjhaaDoor.Ev.V0s w [.s s] [.string t]) : s.length = t.size := by
  have := Go.Proofs.YtbcikhbepldjhaaDoor.Ev.V_leaf h
  cases this with | s _ _ e => rw [← e]; exact Array.length_toList
end Go.Proofs.YtbcikhbepldjhaaDoorW.Upto
