/- strconv.Atoi at the numerals that it is asked here (at most 18 bytes, all digits), in the print's own form: its value and no error. -/
import Derived.Test.YtjidhmklfkkckaaDoorXx0
import Derived.Test.YtjidhmklfkkckaaDoorShelf
namespace Go.Proofs.YtjidhmklfkkckaaDoor.X
open Go.RowKit Go.Proofs.YtjidhmklfkkckaaDoorW.PrintWords Go.Proofs.YtjidhmklfkkckaaDoorW.PrintLast Go.Proofs.YtjidhmklfkkckaaDoorW.PrintMore
def strconv_Atoi.f (a0 : ByteArray) : Option (Int × Option Int) := if a0.size ≤ 18 then (Lib.atoi a0.data.toList).map fun n => (n, none) else none
theorem strconv_Atoi.calls (a0 : ByteArray) (r1 : Int) (r2 : Option Int) (w : World) (h : strconv_Atoi.f a0 = some (r1, r2)) :
    Calls Tryd.prog 20 #[.string a0] w fun e w' => e = .returned (.tuple #[.int .i64 r1, errW r2]) ∧ Below w.heap.size w w' := by
  unfold strconv_Atoi.f at h
  split at h
  · rename_i hl
    obtain ⟨n, hn, he⟩ := Option.map_eq_some_iff.1 h
    obtain ⟨rfl, rfl⟩ := Prod.mk.inj he
    refine (Tryd.strconv_Atoi a0 n hl hn w).mono ?_
    rintro e w' ⟨rfl, t, rfl⟩
    exact ⟨rfl, bytes_below (Below.refl _ _) (Nat.le_refl _) _ _⟩
  · cases h
end Go.Proofs.YtjidhmklfkkckaaDoor.X
