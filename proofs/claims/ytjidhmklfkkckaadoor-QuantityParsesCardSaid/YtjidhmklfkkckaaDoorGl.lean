/- What the laid table of powers of ten holds, and that it stays so where nothing below the heap's size is written. -/
import Derived.Test.YtjidhmklfkkckaaDoorProg
import Derived.Test.YtjidhmklfkkckaaDoorOpen
import Derived.KernelRfl
import Derived.Lib.LaidTab
import Derived.Lib.AppendIntMem
namespace Go.Proofs.YtjidhmklfkkckaaDoor.X
open Go.RowKit
def Gl (w : World) : Prop := Lib.TabIs Tryd.prog w "internal/strconv.uint64pow10" .u64 Lib.pow10Tab
theorem Gl.below {w W : World} (h : Gl w) (hb : Below w.heap.size w W) : Gl W := Lib.tabBelow_of_tabIs h W hb
theorem gl_of {W : World} {laid : List (String × DataW Unit)} (hL : laidMet Tryd.prog laid W) (hm0 : ("internal/strconv.uint64pow10", Lib.tabData .u64 Lib.pow10Tab) ∈ laid) : Gl W :=
  YtjidhmklfkkckaaDoorW.Open.tabIs_of_mem (g := 2) (by kernel_rfl) (by kernel_rfl) Tryd.underlying79 Tryd.underlying60 (by kernel_rfl) (by kernel_rfl) hL hm0
end Go.Proofs.YtjidhmklfkkckaaDoor.X
