/-
  NARROWER THAN 'FOR EVERY INPUT', by the rows' own cells (each row's printed sentence says how): QuantityParses: laid · QuantityPrints: laid · QuantityRoundTrip: laid · QuantityCanonical: laid · QuantityNegates: laid · QuantityResolves: laid · QuantityRounds: laid.
  DERIVED. THE GIVEN ROWS OF THIS SEAT. 7 by the template 'for every input the law returns true; each argument reads behind the call as it read before'; 0 by the template 'total and deterministic' (their statements: YtjidhmklfkkckaaDoorTotals.lean).
  GIVEN WITH THE SEED: the statements are not yours to turn. If you find one false, say at which input.
  Laid BY PROGRAM, IN A SANDBOX (cutbox-rows.mjs): the forced cells as the released guide's own fill.sh prints them over the translation daecf6cacf05ec8f… (all of the seat's roots in one cut). By AI agents, Wed Nov 11 2026. No macro, syntax, notation, axiom, sorry.
-/
import Derived.Test.YtjidhmklfkkckaaDoorChecked
import GoSem.Claim
import GoSem.ClaimJoined
import GoSem.ClaimMapViews
import Derived.JoinedTies
import Derived.KernelRfl
namespace Go.Proofs.YtjidhmklfkkckaaDoor
/- THE CELL 'sum', in the pinned program and in every row, IS THE sha256 OF THE DUMP (.gsa) THAT YtjidhmklfkkckaaDoorProg.lean LOADS. Nothing in Lean hashes anything: it is a label: what it is worth is what the hold of that sum in a sandbox is worth. -/
noncomputable def Tryd.pinned : Pinned := { name := "ytjidhmklfkkckaadoor", sum := "daecf6cacf05ec8fe7e4c3d5c68778c5d11fc68eea80fb661093a1b30a73d325", checked := Tryd.checked }
namespace Rows
def none {H : Type} : Left H := { results := [], args := [] }

/- WHAT THE LISTED PACKAGE-LEVEL VARIABLES READ AS WHEN THE CALL BEGINS. Each datum BY PROGRAM (the guide's laid-datum.mjs) off the statement by which the dump's own 'gosem.cut.vars' lays the variable. In a bare row this is a premise. The card (YtjidhmklfkkckaaDoorCards.lean) ties it to the program's text. -/
def laid_math_bits_deBruijn32tab {H : Type} : DataW H := .agg [.lit (.int .u8 0), .lit (.int .u8 1), .lit (.int .u8 28), .lit (.int .u8 2), .lit (.int .u8 29), .lit (.int .u8 14), .lit (.int .u8 24), .lit (.int .u8 3), .lit (.int .u8 30), .lit (.int .u8 22), .lit (.int .u8 20), .lit (.int .u8 15), .lit (.int .u8 25), .lit (.int .u8 17), .lit (.int .u8 4), .lit (.int .u8 8), .lit (.int .u8 31), .lit (.int .u8 27), .lit (.int .u8 13), .lit (.int .u8 23), .lit (.int .u8 21), .lit (.int .u8 19), .lit (.int .u8 16), .lit (.int .u8 7), .lit (.int .u8 26), .lit (.int .u8 12), .lit (.int .u8 18), .lit (.int .u8 6), .lit (.int .u8 11), .lit (.int .u8 5), .lit (.int .u8 10), .lit (.int .u8 9)]
def laid_math_bits_deBruijn64tab {H : Type} : DataW H := .agg [.lit (.int .u8 0), .lit (.int .u8 1), .lit (.int .u8 56), .lit (.int .u8 2), .lit (.int .u8 57), .lit (.int .u8 49), .lit (.int .u8 28), .lit (.int .u8 3), .lit (.int .u8 61), .lit (.int .u8 58), .lit (.int .u8 42), .lit (.int .u8 50), .lit (.int .u8 38), .lit (.int .u8 29), .lit (.int .u8 17), .lit (.int .u8 4), .lit (.int .u8 62), .lit (.int .u8 47), .lit (.int .u8 59), .lit (.int .u8 36), .lit (.int .u8 45), .lit (.int .u8 43), .lit (.int .u8 51), .lit (.int .u8 22), .lit (.int .u8 53), .lit (.int .u8 39), .lit (.int .u8 33), .lit (.int .u8 30), .lit (.int .u8 24), .lit (.int .u8 18), .lit (.int .u8 12), .lit (.int .u8 5), .lit (.int .u8 63), .lit (.int .u8 55), .lit (.int .u8 48), .lit (.int .u8 27), .lit (.int .u8 60), .lit (.int .u8 41), .lit (.int .u8 37), .lit (.int .u8 16), .lit (.int .u8 46), .lit (.int .u8 35), .lit (.int .u8 44), .lit (.int .u8 21), .lit (.int .u8 52), .lit (.int .u8 32), .lit (.int .u8 23), .lit (.int .u8 11), .lit (.int .u8 54), .lit (.int .u8 26), .lit (.int .u8 40), .lit (.int .u8 15), .lit (.int .u8 34), .lit (.int .u8 20), .lit (.int .u8 31), .lit (.int .u8 10), .lit (.int .u8 25), .lit (.int .u8 14), .lit (.int .u8 19), .lit (.int .u8 9), .lit (.int .u8 13), .lit (.int .u8 8), .lit (.int .u8 7), .lit (.int .u8 6)]
def laid_internal_strconv_uint64pow10 {H : Type} : DataW H := .agg [.lit (.int .u64 1), .lit (.int .u64 10), .lit (.int .u64 100), .lit (.int .u64 1000), .lit (.int .u64 10000), .lit (.int .u64 100000), .lit (.int .u64 1000000), .lit (.int .u64 10000000), .lit (.int .u64 100000000), .lit (.int .u64 1000000000), .lit (.int .u64 10000000000), .lit (.int .u64 100000000000), .lit (.int .u64 1000000000000), .lit (.int .u64 10000000000000), .lit (.int .u64 100000000000000), .lit (.int .u64 1000000000000000), .lit (.int .u64 10000000000000000), .lit (.int .u64 100000000000000000), .lit (.int .u64 1000000000000000000), .lit (.int .u64 10000000000000000000)]
def laid_strconv_ErrRange {H : Type} : DataW H := .iface "*errors.errorString" (.ptr (.agg [.lit (.string [118, 97, 108, 117, 101, 32, 111, 117, 116, 32, 111, 102, 32, 114, 97, 110, 103, 101])]))
def laid_strconv_ErrSyntax {H : Type} : DataW H := .iface "*errors.errorString" (.ptr (.agg [.lit (.string [105, 110, 118, 97, 108, 105, 100, 32, 115, 121, 110, 116, 97, 120])]))

/-- 'orchestratorlaw01.QuantityParses': WHATEVER THE INPUT: true; the input reads as it did. -/
def quantityParsesSpec : ChangeSpec := { name := "quantityParses", fn := fun _ => fun
  | [d] => { results := [.lit (.bool true)], args := [d] }
  | _ => none }
def quantityParsesRow : OpenClaim := { program := "ytjidhmklfkkckaadoor", sum := "daecf6cacf05ec8fe7e4c3d5c68778c5d11fc68eea80fb661093a1b30a73d325", func := "orchestrator/orchestratorlaw01.QuantityParses", spec := "quantityParses", named := ["strconv.ErrSyntax", "strconv.ErrRange", "internal/strconv.uint64pow10", "math/bits.deBruijn32tab", "math/bits.deBruijn64tab"], apart := false, laid := [("math/bits.deBruijn32tab", laid_math_bits_deBruijn32tab), ("math/bits.deBruijn64tab", laid_math_bits_deBruijn64tab), ("internal/strconv.uint64pow10", laid_internal_strconv_uint64pow10), ("strconv.ErrRange", laid_strconv_ErrRange), ("strconv.ErrSyntax", laid_strconv_ErrSyntax)] }
def QuantityParsesSaid : Prop := quantityParsesRow.holds Tryd.pinned (OpenSpec.ofChange quantityParsesSpec)

/-- ITS FALSE NEIGHBOUR: 'it returns false'. Refute it at one input. -/
def quantityParsesWrong : ChangeSpec := { name := "quantityParses", fn := fun _ => fun
  | [d] => { results := [.lit (.bool false)], args := [d] }
  | _ => none }
def QuantityParsesWrongFalsely : Prop := quantityParsesRow.holds Tryd.pinned (OpenSpec.ofChange quantityParsesWrong)

/-- 'orchestratorlaw01.QuantityPrints': WHATEVER THE INPUT: true; the input reads as it did. -/
def quantityPrintsSpec : ChangeSpec := { name := "quantityPrints", fn := fun _ => fun
  | [d] => { results := [.lit (.bool true)], args := [d] }
  | _ => none }
def quantityPrintsRow : OpenClaim := { program := "ytjidhmklfkkckaadoor", sum := "daecf6cacf05ec8fe7e4c3d5c68778c5d11fc68eea80fb661093a1b30a73d325", func := "orchestrator/orchestratorlaw01.QuantityPrints", spec := "quantityPrints", recurses := true, named := ["internal/strconv.uint64pow10", "math/bits.deBruijn32tab", "math/bits.deBruijn64tab", "strconv.ErrSyntax", "strconv.ErrRange"], apart := false, laid := [("math/bits.deBruijn32tab", laid_math_bits_deBruijn32tab), ("math/bits.deBruijn64tab", laid_math_bits_deBruijn64tab), ("internal/strconv.uint64pow10", laid_internal_strconv_uint64pow10), ("strconv.ErrRange", laid_strconv_ErrRange), ("strconv.ErrSyntax", laid_strconv_ErrSyntax)] }
def QuantityPrintsSaid : Prop := quantityPrintsRow.holds Tryd.pinned (OpenSpec.ofChange quantityPrintsSpec)

/-- ITS FALSE NEIGHBOUR: 'it returns false'. Refute it at one input. -/
def quantityPrintsWrong : ChangeSpec := { name := "quantityPrints", fn := fun _ => fun
  | [d] => { results := [.lit (.bool false)], args := [d] }
  | _ => none }
def QuantityPrintsWrongFalsely : Prop := quantityPrintsRow.holds Tryd.pinned (OpenSpec.ofChange quantityPrintsWrong)

/-- 'orchestratorlaw01.QuantityRoundTrip': WHATEVER THE INPUT: true; the input reads as it did. -/
def quantityRoundTripSpec : ChangeSpec := { name := "quantityRoundTrip", fn := fun _ => fun
  | [d] => { results := [.lit (.bool true)], args := [d] }
  | _ => none }
def quantityRoundTripRow : OpenClaim := { program := "ytjidhmklfkkckaadoor", sum := "daecf6cacf05ec8fe7e4c3d5c68778c5d11fc68eea80fb661093a1b30a73d325", func := "orchestrator/orchestratorlaw01.QuantityRoundTrip", spec := "quantityRoundTrip", named := ["internal/strconv.uint64pow10", "math/bits.deBruijn32tab", "math/bits.deBruijn64tab", "strconv.ErrSyntax", "strconv.ErrRange"], apart := false, laid := [("math/bits.deBruijn32tab", laid_math_bits_deBruijn32tab), ("math/bits.deBruijn64tab", laid_math_bits_deBruijn64tab), ("internal/strconv.uint64pow10", laid_internal_strconv_uint64pow10), ("strconv.ErrRange", laid_strconv_ErrRange), ("strconv.ErrSyntax", laid_strconv_ErrSyntax)] }
def QuantityRoundTripSaid : Prop := quantityRoundTripRow.holds Tryd.pinned (OpenSpec.ofChange quantityRoundTripSpec)

/-- ITS FALSE NEIGHBOUR: 'it returns false'. Refute it at one input. -/
def quantityRoundTripWrong : ChangeSpec := { name := "quantityRoundTrip", fn := fun _ => fun
  | [d] => { results := [.lit (.bool false)], args := [d] }
  | _ => none }
def QuantityRoundTripWrongFalsely : Prop := quantityRoundTripRow.holds Tryd.pinned (OpenSpec.ofChange quantityRoundTripWrong)

/-- 'orchestratorlaw01.QuantityCanonical': WHATEVER THE INPUT: true; the input reads as it did. -/
def quantityCanonicalSpec : ChangeSpec := { name := "quantityCanonical", fn := fun _ => fun
  | [d1, d2] => { results := [.lit (.bool true)], args := [d1, d2] }
  | _ => none }
def quantityCanonicalRow : OpenClaim := { program := "ytjidhmklfkkckaadoor", sum := "daecf6cacf05ec8fe7e4c3d5c68778c5d11fc68eea80fb661093a1b30a73d325", func := "orchestrator/orchestratorlaw01.QuantityCanonical", spec := "quantityCanonical", named := ["strconv.ErrSyntax", "strconv.ErrRange", "internal/strconv.uint64pow10", "math/bits.deBruijn32tab", "math/bits.deBruijn64tab"], apart := false, laid := [("math/bits.deBruijn32tab", laid_math_bits_deBruijn32tab), ("math/bits.deBruijn64tab", laid_math_bits_deBruijn64tab), ("internal/strconv.uint64pow10", laid_internal_strconv_uint64pow10), ("strconv.ErrRange", laid_strconv_ErrRange), ("strconv.ErrSyntax", laid_strconv_ErrSyntax)] }
def QuantityCanonicalSaid : Prop := quantityCanonicalRow.holds Tryd.pinned (OpenSpec.ofChange quantityCanonicalSpec)

/-- ITS FALSE NEIGHBOUR: 'it returns false'. Refute it at one input. -/
def quantityCanonicalWrong : ChangeSpec := { name := "quantityCanonical", fn := fun _ => fun
  | [d1, d2] => { results := [.lit (.bool false)], args := [d1, d2] }
  | _ => none }
def QuantityCanonicalWrongFalsely : Prop := quantityCanonicalRow.holds Tryd.pinned (OpenSpec.ofChange quantityCanonicalWrong)

/-- 'orchestratorlaw01.QuantityNegates': WHATEVER THE INPUT: true; the input reads as it did. -/
def quantityNegatesSpec : ChangeSpec := { name := "quantityNegates", fn := fun _ => fun
  | [d] => { results := [.lit (.bool true)], args := [d] }
  | _ => none }
def quantityNegatesRow : OpenClaim := { program := "ytjidhmklfkkckaadoor", sum := "daecf6cacf05ec8fe7e4c3d5c68778c5d11fc68eea80fb661093a1b30a73d325", func := "orchestrator/orchestratorlaw01.QuantityNegates", spec := "quantityNegates", named := ["strconv.ErrSyntax", "strconv.ErrRange", "internal/strconv.uint64pow10", "math/bits.deBruijn32tab", "math/bits.deBruijn64tab"], apart := false, laid := [("math/bits.deBruijn32tab", laid_math_bits_deBruijn32tab), ("math/bits.deBruijn64tab", laid_math_bits_deBruijn64tab), ("internal/strconv.uint64pow10", laid_internal_strconv_uint64pow10), ("strconv.ErrRange", laid_strconv_ErrRange), ("strconv.ErrSyntax", laid_strconv_ErrSyntax)] }
def QuantityNegatesSaid : Prop := quantityNegatesRow.holds Tryd.pinned (OpenSpec.ofChange quantityNegatesSpec)

/-- ITS FALSE NEIGHBOUR: 'it returns false'. Refute it at one input. -/
def quantityNegatesWrong : ChangeSpec := { name := "quantityNegates", fn := fun _ => fun
  | [d] => { results := [.lit (.bool false)], args := [d] }
  | _ => none }
def QuantityNegatesWrongFalsely : Prop := quantityNegatesRow.holds Tryd.pinned (OpenSpec.ofChange quantityNegatesWrong)

/-- 'orchestratorlaw01.QuantityResolves': WHATEVER THE INPUT: true; the input reads as it did. -/
def quantityResolvesSpec : ChangeSpec := { name := "quantityResolves", fn := fun _ => fun
  | [d1, d2, d3] => { results := [.lit (.bool true)], args := [d1, d2, d3] }
  | _ => none }
def quantityResolvesRow : OpenClaim := { program := "ytjidhmklfkkckaadoor", sum := "daecf6cacf05ec8fe7e4c3d5c68778c5d11fc68eea80fb661093a1b30a73d325", func := "orchestrator/orchestratorlaw01.QuantityResolves", spec := "quantityResolves", named := ["strconv.ErrSyntax", "strconv.ErrRange", "internal/strconv.uint64pow10", "math/bits.deBruijn32tab", "math/bits.deBruijn64tab"], apart := false, laid := [("math/bits.deBruijn32tab", laid_math_bits_deBruijn32tab), ("math/bits.deBruijn64tab", laid_math_bits_deBruijn64tab), ("internal/strconv.uint64pow10", laid_internal_strconv_uint64pow10), ("strconv.ErrRange", laid_strconv_ErrRange), ("strconv.ErrSyntax", laid_strconv_ErrSyntax)] }
def QuantityResolvesSaid : Prop := quantityResolvesRow.holds Tryd.pinned (OpenSpec.ofChange quantityResolvesSpec)

/-- ITS FALSE NEIGHBOUR: 'it returns false'. Refute it at one input. -/
def quantityResolvesWrong : ChangeSpec := { name := "quantityResolves", fn := fun _ => fun
  | [d1, d2, d3] => { results := [.lit (.bool false)], args := [d1, d2, d3] }
  | _ => none }
def QuantityResolvesWrongFalsely : Prop := quantityResolvesRow.holds Tryd.pinned (OpenSpec.ofChange quantityResolvesWrong)

/-- 'orchestratorlaw01.QuantityRounds': WHATEVER THE INPUT: true; the input reads as it did. -/
def quantityRoundsSpec : ChangeSpec := { name := "quantityRounds", fn := fun _ => fun
  | [d1, d2, d3, d4] => { results := [.lit (.bool true)], args := [d1, d2, d3, d4] }
  | _ => none }
def quantityRoundsRow : OpenClaim := { program := "ytjidhmklfkkckaadoor", sum := "daecf6cacf05ec8fe7e4c3d5c68778c5d11fc68eea80fb661093a1b30a73d325", func := "orchestrator/orchestratorlaw01.QuantityRounds", spec := "quantityRounds", named := ["strconv.ErrSyntax", "strconv.ErrRange", "internal/strconv.uint64pow10", "math/bits.deBruijn32tab", "math/bits.deBruijn64tab"], apart := false, laid := [("math/bits.deBruijn32tab", laid_math_bits_deBruijn32tab), ("math/bits.deBruijn64tab", laid_math_bits_deBruijn64tab), ("internal/strconv.uint64pow10", laid_internal_strconv_uint64pow10), ("strconv.ErrRange", laid_strconv_ErrRange), ("strconv.ErrSyntax", laid_strconv_ErrSyntax)] }
def QuantityRoundsSaid : Prop := quantityRoundsRow.holds Tryd.pinned (OpenSpec.ofChange quantityRoundsSpec)

/-- ITS FALSE NEIGHBOUR: 'it returns false'. Refute it at one input. -/
def quantityRoundsWrong : ChangeSpec := { name := "quantityRounds", fn := fun _ => fun
  | [d1, d2, d3, d4] => { results := [.lit (.bool false)], args := [d1, d2, d3, d4] }
  | _ => none }
def QuantityRoundsWrongFalsely : Prop := quantityRoundsRow.holds Tryd.pinned (OpenSpec.ofChange quantityRoundsWrong)

/- THE SECOND FORM. 'bulk': how many values and letters a reading holds, each counted each time it is reached (what is shared counts as often as it is met; a slice's spare places count too). A statement '..UptoSaid' is the law's where the arguments, and the package variables that the reading takes, are together of bulk at most 1048576: NARROWER than '..Said'. Prove '..Said' where nothing that the law and all that it calls make is longer than what came in: it says more and counts as full. Else prove '..UptoSaid'. A law counts once. -/
mutual
def uptoBulk {H : Type} : DataW H → Nat
  | .lit (.string bytes) => bytes.length + 1
  | .lit _ => 1
  | .nil => 1
  | .ptr d => uptoBulk d + 1
  | .slice elems spare => uptoBulkAll elems + uptoBulkAll spare + 1
  | .agg parts => uptoBulkAll parts + 1
  | .iface _ d => uptoBulk d + 1
  | .map entries => uptoBulkEntries entries + 1
  | .held _ => 1
def uptoBulkAll {H : Type} : List (DataW H) → Nat
  | [] => 0
  | d :: r => uptoBulk d + uptoBulkAll r
def uptoBulkEntries {H : Type} : List (Lit × DataW H) → Nat
  | [] => 0
  | x :: r => uptoBulkEntry x + uptoBulkEntries r
def uptoBulkEntry {H : Type} : Lit × DataW H → Nat
  | (.string bytes, d) => bytes.length + uptoBulk d + 1
  | (_, d) => uptoBulk d + 1
 end
def uptoSmall : (H : Type) → List (DataW H) → Bool := fun _ ds => decide (uptoBulkAll ds ≤ 1048576)
def OpenSpec.upto (s : _root_.Go.ChangeSpec) : _root_.Go.OpenSpec := { _root_.Go.OpenSpec.ofChange s with cond := some uptoSmall }

/-- 'orchestratorlaw01.QuantityParses', WHERE WHAT IT READS IS OF BULK AT MOST 1048576: true; the input reads as it did. -/
def quantityParsesUptoRow : OpenClaim := { program := "ytjidhmklfkkckaadoor", sum := "daecf6cacf05ec8fe7e4c3d5c68778c5d11fc68eea80fb661093a1b30a73d325", func := "orchestrator/orchestratorlaw01.QuantityParses", spec := "quantityParses", named := ["strconv.ErrSyntax", "strconv.ErrRange", "internal/strconv.uint64pow10", "math/bits.deBruijn32tab", "math/bits.deBruijn64tab"], apart := false, laid := [("math/bits.deBruijn32tab", laid_math_bits_deBruijn32tab), ("math/bits.deBruijn64tab", laid_math_bits_deBruijn64tab), ("internal/strconv.uint64pow10", laid_internal_strconv_uint64pow10), ("strconv.ErrRange", laid_strconv_ErrRange), ("strconv.ErrSyntax", laid_strconv_ErrSyntax)], narrowed := true }
def QuantityParsesUptoSaid : Prop := quantityParsesUptoRow.holds Tryd.pinned (OpenSpec.upto quantityParsesSpec)

/-- 'orchestratorlaw01.QuantityPrints', WHERE WHAT IT READS IS OF BULK AT MOST 1048576: true; the input reads as it did. -/
def quantityPrintsUptoRow : OpenClaim := { program := "ytjidhmklfkkckaadoor", sum := "daecf6cacf05ec8fe7e4c3d5c68778c5d11fc68eea80fb661093a1b30a73d325", func := "orchestrator/orchestratorlaw01.QuantityPrints", spec := "quantityPrints", recurses := true, named := ["internal/strconv.uint64pow10", "math/bits.deBruijn32tab", "math/bits.deBruijn64tab", "strconv.ErrSyntax", "strconv.ErrRange"], apart := false, laid := [("math/bits.deBruijn32tab", laid_math_bits_deBruijn32tab), ("math/bits.deBruijn64tab", laid_math_bits_deBruijn64tab), ("internal/strconv.uint64pow10", laid_internal_strconv_uint64pow10), ("strconv.ErrRange", laid_strconv_ErrRange), ("strconv.ErrSyntax", laid_strconv_ErrSyntax)], narrowed := true }
def QuantityPrintsUptoSaid : Prop := quantityPrintsUptoRow.holds Tryd.pinned (OpenSpec.upto quantityPrintsSpec)

/-- 'orchestratorlaw01.QuantityRoundTrip', WHERE WHAT IT READS IS OF BULK AT MOST 1048576: true; the input reads as it did. -/
def quantityRoundTripUptoRow : OpenClaim := { program := "ytjidhmklfkkckaadoor", sum := "daecf6cacf05ec8fe7e4c3d5c68778c5d11fc68eea80fb661093a1b30a73d325", func := "orchestrator/orchestratorlaw01.QuantityRoundTrip", spec := "quantityRoundTrip", named := ["internal/strconv.uint64pow10", "math/bits.deBruijn32tab", "math/bits.deBruijn64tab", "strconv.ErrSyntax", "strconv.ErrRange"], apart := false, laid := [("math/bits.deBruijn32tab", laid_math_bits_deBruijn32tab), ("math/bits.deBruijn64tab", laid_math_bits_deBruijn64tab), ("internal/strconv.uint64pow10", laid_internal_strconv_uint64pow10), ("strconv.ErrRange", laid_strconv_ErrRange), ("strconv.ErrSyntax", laid_strconv_ErrSyntax)], narrowed := true }
def QuantityRoundTripUptoSaid : Prop := quantityRoundTripUptoRow.holds Tryd.pinned (OpenSpec.upto quantityRoundTripSpec)

/-- 'orchestratorlaw01.QuantityCanonical', WHERE WHAT IT READS IS OF BULK AT MOST 1048576: true; the input reads as it did. -/
def quantityCanonicalUptoRow : OpenClaim := { program := "ytjidhmklfkkckaadoor", sum := "daecf6cacf05ec8fe7e4c3d5c68778c5d11fc68eea80fb661093a1b30a73d325", func := "orchestrator/orchestratorlaw01.QuantityCanonical", spec := "quantityCanonical", named := ["strconv.ErrSyntax", "strconv.ErrRange", "internal/strconv.uint64pow10", "math/bits.deBruijn32tab", "math/bits.deBruijn64tab"], apart := false, laid := [("math/bits.deBruijn32tab", laid_math_bits_deBruijn32tab), ("math/bits.deBruijn64tab", laid_math_bits_deBruijn64tab), ("internal/strconv.uint64pow10", laid_internal_strconv_uint64pow10), ("strconv.ErrRange", laid_strconv_ErrRange), ("strconv.ErrSyntax", laid_strconv_ErrSyntax)], narrowed := true }
def QuantityCanonicalUptoSaid : Prop := quantityCanonicalUptoRow.holds Tryd.pinned (OpenSpec.upto quantityCanonicalSpec)

/-- 'orchestratorlaw01.QuantityNegates', WHERE WHAT IT READS IS OF BULK AT MOST 1048576: true; the input reads as it did. -/
def quantityNegatesUptoRow : OpenClaim := { program := "ytjidhmklfkkckaadoor", sum := "daecf6cacf05ec8fe7e4c3d5c68778c5d11fc68eea80fb661093a1b30a73d325", func := "orchestrator/orchestratorlaw01.QuantityNegates", spec := "quantityNegates", named := ["strconv.ErrSyntax", "strconv.ErrRange", "internal/strconv.uint64pow10", "math/bits.deBruijn32tab", "math/bits.deBruijn64tab"], apart := false, laid := [("math/bits.deBruijn32tab", laid_math_bits_deBruijn32tab), ("math/bits.deBruijn64tab", laid_math_bits_deBruijn64tab), ("internal/strconv.uint64pow10", laid_internal_strconv_uint64pow10), ("strconv.ErrRange", laid_strconv_ErrRange), ("strconv.ErrSyntax", laid_strconv_ErrSyntax)], narrowed := true }
def QuantityNegatesUptoSaid : Prop := quantityNegatesUptoRow.holds Tryd.pinned (OpenSpec.upto quantityNegatesSpec)

/-- 'orchestratorlaw01.QuantityResolves', WHERE WHAT IT READS IS OF BULK AT MOST 1048576: true; the input reads as it did. -/
def quantityResolvesUptoRow : OpenClaim := { program := "ytjidhmklfkkckaadoor", sum := "daecf6cacf05ec8fe7e4c3d5c68778c5d11fc68eea80fb661093a1b30a73d325", func := "orchestrator/orchestratorlaw01.QuantityResolves", spec := "quantityResolves", named := ["strconv.ErrSyntax", "strconv.ErrRange", "internal/strconv.uint64pow10", "math/bits.deBruijn32tab", "math/bits.deBruijn64tab"], apart := false, laid := [("math/bits.deBruijn32tab", laid_math_bits_deBruijn32tab), ("math/bits.deBruijn64tab", laid_math_bits_deBruijn64tab), ("internal/strconv.uint64pow10", laid_internal_strconv_uint64pow10), ("strconv.ErrRange", laid_strconv_ErrRange), ("strconv.ErrSyntax", laid_strconv_ErrSyntax)], narrowed := true }
def QuantityResolvesUptoSaid : Prop := quantityResolvesUptoRow.holds Tryd.pinned (OpenSpec.upto quantityResolvesSpec)

/-- 'orchestratorlaw01.QuantityRounds', WHERE WHAT IT READS IS OF BULK AT MOST 1048576: true; the input reads as it did. -/
def quantityRoundsUptoRow : OpenClaim := { program := "ytjidhmklfkkckaadoor", sum := "daecf6cacf05ec8fe7e4c3d5c68778c5d11fc68eea80fb661093a1b30a73d325", func := "orchestrator/orchestratorlaw01.QuantityRounds", spec := "quantityRounds", named := ["strconv.ErrSyntax", "strconv.ErrRange", "internal/strconv.uint64pow10", "math/bits.deBruijn32tab", "math/bits.deBruijn64tab"], apart := false, laid := [("math/bits.deBruijn32tab", laid_math_bits_deBruijn32tab), ("math/bits.deBruijn64tab", laid_math_bits_deBruijn64tab), ("internal/strconv.uint64pow10", laid_internal_strconv_uint64pow10), ("strconv.ErrRange", laid_strconv_ErrRange), ("strconv.ErrSyntax", laid_strconv_ErrSyntax)], narrowed := true }
def QuantityRoundsUptoSaid : Prop := quantityRoundsUptoRow.holds Tryd.pinned (OpenSpec.upto quantityRoundsSpec)

end Rows
end Go.Proofs.YtjidhmklfkkckaaDoor
