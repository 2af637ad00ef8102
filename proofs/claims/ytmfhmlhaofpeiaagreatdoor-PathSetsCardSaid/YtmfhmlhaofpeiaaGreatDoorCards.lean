/-
  DERIVED. GIVEN WITH THE SEED: THE CARDS: each row of YtmfhmlhaofpeiaaGreatDoorRows.lean that lists a variable, with what it lists TIED to the program's text (the seventh form; the later family's looks); each row that meets fmt, with fmt's text TOLD by the authors' own Lean function (tested against real Go, not proved from fmt's source: count such statements apart). THE CARD IS WHAT COUNTS. Prove the row's statement (the work); the ties are given (YtmfhmlhaofpeiaaGreatDoorTie.lean); close each card by the builder's one call (the guide's Derived/Test/ToyasCard.lean, 'card_holds'). Laid BY PROGRAM, IN A SANDBOX (cutbox-door.mjs). By AI agents, Wed Nov 11 2026. No macro, syntax, notation, axiom, sorry.
-/
import Derived.Test.YtmfhmlhaofpeiaaGreatDoorRows
import GoSem.ClaimSeven
namespace Go.Proofs.YtmfhmlhaofpeiaaGreatDoor
namespace Rows

/-- THE TIED CARD OF 'orchestratorlaw06.PathValid'. -/
def pathValidCard : Claim7 := { stood := { row := pathValidRow, standIns := [], harness := (true, "db98715ede12f6946b71febbf2290a98c9893dafdda02b02511b6b51e791c06b"), looks := true }, kinds := [], alts := [], laidByText := true, laidKinds := [.data, .data, .data, .sentinel, .sentinel], laidTests := true, laidLooks := .later }
def PathValidCardSaid : Prop := Claim7.holds Tryz.pinned (.plain (OpenSpec.ofChange pathValidSpec)) pathValidCard

/-- THE TIED CARD OF 'orchestratorlaw06.PathParses'. -/
def pathParsesCard : Claim7 := { stood := { row := pathParsesRow, standIns := [], harness := (true, "db98715ede12f6946b71febbf2290a98c9893dafdda02b02511b6b51e791c06b"), looks := true }, kinds := [], alts := [], laidByText := true, laidKinds := [.data, .data, .data, .sentinel, .sentinel], laidTests := true, laidLooks := .later }
def PathParsesCardSaid : Prop := Claim7.holds Tryz.pinned (.plain (OpenSpec.ofChange pathParsesSpec)) pathParsesCard

/-- THE TIED CARD OF 'orchestratorlaw06.PathPrints'. -/
def pathPrintsCard : Claim7 := { stood := { row := pathPrintsRow, standIns := [], harness := (true, "db98715ede12f6946b71febbf2290a98c9893dafdda02b02511b6b51e791c06b"), looks := true }, kinds := [], alts := [], laidByText := true, laidKinds := [.data, .data, .data, .sentinel, .sentinel], laidTests := true, laidLooks := .later }
def PathPrintsCardSaid : Prop := Claim7.holds Tryz.pinned (.plain (OpenSpec.ofChange pathPrintsSpec)) pathPrintsCard

/-- THE TIED CARD OF 'orchestratorlaw06.PathGets'. -/
def pathGetsCard : Claim7 := { stood := { row := pathGetsRow, standIns := [], harness := (true, "db98715ede12f6946b71febbf2290a98c9893dafdda02b02511b6b51e791c06b"), looks := true }, kinds := [], alts := [], laidByText := true, laidKinds := [.data, .data, .data, .sentinel, .sentinel], laidTests := true, laidLooks := .later }
def PathGetsCardSaid : Prop := Claim7.holds Tryz.pinned (.plain (OpenSpec.ofChange pathGetsSpec)) pathGetsCard

/-- THE TIED CARD OF 'orchestratorlaw06.PathSets'. -/
def pathSetsCard : Claim7 := { stood := { row := pathSetsRow, standIns := [], harness := (true, "db98715ede12f6946b71febbf2290a98c9893dafdda02b02511b6b51e791c06b"), looks := true }, kinds := [], alts := [], laidByText := true, laidKinds := [.data, .data, .data, .sentinel, .sentinel], laidTests := true, laidLooks := .later }
def PathSetsCardSaid : Prop := Claim7.holds Tryz.pinned (.plain (OpenSpec.ofChange pathSetsSpec)) pathSetsCard

/-- THE TIED CARD OF 'orchestratorlaw06.PathLenses'. -/
def pathLensesCard : Claim7 := { stood := { row := pathLensesRow, standIns := [], harness := (true, "db98715ede12f6946b71febbf2290a98c9893dafdda02b02511b6b51e791c06b"), looks := true }, kinds := [], alts := [], laidByText := true, laidKinds := [.data, .data, .data, .sentinel, .sentinel], laidTests := true, laidLooks := .later }
def PathLensesCardSaid : Prop := Claim7.holds Tryz.pinned (.plain (OpenSpec.ofChange pathLensesSpec)) pathLensesCard

/-- THE TIED CARD OF 'orchestratorlaw06.PathRoundTrip'. -/
def pathRoundTripCard : Claim7 := { stood := { row := pathRoundTripRow, standIns := [], harness := (true, "db98715ede12f6946b71febbf2290a98c9893dafdda02b02511b6b51e791c06b"), looks := true }, kinds := [], alts := [], laidByText := true, laidKinds := [.data, .data, .data, .sentinel, .sentinel], laidTests := true, laidLooks := .later }
def PathRoundTripCardSaid : Prop := Claim7.holds Tryz.pinned (.plain (OpenSpec.ofChange pathRoundTripSpec)) pathRoundTripCard

/-- THE TIED CARD OF 'orchestratorlaw06.PathRemoves'. -/
def pathRemovesCard : Claim7 := { stood := { row := pathRemovesRow, standIns := [], harness := (true, "db98715ede12f6946b71febbf2290a98c9893dafdda02b02511b6b51e791c06b"), looks := true }, kinds := [], alts := [], laidByText := true, laidKinds := [.data, .data, .data, .sentinel, .sentinel], laidTests := true, laidLooks := .later }
def PathRemovesCardSaid : Prop := Claim7.holds Tryz.pinned (.plain (OpenSpec.ofChange pathRemovesSpec)) pathRemovesCard

/-- THE SECOND FORM's CARD OF 'orchestratorlaw06.PathValid'. -/
def pathValidUptoCard : Claim7 := { stood := { row := pathValidUptoRow, standIns := [], harness := (true, "db98715ede12f6946b71febbf2290a98c9893dafdda02b02511b6b51e791c06b"), looks := true }, kinds := [], alts := [], laidByText := true, laidKinds := [.data, .data, .data, .sentinel, .sentinel], laidTests := true, laidLooks := .later }
def PathValidUptoCardSaid : Prop := Claim7.holds Tryz.pinned (.plain (OpenSpec.upto pathValidSpec)) pathValidUptoCard

/-- THE SECOND FORM's CARD OF 'orchestratorlaw06.PathParses'. -/
def pathParsesUptoCard : Claim7 := { stood := { row := pathParsesUptoRow, standIns := [], harness := (true, "db98715ede12f6946b71febbf2290a98c9893dafdda02b02511b6b51e791c06b"), looks := true }, kinds := [], alts := [], laidByText := true, laidKinds := [.data, .data, .data, .sentinel, .sentinel], laidTests := true, laidLooks := .later }
def PathParsesUptoCardSaid : Prop := Claim7.holds Tryz.pinned (.plain (OpenSpec.upto pathParsesSpec)) pathParsesUptoCard

/-- THE SECOND FORM's CARD OF 'orchestratorlaw06.PathPrints'. -/
def pathPrintsUptoCard : Claim7 := { stood := { row := pathPrintsUptoRow, standIns := [], harness := (true, "db98715ede12f6946b71febbf2290a98c9893dafdda02b02511b6b51e791c06b"), looks := true }, kinds := [], alts := [], laidByText := true, laidKinds := [.data, .data, .data, .sentinel, .sentinel], laidTests := true, laidLooks := .later }
def PathPrintsUptoCardSaid : Prop := Claim7.holds Tryz.pinned (.plain (OpenSpec.upto pathPrintsSpec)) pathPrintsUptoCard

/-- THE SECOND FORM's CARD OF 'orchestratorlaw06.PathGets'. -/
def pathGetsUptoCard : Claim7 := { stood := { row := pathGetsUptoRow, standIns := [], harness := (true, "db98715ede12f6946b71febbf2290a98c9893dafdda02b02511b6b51e791c06b"), looks := true }, kinds := [], alts := [], laidByText := true, laidKinds := [.data, .data, .data, .sentinel, .sentinel], laidTests := true, laidLooks := .later }
def PathGetsUptoCardSaid : Prop := Claim7.holds Tryz.pinned (.plain (OpenSpec.upto pathGetsSpec)) pathGetsUptoCard

/-- THE SECOND FORM's CARD OF 'orchestratorlaw06.PathSets'. -/
def pathSetsUptoCard : Claim7 := { stood := { row := pathSetsUptoRow, standIns := [], harness := (true, "db98715ede12f6946b71febbf2290a98c9893dafdda02b02511b6b51e791c06b"), looks := true }, kinds := [], alts := [], laidByText := true, laidKinds := [.data, .data, .data, .sentinel, .sentinel], laidTests := true, laidLooks := .later }
def PathSetsUptoCardSaid : Prop := Claim7.holds Tryz.pinned (.plain (OpenSpec.upto pathSetsSpec)) pathSetsUptoCard

/-- THE SECOND FORM's CARD OF 'orchestratorlaw06.PathLenses'. -/
def pathLensesUptoCard : Claim7 := { stood := { row := pathLensesUptoRow, standIns := [], harness := (true, "db98715ede12f6946b71febbf2290a98c9893dafdda02b02511b6b51e791c06b"), looks := true }, kinds := [], alts := [], laidByText := true, laidKinds := [.data, .data, .data, .sentinel, .sentinel], laidTests := true, laidLooks := .later }
def PathLensesUptoCardSaid : Prop := Claim7.holds Tryz.pinned (.plain (OpenSpec.upto pathLensesSpec)) pathLensesUptoCard

/-- THE SECOND FORM's CARD OF 'orchestratorlaw06.PathRoundTrip'. -/
def pathRoundTripUptoCard : Claim7 := { stood := { row := pathRoundTripUptoRow, standIns := [], harness := (true, "db98715ede12f6946b71febbf2290a98c9893dafdda02b02511b6b51e791c06b"), looks := true }, kinds := [], alts := [], laidByText := true, laidKinds := [.data, .data, .data, .sentinel, .sentinel], laidTests := true, laidLooks := .later }
def PathRoundTripUptoCardSaid : Prop := Claim7.holds Tryz.pinned (.plain (OpenSpec.upto pathRoundTripSpec)) pathRoundTripUptoCard

/-- THE SECOND FORM's CARD OF 'orchestratorlaw06.PathRemoves'. -/
def pathRemovesUptoCard : Claim7 := { stood := { row := pathRemovesUptoRow, standIns := [], harness := (true, "db98715ede12f6946b71febbf2290a98c9893dafdda02b02511b6b51e791c06b"), looks := true }, kinds := [], alts := [], laidByText := true, laidKinds := [.data, .data, .data, .sentinel, .sentinel], laidTests := true, laidLooks := .later }
def PathRemovesUptoCardSaid : Prop := Claim7.holds Tryz.pinned (.plain (OpenSpec.upto pathRemovesSpec)) pathRemovesUptoCard
end Rows
end Go.Proofs.YtmfhmlhaofpeiaaGreatDoor
