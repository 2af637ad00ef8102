/-
  DERIVED. GIVEN WITH THE SEED: THE CARDS: each row of YtjidhmklfkkckaaDoorRows.lean that lists a variable, with what it lists TIED to the program's text (the seventh form; the later family's looks); each row that meets fmt, with fmt's text TOLD by the authors' own Lean function (tested against real Go, not proved from fmt's source: count such statements apart). THE CARD IS WHAT COUNTS. Prove the row's statement (the work); the ties are given (YtjidhmklfkkckaaDoorTie.lean); close each card by the builder's one call (the guide's Derived/Test/ToyasCard.lean, 'card_holds'). Laid BY PROGRAM, IN A SANDBOX (cutbox-door.mjs). By AI agents, Wed Nov 11 2026. No macro, syntax, notation, axiom, sorry.
-/
import Derived.Test.YtjidhmklfkkckaaDoorRows
import GoSem.ClaimSeven
namespace Go.Proofs.YtjidhmklfkkckaaDoor
namespace Rows

/-- THE TIED CARD OF 'orchestratorlaw01.QuantityParses'. -/
def quantityParsesCard : Claim7 := { stood := { row := quantityParsesRow, standIns := [], harness := (true, "d30eef22c3305bc96ceb05dc8ccdf9243fc1ea067beb73be1e0fb1fc9fc51fa1"), looks := true }, kinds := [], alts := [], laidByText := true, laidKinds := [.data, .data, .data, .sentinel, .sentinel], laidTests := true, laidLooks := .later }
def QuantityParsesCardSaid : Prop := Claim7.holds Tryd.pinned (.plain (OpenSpec.ofChange quantityParsesSpec)) quantityParsesCard

/-- THE TIED CARD OF 'orchestratorlaw01.QuantityPrints'. -/
def quantityPrintsCard : Claim7 := { stood := { row := quantityPrintsRow, standIns := [], harness := (true, "d30eef22c3305bc96ceb05dc8ccdf9243fc1ea067beb73be1e0fb1fc9fc51fa1"), looks := true }, kinds := [], alts := [], laidByText := true, laidKinds := [.data, .data, .data, .sentinel, .sentinel], laidTests := true, laidLooks := .later }
def QuantityPrintsCardSaid : Prop := Claim7.holds Tryd.pinned (.plain (OpenSpec.ofChange quantityPrintsSpec)) quantityPrintsCard

/-- THE TIED CARD OF 'orchestratorlaw01.QuantityRoundTrip'. -/
def quantityRoundTripCard : Claim7 := { stood := { row := quantityRoundTripRow, standIns := [], harness := (true, "d30eef22c3305bc96ceb05dc8ccdf9243fc1ea067beb73be1e0fb1fc9fc51fa1"), looks := true }, kinds := [], alts := [], laidByText := true, laidKinds := [.data, .data, .data, .sentinel, .sentinel], laidTests := true, laidLooks := .later }
def QuantityRoundTripCardSaid : Prop := Claim7.holds Tryd.pinned (.plain (OpenSpec.ofChange quantityRoundTripSpec)) quantityRoundTripCard

/-- THE TIED CARD OF 'orchestratorlaw01.QuantityCanonical'. -/
def quantityCanonicalCard : Claim7 := { stood := { row := quantityCanonicalRow, standIns := [], harness := (true, "d30eef22c3305bc96ceb05dc8ccdf9243fc1ea067beb73be1e0fb1fc9fc51fa1"), looks := true }, kinds := [], alts := [], laidByText := true, laidKinds := [.data, .data, .data, .sentinel, .sentinel], laidTests := true, laidLooks := .later }
def QuantityCanonicalCardSaid : Prop := Claim7.holds Tryd.pinned (.plain (OpenSpec.ofChange quantityCanonicalSpec)) quantityCanonicalCard

/-- THE TIED CARD OF 'orchestratorlaw01.QuantityNegates'. -/
def quantityNegatesCard : Claim7 := { stood := { row := quantityNegatesRow, standIns := [], harness := (true, "d30eef22c3305bc96ceb05dc8ccdf9243fc1ea067beb73be1e0fb1fc9fc51fa1"), looks := true }, kinds := [], alts := [], laidByText := true, laidKinds := [.data, .data, .data, .sentinel, .sentinel], laidTests := true, laidLooks := .later }
def QuantityNegatesCardSaid : Prop := Claim7.holds Tryd.pinned (.plain (OpenSpec.ofChange quantityNegatesSpec)) quantityNegatesCard

/-- THE TIED CARD OF 'orchestratorlaw01.QuantityResolves'. -/
def quantityResolvesCard : Claim7 := { stood := { row := quantityResolvesRow, standIns := [], harness := (true, "d30eef22c3305bc96ceb05dc8ccdf9243fc1ea067beb73be1e0fb1fc9fc51fa1"), looks := true }, kinds := [], alts := [], laidByText := true, laidKinds := [.data, .data, .data, .sentinel, .sentinel], laidTests := true, laidLooks := .later }
def QuantityResolvesCardSaid : Prop := Claim7.holds Tryd.pinned (.plain (OpenSpec.ofChange quantityResolvesSpec)) quantityResolvesCard

/-- THE TIED CARD OF 'orchestratorlaw01.QuantityRounds'. -/
def quantityRoundsCard : Claim7 := { stood := { row := quantityRoundsRow, standIns := [], harness := (true, "d30eef22c3305bc96ceb05dc8ccdf9243fc1ea067beb73be1e0fb1fc9fc51fa1"), looks := true }, kinds := [], alts := [], laidByText := true, laidKinds := [.data, .data, .data, .sentinel, .sentinel], laidTests := true, laidLooks := .later }
def QuantityRoundsCardSaid : Prop := Claim7.holds Tryd.pinned (.plain (OpenSpec.ofChange quantityRoundsSpec)) quantityRoundsCard

/-- THE SECOND FORM's CARD OF 'orchestratorlaw01.QuantityParses'. -/
def quantityParsesUptoCard : Claim7 := { stood := { row := quantityParsesUptoRow, standIns := [], harness := (true, "d30eef22c3305bc96ceb05dc8ccdf9243fc1ea067beb73be1e0fb1fc9fc51fa1"), looks := true }, kinds := [], alts := [], laidByText := true, laidKinds := [.data, .data, .data, .sentinel, .sentinel], laidTests := true, laidLooks := .later }
def QuantityParsesUptoCardSaid : Prop := Claim7.holds Tryd.pinned (.plain (OpenSpec.upto quantityParsesSpec)) quantityParsesUptoCard

/-- THE SECOND FORM's CARD OF 'orchestratorlaw01.QuantityPrints'. -/
def quantityPrintsUptoCard : Claim7 := { stood := { row := quantityPrintsUptoRow, standIns := [], harness := (true, "d30eef22c3305bc96ceb05dc8ccdf9243fc1ea067beb73be1e0fb1fc9fc51fa1"), looks := true }, kinds := [], alts := [], laidByText := true, laidKinds := [.data, .data, .data, .sentinel, .sentinel], laidTests := true, laidLooks := .later }
def QuantityPrintsUptoCardSaid : Prop := Claim7.holds Tryd.pinned (.plain (OpenSpec.upto quantityPrintsSpec)) quantityPrintsUptoCard

/-- THE SECOND FORM's CARD OF 'orchestratorlaw01.QuantityRoundTrip'. -/
def quantityRoundTripUptoCard : Claim7 := { stood := { row := quantityRoundTripUptoRow, standIns := [], harness := (true, "d30eef22c3305bc96ceb05dc8ccdf9243fc1ea067beb73be1e0fb1fc9fc51fa1"), looks := true }, kinds := [], alts := [], laidByText := true, laidKinds := [.data, .data, .data, .sentinel, .sentinel], laidTests := true, laidLooks := .later }
def QuantityRoundTripUptoCardSaid : Prop := Claim7.holds Tryd.pinned (.plain (OpenSpec.upto quantityRoundTripSpec)) quantityRoundTripUptoCard

/-- THE SECOND FORM's CARD OF 'orchestratorlaw01.QuantityCanonical'. -/
def quantityCanonicalUptoCard : Claim7 := { stood := { row := quantityCanonicalUptoRow, standIns := [], harness := (true, "d30eef22c3305bc96ceb05dc8ccdf9243fc1ea067beb73be1e0fb1fc9fc51fa1"), looks := true }, kinds := [], alts := [], laidByText := true, laidKinds := [.data, .data, .data, .sentinel, .sentinel], laidTests := true, laidLooks := .later }
def QuantityCanonicalUptoCardSaid : Prop := Claim7.holds Tryd.pinned (.plain (OpenSpec.upto quantityCanonicalSpec)) quantityCanonicalUptoCard

/-- THE SECOND FORM's CARD OF 'orchestratorlaw01.QuantityNegates'. -/
def quantityNegatesUptoCard : Claim7 := { stood := { row := quantityNegatesUptoRow, standIns := [], harness := (true, "d30eef22c3305bc96ceb05dc8ccdf9243fc1ea067beb73be1e0fb1fc9fc51fa1"), looks := true }, kinds := [], alts := [], laidByText := true, laidKinds := [.data, .data, .data, .sentinel, .sentinel], laidTests := true, laidLooks := .later }
def QuantityNegatesUptoCardSaid : Prop := Claim7.holds Tryd.pinned (.plain (OpenSpec.upto quantityNegatesSpec)) quantityNegatesUptoCard

/-- THE SECOND FORM's CARD OF 'orchestratorlaw01.QuantityResolves'. -/
def quantityResolvesUptoCard : Claim7 := { stood := { row := quantityResolvesUptoRow, standIns := [], harness := (true, "d30eef22c3305bc96ceb05dc8ccdf9243fc1ea067beb73be1e0fb1fc9fc51fa1"), looks := true }, kinds := [], alts := [], laidByText := true, laidKinds := [.data, .data, .data, .sentinel, .sentinel], laidTests := true, laidLooks := .later }
def QuantityResolvesUptoCardSaid : Prop := Claim7.holds Tryd.pinned (.plain (OpenSpec.upto quantityResolvesSpec)) quantityResolvesUptoCard

/-- THE SECOND FORM's CARD OF 'orchestratorlaw01.QuantityRounds'. -/
def quantityRoundsUptoCard : Claim7 := { stood := { row := quantityRoundsUptoRow, standIns := [], harness := (true, "d30eef22c3305bc96ceb05dc8ccdf9243fc1ea067beb73be1e0fb1fc9fc51fa1"), looks := true }, kinds := [], alts := [], laidByText := true, laidKinds := [.data, .data, .data, .sentinel, .sentinel], laidTests := true, laidLooks := .later }
def QuantityRoundsUptoCardSaid : Prop := Claim7.holds Tryd.pinned (.plain (OpenSpec.upto quantityRoundsSpec)) quantityRoundsUptoCard
end Rows
end Go.Proofs.YtjidhmklfkkckaaDoor
