/-
  DERIVED. GIVEN WITH THE SEED: THE CARDS: each row of YtbcikhbepldjhaaDoorRows.lean that lists a variable, with what it lists TIED to the program's text (the seventh form; the later family's looks); each row that meets fmt, with fmt's text TOLD by the authors' own Lean function (tested against real Go, not proved from fmt's source: count such statements apart). THE CARD IS WHAT COUNTS. Prove the row's statement (the work); the ties are given (YtbcikhbepldjhaaDoorTie.lean); close each card by the builder's one call (the guide's Derived/Test/ToyasCard.lean, 'card_holds'). Laid BY PROGRAM, IN A SANDBOX (cutbox-door.mjs). By AI agents, Wed Nov 11 2026. No macro, syntax, notation, axiom, sorry.
-/
import Derived.Test.YtbcikhbepldjhaaDoorRows
import GoSem.ClaimSeven
namespace Go.Proofs.YtbcikhbepldjhaaDoor
namespace Rows

/-- THE TIED CARD OF 'orchestratorlaw56.ServiceAllocates'. -/
def serviceAllocatesCard : Claim7 := { stood := { row := serviceAllocatesRow, standIns := [], harness := (true, "c85bfcc24ca430d6593d6583a3d4167cb1d31cc7217d2b3fec0527ad4625127d"), looks := false }, kinds := [], alts := [], laidByText := true, laidKinds := [.data, .data, .data], laidTests := true, laidLooks := .later }
def ServiceAllocatesCardSaid : Prop := Claim7.holds Tryd.pinned (.plain (OpenSpec.ofChange serviceAllocatesSpec)) serviceAllocatesCard

/-- THE TIED CARD OF 'orchestratorlaw56.ServiceRoutes'. -/
def serviceRoutesCard : Claim7 := { stood := { row := serviceRoutesRow, standIns := [], harness := (true, "c85bfcc24ca430d6593d6583a3d4167cb1d31cc7217d2b3fec0527ad4625127d"), looks := false }, kinds := [], alts := [], laidByText := true, laidKinds := [.data, .data, .data], laidTests := true, laidLooks := .later }
def ServiceRoutesCardSaid : Prop := Claim7.holds Tryd.pinned (.plain (OpenSpec.ofChange serviceRoutesSpec)) serviceRoutesCard

/-- THE TIED CARD OF 'orchestratorlaw56.ServiceMinimalMove'. -/
def serviceMinimalMoveCard : Claim7 := { stood := { row := serviceMinimalMoveRow, standIns := [], harness := (true, "c85bfcc24ca430d6593d6583a3d4167cb1d31cc7217d2b3fec0527ad4625127d"), looks := false }, kinds := [], alts := [], laidByText := true, laidKinds := [.data, .data, .data], laidTests := true, laidLooks := .later }
def ServiceMinimalMoveCardSaid : Prop := Claim7.holds Tryd.pinned (.plain (OpenSpec.ofChange serviceMinimalMoveSpec)) serviceMinimalMoveCard

/-- THE TIED CARD OF 'orchestratorlaw56.ServiceFair'. -/
def serviceFairCard : Claim7 := { stood := { row := serviceFairRow, standIns := [], harness := (true, "c85bfcc24ca430d6593d6583a3d4167cb1d31cc7217d2b3fec0527ad4625127d"), looks := false }, kinds := [], alts := [], laidByText := true, laidKinds := [.data, .data, .data], laidTests := true, laidLooks := .later }
def ServiceFairCardSaid : Prop := Claim7.holds Tryd.pinned (.plain (OpenSpec.ofChange serviceFairSpec)) serviceFairCard

/-- THE TIED CARD OF 'orchestratorlaw56.ServiceFree'. -/
def serviceFreeCard : Claim7 := { stood := { row := serviceFreeRow, standIns := [], harness := (true, "c85bfcc24ca430d6593d6583a3d4167cb1d31cc7217d2b3fec0527ad4625127d"), looks := false }, kinds := [], alts := [], laidByText := true, laidKinds := [.data, .data, .data], laidTests := true, laidLooks := .later }
def ServiceFreeCardSaid : Prop := Claim7.holds Tryd.pinned (.plain (OpenSpec.ofChange serviceFreeSpec)) serviceFreeCard

/-- THE SECOND FORM's CARD OF 'orchestratorlaw56.ServiceAllocates'. -/
def serviceAllocatesUptoCard : Claim7 := { stood := { row := serviceAllocatesUptoRow, standIns := [], harness := (true, "c85bfcc24ca430d6593d6583a3d4167cb1d31cc7217d2b3fec0527ad4625127d"), looks := false }, kinds := [], alts := [], laidByText := true, laidKinds := [.data, .data, .data], laidTests := true, laidLooks := .later }
def ServiceAllocatesUptoCardSaid : Prop := Claim7.holds Tryd.pinned (.plain (OpenSpec.upto serviceAllocatesSpec)) serviceAllocatesUptoCard

/-- THE SECOND FORM's CARD OF 'orchestratorlaw56.ServiceRoutes'. -/
def serviceRoutesUptoCard : Claim7 := { stood := { row := serviceRoutesUptoRow, standIns := [], harness := (true, "c85bfcc24ca430d6593d6583a3d4167cb1d31cc7217d2b3fec0527ad4625127d"), looks := false }, kinds := [], alts := [], laidByText := true, laidKinds := [.data, .data, .data], laidTests := true, laidLooks := .later }
def ServiceRoutesUptoCardSaid : Prop := Claim7.holds Tryd.pinned (.plain (OpenSpec.upto serviceRoutesSpec)) serviceRoutesUptoCard

/-- THE SECOND FORM's CARD OF 'orchestratorlaw56.ServiceMinimalMove'. -/
def serviceMinimalMoveUptoCard : Claim7 := { stood := { row := serviceMinimalMoveUptoRow, standIns := [], harness := (true, "c85bfcc24ca430d6593d6583a3d4167cb1d31cc7217d2b3fec0527ad4625127d"), looks := false }, kinds := [], alts := [], laidByText := true, laidKinds := [.data, .data, .data], laidTests := true, laidLooks := .later }
def ServiceMinimalMoveUptoCardSaid : Prop := Claim7.holds Tryd.pinned (.plain (OpenSpec.upto serviceMinimalMoveSpec)) serviceMinimalMoveUptoCard

/-- THE SECOND FORM's CARD OF 'orchestratorlaw56.ServiceFair'. -/
def serviceFairUptoCard : Claim7 := { stood := { row := serviceFairUptoRow, standIns := [], harness := (true, "c85bfcc24ca430d6593d6583a3d4167cb1d31cc7217d2b3fec0527ad4625127d"), looks := false }, kinds := [], alts := [], laidByText := true, laidKinds := [.data, .data, .data], laidTests := true, laidLooks := .later }
def ServiceFairUptoCardSaid : Prop := Claim7.holds Tryd.pinned (.plain (OpenSpec.upto serviceFairSpec)) serviceFairUptoCard

/-- THE SECOND FORM's CARD OF 'orchestratorlaw56.ServiceFree'. -/
def serviceFreeUptoCard : Claim7 := { stood := { row := serviceFreeUptoRow, standIns := [], harness := (true, "c85bfcc24ca430d6593d6583a3d4167cb1d31cc7217d2b3fec0527ad4625127d"), looks := false }, kinds := [], alts := [], laidByText := true, laidKinds := [.data, .data, .data], laidTests := true, laidLooks := .later }
def ServiceFreeUptoCardSaid : Prop := Claim7.holds Tryd.pinned (.plain (OpenSpec.upto serviceFreeSpec)) serviceFreeUptoCard
end Rows
end Go.Proofs.YtbcikhbepldjhaaDoor
