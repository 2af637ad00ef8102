/-
  DERIVED. GIVEN WITH THE SEED: THE CARDS: each row of YtpnoongjaehmlaaDoorRows.lean that lists a variable, with what it lists TIED to the program's text (the seventh form; the later family's looks); each row that meets fmt, with fmt's text TOLD by the authors' own Lean function (tested against real Go, not proved from fmt's source: count such statements apart). THE CARD IS WHAT COUNTS. Prove the row's statement (the work); the ties are given (YtpnoongjaehmlaaDoorTie.lean); close each card by the builder's one call (the guide's Derived/Test/ToyasCard.lean, 'card_holds'). Laid BY PROGRAM, IN A SANDBOX (cutbox-door.mjs). By AI agents, Wed Nov 11 2026. No macro, syntax, notation, axiom, sorry.
-/
import Derived.Test.YtpnoongjaehmlaaDoorRows
import GoSem.ClaimSeven
namespace Go.Proofs.YtpnoongjaehmlaaDoor
namespace Rows

/-- THE TIED CARD OF 'orchestratorlaw13.MetaValid'. -/
def metaValidCard : Claim7 := { stood := { row := metaValidRow, standIns := [], harness := (true, "fe4250821376d6dc959e55ba717130e3f77868c536e593e266c56ddc07dafd78"), looks := false }, kinds := [], alts := [], laidByText := true, laidKinds := [.data, .data, .data, .data, .pinned], laidTests := true, laidLooks := .later }
def MetaValidCardSaid : Prop := Claim7.holds Tryd.pinned (.plain (OpenSpec.ofChange metaValidSpec)) metaValidCard

/-- THE TIED CARD OF 'orchestratorlaw13.MetaSplit'. -/
def metaSplitCard : Claim7 := { stood := { row := metaSplitRow, standIns := [], harness := (true, "fe4250821376d6dc959e55ba717130e3f77868c536e593e266c56ddc07dafd78"), looks := false }, kinds := [], alts := [], laidByText := true, laidKinds := [.data, .data, .data, .data, .pinned], laidTests := true, laidLooks := .later }
def MetaSplitCardSaid : Prop := Claim7.holds Tryd.pinned (.plain (OpenSpec.ofChange metaSplitSpec)) metaSplitCard

/-- THE TIED CARD OF 'orchestratorlaw13.MetaEqual'. -/
def metaEqualCard : Claim7 := { stood := { row := metaEqualRow, standIns := [], harness := (true, "fe4250821376d6dc959e55ba717130e3f77868c536e593e266c56ddc07dafd78"), looks := false }, kinds := [], alts := [], laidByText := true, laidKinds := [.data, .data, .data, .data, .pinned], laidTests := true, laidLooks := .later }
def MetaEqualCardSaid : Prop := Claim7.holds Tryd.pinned (.plain (OpenSpec.ofChange metaEqualSpec)) metaEqualCard

/-- THE TIED CARD OF 'orchestratorlaw13.MetaChild'. -/
def metaChildCard : Claim7 := { stood := { row := metaChildRow, standIns := [], harness := (true, "fe4250821376d6dc959e55ba717130e3f77868c536e593e266c56ddc07dafd78"), looks := false }, kinds := [], alts := [], laidByText := true, laidKinds := [.data, .data, .data, .data, .pinned], laidTests := true, laidLooks := .later }
def MetaChildCardSaid : Prop := Claim7.holds Tryd.pinned (.plain (OpenSpec.ofChange metaChildSpec)) metaChildCard

/-- THE TIED CARD OF 'orchestratorlaw13.MetaDependents'. -/
def metaDependentsCard : Claim7 := { stood := { row := metaDependentsRow, standIns := [], harness := (true, "fe4250821376d6dc959e55ba717130e3f77868c536e593e266c56ddc07dafd78"), looks := false }, kinds := [], alts := [], laidByText := true, laidKinds := [.data, .data, .data, .data, .pinned], laidTests := true, laidLooks := .later }
def MetaDependentsCardSaid : Prop := Claim7.holds Tryd.pinned (.plain (OpenSpec.ofChange metaDependentsSpec)) metaDependentsCard

/-- THE TIED CARD OF 'orchestratorlaw13.MetaKeys'. -/
def metaKeysCard : Claim7 := { stood := { row := metaKeysRow, standIns := [], harness := (true, "fe4250821376d6dc959e55ba717130e3f77868c536e593e266c56ddc07dafd78"), looks := false }, kinds := [], alts := [], laidByText := true, laidKinds := [.data, .data, .data, .data, .pinned], laidTests := true, laidLooks := .later }
def MetaKeysCardSaid : Prop := Claim7.holds Tryd.pinned (.plain (OpenSpec.ofChange metaKeysSpec)) metaKeysCard

/-- THE SECOND FORM's CARD OF 'orchestratorlaw13.MetaValid'. -/
def metaValidUptoCard : Claim7 := { stood := { row := metaValidUptoRow, standIns := [], harness := (true, "fe4250821376d6dc959e55ba717130e3f77868c536e593e266c56ddc07dafd78"), looks := false }, kinds := [], alts := [], laidByText := true, laidKinds := [.data, .data, .data, .data, .pinned], laidTests := true, laidLooks := .later }
def MetaValidUptoCardSaid : Prop := Claim7.holds Tryd.pinned (.plain (OpenSpec.upto metaValidSpec)) metaValidUptoCard

/-- THE SECOND FORM's CARD OF 'orchestratorlaw13.MetaSplit'. -/
def metaSplitUptoCard : Claim7 := { stood := { row := metaSplitUptoRow, standIns := [], harness := (true, "fe4250821376d6dc959e55ba717130e3f77868c536e593e266c56ddc07dafd78"), looks := false }, kinds := [], alts := [], laidByText := true, laidKinds := [.data, .data, .data, .data, .pinned], laidTests := true, laidLooks := .later }
def MetaSplitUptoCardSaid : Prop := Claim7.holds Tryd.pinned (.plain (OpenSpec.upto metaSplitSpec)) metaSplitUptoCard

/-- THE SECOND FORM's CARD OF 'orchestratorlaw13.MetaEqual'. -/
def metaEqualUptoCard : Claim7 := { stood := { row := metaEqualUptoRow, standIns := [], harness := (true, "fe4250821376d6dc959e55ba717130e3f77868c536e593e266c56ddc07dafd78"), looks := false }, kinds := [], alts := [], laidByText := true, laidKinds := [.data, .data, .data, .data, .pinned], laidTests := true, laidLooks := .later }
def MetaEqualUptoCardSaid : Prop := Claim7.holds Tryd.pinned (.plain (OpenSpec.upto metaEqualSpec)) metaEqualUptoCard

/-- THE SECOND FORM's CARD OF 'orchestratorlaw13.MetaChild'. -/
def metaChildUptoCard : Claim7 := { stood := { row := metaChildUptoRow, standIns := [], harness := (true, "fe4250821376d6dc959e55ba717130e3f77868c536e593e266c56ddc07dafd78"), looks := false }, kinds := [], alts := [], laidByText := true, laidKinds := [.data, .data, .data, .data, .pinned], laidTests := true, laidLooks := .later }
def MetaChildUptoCardSaid : Prop := Claim7.holds Tryd.pinned (.plain (OpenSpec.upto metaChildSpec)) metaChildUptoCard

/-- THE SECOND FORM's CARD OF 'orchestratorlaw13.MetaDependents'. -/
def metaDependentsUptoCard : Claim7 := { stood := { row := metaDependentsUptoRow, standIns := [], harness := (true, "fe4250821376d6dc959e55ba717130e3f77868c536e593e266c56ddc07dafd78"), looks := false }, kinds := [], alts := [], laidByText := true, laidKinds := [.data, .data, .data, .data, .pinned], laidTests := true, laidLooks := .later }
def MetaDependentsUptoCardSaid : Prop := Claim7.holds Tryd.pinned (.plain (OpenSpec.upto metaDependentsSpec)) metaDependentsUptoCard

/-- THE SECOND FORM's CARD OF 'orchestratorlaw13.MetaKeys'. -/
def metaKeysUptoCard : Claim7 := { stood := { row := metaKeysUptoRow, standIns := [], harness := (true, "fe4250821376d6dc959e55ba717130e3f77868c536e593e266c56ddc07dafd78"), looks := false }, kinds := [], alts := [], laidByText := true, laidKinds := [.data, .data, .data, .data, .pinned], laidTests := true, laidLooks := .later }
def MetaKeysUptoCardSaid : Prop := Claim7.holds Tryd.pinned (.plain (OpenSpec.upto metaKeysSpec)) metaKeysUptoCard
end Rows
end Go.Proofs.YtpnoongjaehmlaaDoor
