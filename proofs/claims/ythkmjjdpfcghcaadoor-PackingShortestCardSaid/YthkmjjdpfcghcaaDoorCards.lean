/-
  DERIVED. GIVEN WITH THE SEED: THE CARDS: each row of YthkmjjdpfcghcaaDoorRows.lean that lists a variable, with what it lists TIED to the program's text (the seventh form; the later family's looks); each row that meets fmt, with fmt's text TOLD by the authors' own Lean function (tested against real Go, not proved from fmt's source: count such statements apart). THE CARD IS WHAT COUNTS. Prove the row's statement (the work); the ties are given (YthkmjjdpfcghcaaDoorTie.lean); close each card by the builder's one call (the guide's Derived/Test/ToyasCard.lean, 'card_holds'). Laid BY PROGRAM, IN A SANDBOX (cutbox-door.mjs). By AI agents, Wed Nov 11 2026. No macro, syntax, notation, axiom, sorry.
-/
import Derived.Test.YthkmjjdpfcghcaaDoorRows
import GoSem.ClaimSeven
namespace Go.Proofs.YthkmjjdpfcghcaaDoor
namespace Rows

/-- THE TIED CARD OF 'brindlewoodlaw4.PackingParts'. -/
def packingPartsCard : Claim7 := { stood := { row := packingPartsRow, standIns := [], harness := (true, "6f829f2f76b192349ce19f40a7247c79ed199be0deb803672cfbf3670e38a5ad"), looks := true }, kinds := [], alts := [], laidByText := true, laidKinds := [.data, .data, .data, .data, .sentinel, .sentinel, .pinned], laidTests := true, laidLooks := .later }
def PackingPartsCardSaid : Prop := Claim7.holds Tryd.pinned (.plain (OpenSpec.ofChange packingPartsSpec)) packingPartsCard

/-- THE TIED CARD OF 'brindlewoodlaw4.PackingFormats'. -/
def packingFormatsCard : Claim7 := { stood := { row := packingFormatsRow, standIns := [], harness := (true, "6f829f2f76b192349ce19f40a7247c79ed199be0deb803672cfbf3670e38a5ad"), looks := true }, kinds := [], alts := [], laidByText := true, laidKinds := [.data, .data, .data, .data, .sentinel, .sentinel, .pinned], laidTests := true, laidLooks := .later }
def PackingFormatsCardSaid : Prop := Claim7.holds Tryd.pinned (.plain (OpenSpec.ofChange packingFormatsSpec)) packingFormatsCard

/-- THE TIED CARD OF 'brindlewoodlaw4.PackingShortest'. -/
def packingShortestCard : Claim7 := { stood := { row := packingShortestRow, standIns := [], harness := (true, "6f829f2f76b192349ce19f40a7247c79ed199be0deb803672cfbf3670e38a5ad"), looks := true }, kinds := [], alts := [], laidByText := true, laidKinds := [.data, .data, .data, .data, .sentinel, .sentinel, .pinned], laidTests := true, laidLooks := .later }
def PackingShortestCardSaid : Prop := Claim7.holds Tryd.pinned (.plain (OpenSpec.ofChange packingShortestSpec)) packingShortestCard

/-- THE SECOND FORM's CARD OF 'brindlewoodlaw4.PackingParts'. -/
def packingPartsUptoCard : Claim7 := { stood := { row := packingPartsUptoRow, standIns := [], harness := (true, "6f829f2f76b192349ce19f40a7247c79ed199be0deb803672cfbf3670e38a5ad"), looks := true }, kinds := [], alts := [], laidByText := true, laidKinds := [.data, .data, .data, .data, .sentinel, .sentinel, .pinned], laidTests := true, laidLooks := .later }
def PackingPartsUptoCardSaid : Prop := Claim7.holds Tryd.pinned (.plain (OpenSpec.upto packingPartsSpec)) packingPartsUptoCard

/-- THE SECOND FORM's CARD OF 'brindlewoodlaw4.PackingFormats'. -/
def packingFormatsUptoCard : Claim7 := { stood := { row := packingFormatsUptoRow, standIns := [], harness := (true, "6f829f2f76b192349ce19f40a7247c79ed199be0deb803672cfbf3670e38a5ad"), looks := true }, kinds := [], alts := [], laidByText := true, laidKinds := [.data, .data, .data, .data, .sentinel, .sentinel, .pinned], laidTests := true, laidLooks := .later }
def PackingFormatsUptoCardSaid : Prop := Claim7.holds Tryd.pinned (.plain (OpenSpec.upto packingFormatsSpec)) packingFormatsUptoCard

/-- THE SECOND FORM's CARD OF 'brindlewoodlaw4.PackingShortest'. -/
def packingShortestUptoCard : Claim7 := { stood := { row := packingShortestUptoRow, standIns := [], harness := (true, "6f829f2f76b192349ce19f40a7247c79ed199be0deb803672cfbf3670e38a5ad"), looks := true }, kinds := [], alts := [], laidByText := true, laidKinds := [.data, .data, .data, .data, .sentinel, .sentinel, .pinned], laidTests := true, laidLooks := .later }
def PackingShortestUptoCardSaid : Prop := Claim7.holds Tryd.pinned (.plain (OpenSpec.upto packingShortestSpec)) packingShortestUptoCard
end Rows
end Go.Proofs.YthkmjjdpfcghcaaDoor
