/-
  DERIVED. GIVEN WITH THE SEED: THE CARDS: each row of YtbjinflchdkhiaaDoorRows.lean that lists a variable, with what it lists TIED to the program's text (the seventh form; the later family's looks); each row that meets fmt, with fmt's text TOLD by the authors' own Lean function (tested against real Go, not proved from fmt's source: count such statements apart). THE CARD IS WHAT COUNTS. Prove the row's statement (the work); the ties are given (YtbjinflchdkhiaaDoorTie.lean); close each card by the builder's one call (the guide's Derived/Test/ToyasCard.lean, 'card_holds'). Laid BY PROGRAM, IN A SANDBOX (cutbox-door.mjs). By AI agents, Wed Nov 11 2026. No macro, syntax, notation, axiom, sorry.
-/
import Derived.Test.YtbjinflchdkhiaaDoorRows
import GoSem.ClaimSeven
namespace Go.Proofs.YtbjinflchdkhiaaDoor
namespace Rows

/-- THE TIED CARD OF 'cofferdamlaw23.ListingLines'. -/
def listingLinesCard : Claim7 := { stood := { row := listingLinesRow, standIns := [], harness := (true, "fd27fc2ceae7cd161b62b9a6e239ad24de56d3112134a8dcccf4fca8c0360899"), looks := true }, kinds := [], alts := [], laidByText := true, laidKinds := [.data, .data, .data, .data, .sentinel, .sentinel, .pinned], laidTests := true, laidLooks := .later }
def ListingLinesCardSaid : Prop := Claim7.holds Tryd.pinned (.plain (OpenSpec.ofChange listingLinesSpec)) listingLinesCard

/-- THE TIED CARD OF 'cofferdamlaw23.ListingReads'. -/
def listingReadsCard : Claim7 := { stood := { row := listingReadsRow, standIns := [], harness := (true, "fd27fc2ceae7cd161b62b9a6e239ad24de56d3112134a8dcccf4fca8c0360899"), looks := true }, kinds := [], alts := [], laidByText := true, laidKinds := [.data, .data, .data, .data, .sentinel, .sentinel, .pinned], laidTests := true, laidLooks := .later }
def ListingReadsCardSaid : Prop := Claim7.holds Tryd.pinned (.plain (OpenSpec.ofChange listingReadsSpec)) listingReadsCard

/-- THE TIED CARD OF 'cofferdamlaw23.ListingWrong'. -/
def listingWrongCard : Claim7 := { stood := { row := listingWrongRow, standIns := [], harness := (true, "fd27fc2ceae7cd161b62b9a6e239ad24de56d3112134a8dcccf4fca8c0360899"), looks := true }, kinds := [], alts := [], laidByText := true, laidKinds := [.data, .data, .data, .data, .sentinel, .sentinel, .pinned], laidTests := true, laidLooks := .later }
def ListingWrongCardSaid : Prop := Claim7.holds Tryd.pinned (.plain (OpenSpec.ofChange listingWrongSpec)) listingWrongCard

/-- THE TIED CARD OF 'cofferdamlaw23.ListingApart'. -/
def listingApartCard : Claim7 := { stood := { row := listingApartRow, standIns := [], harness := (true, "fd27fc2ceae7cd161b62b9a6e239ad24de56d3112134a8dcccf4fca8c0360899"), looks := true }, kinds := [], alts := [], laidByText := true, laidKinds := [.data, .data, .data, .data, .sentinel, .sentinel, .pinned], laidTests := true, laidLooks := .later }
def ListingApartCardSaid : Prop := Claim7.holds Tryd.pinned (.plain (OpenSpec.ofChange listingApartSpec)) listingApartCard

/-- THE TIED CARD OF 'cofferdamlaw10.ShowKnown'. -/
def showKnownCard : Claim7 := { stood := { row := showKnownRow, standIns := [], harness := (true, "fd27fc2ceae7cd161b62b9a6e239ad24de56d3112134a8dcccf4fca8c0360899"), looks := true }, kinds := [], alts := [], laidByText := true, laidKinds := [.data, .data, .data], laidTests := true, laidLooks := .later }
def ShowKnownCardSaid : Prop := Claim7.holds Tryd.pinned (.plain (OpenSpec.ofChange showKnownSpec)) showKnownCard

/-- THE SECOND FORM's CARD OF 'cofferdamlaw23.ListingLines'. -/
def listingLinesUptoCard : Claim7 := { stood := { row := listingLinesUptoRow, standIns := [], harness := (true, "fd27fc2ceae7cd161b62b9a6e239ad24de56d3112134a8dcccf4fca8c0360899"), looks := true }, kinds := [], alts := [], laidByText := true, laidKinds := [.data, .data, .data, .data, .sentinel, .sentinel, .pinned], laidTests := true, laidLooks := .later }
def ListingLinesUptoCardSaid : Prop := Claim7.holds Tryd.pinned (.plain (OpenSpec.upto listingLinesSpec)) listingLinesUptoCard

/-- THE SECOND FORM's CARD OF 'cofferdamlaw23.ListingReads'. -/
def listingReadsUptoCard : Claim7 := { stood := { row := listingReadsUptoRow, standIns := [], harness := (true, "fd27fc2ceae7cd161b62b9a6e239ad24de56d3112134a8dcccf4fca8c0360899"), looks := true }, kinds := [], alts := [], laidByText := true, laidKinds := [.data, .data, .data, .data, .sentinel, .sentinel, .pinned], laidTests := true, laidLooks := .later }
def ListingReadsUptoCardSaid : Prop := Claim7.holds Tryd.pinned (.plain (OpenSpec.upto listingReadsSpec)) listingReadsUptoCard

/-- THE SECOND FORM's CARD OF 'cofferdamlaw23.ListingWrong'. -/
def listingWrongUptoCard : Claim7 := { stood := { row := listingWrongUptoRow, standIns := [], harness := (true, "fd27fc2ceae7cd161b62b9a6e239ad24de56d3112134a8dcccf4fca8c0360899"), looks := true }, kinds := [], alts := [], laidByText := true, laidKinds := [.data, .data, .data, .data, .sentinel, .sentinel, .pinned], laidTests := true, laidLooks := .later }
def ListingWrongUptoCardSaid : Prop := Claim7.holds Tryd.pinned (.plain (OpenSpec.upto listingWrongSpec)) listingWrongUptoCard

/-- THE SECOND FORM's CARD OF 'cofferdamlaw23.ListingApart'. -/
def listingApartUptoCard : Claim7 := { stood := { row := listingApartUptoRow, standIns := [], harness := (true, "fd27fc2ceae7cd161b62b9a6e239ad24de56d3112134a8dcccf4fca8c0360899"), looks := true }, kinds := [], alts := [], laidByText := true, laidKinds := [.data, .data, .data, .data, .sentinel, .sentinel, .pinned], laidTests := true, laidLooks := .later }
def ListingApartUptoCardSaid : Prop := Claim7.holds Tryd.pinned (.plain (OpenSpec.upto listingApartSpec)) listingApartUptoCard

/-- THE SECOND FORM's CARD OF 'cofferdamlaw10.ShowKnown'. -/
def showKnownUptoCard : Claim7 := { stood := { row := showKnownUptoRow, standIns := [], harness := (true, "fd27fc2ceae7cd161b62b9a6e239ad24de56d3112134a8dcccf4fca8c0360899"), looks := true }, kinds := [], alts := [], laidByText := true, laidKinds := [.data, .data, .data], laidTests := true, laidLooks := .later }
def ShowKnownUptoCardSaid : Prop := Claim7.holds Tryd.pinned (.plain (OpenSpec.upto showKnownSpec)) showKnownUptoCard
end Rows
end Go.Proofs.YtbjinflchdkhiaaDoor
