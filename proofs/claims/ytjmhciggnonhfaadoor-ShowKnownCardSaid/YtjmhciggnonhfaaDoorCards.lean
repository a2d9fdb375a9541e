/-
  DERIVED. GIVEN WITH THE SEED: THE CARDS: each row of YtjmhciggnonhfaaDoorRows.lean that lists a variable, with what it lists TIED to the program's text (the seventh form; the later family's looks); each row that meets fmt, with fmt's text TOLD by the authors' own Lean function (tested against real Go, not proved from fmt's source: count such statements apart). THE CARD IS WHAT COUNTS. Prove the row's statement (the work); the ties are given (YtjmhciggnonhfaaDoorTie.lean); close each card by the builder's one call (the guide's Derived/Test/ToyasCard.lean, 'card_holds'). Laid BY PROGRAM, IN A SANDBOX (cutbox-door.mjs). By AI agents, Wed Nov 11 2026. No macro, syntax, notation, axiom, sorry.
-/
import Derived.Test.YtjmhciggnonhfaaDoorRows
import GoSem.ClaimSeven
namespace Go.Proofs.YtjmhciggnonhfaaDoor
namespace Rows

/-- THE TIED CARD OF 'cofferdamlaw10.ShowKnown'. -/
def showKnownCard : Claim7 := { stood := { row := showKnownRow, standIns := [], harness := (true, "fde6ce8f2e962560e478505e6638cf1b37c510fc8c195fbb3fd6f6bf6bbf6c78"), looks := true }, kinds := [], alts := [], laidByText := true, laidKinds := [.data, .data, .data], laidTests := true, laidLooks := .later }
def ShowKnownCardSaid : Prop := Claim7.holds Tryd.pinned (.plain (OpenSpec.ofChange showKnownSpec)) showKnownCard

/-- THE SECOND FORM's CARD OF 'cofferdamlaw10.ShowKnown'. -/
def showKnownUptoCard : Claim7 := { stood := { row := showKnownUptoRow, standIns := [], harness := (true, "fde6ce8f2e962560e478505e6638cf1b37c510fc8c195fbb3fd6f6bf6bbf6c78"), looks := true }, kinds := [], alts := [], laidByText := true, laidKinds := [.data, .data, .data], laidTests := true, laidLooks := .later }
def ShowKnownUptoCardSaid : Prop := Claim7.holds Tryd.pinned (.plain (OpenSpec.upto showKnownSpec)) showKnownUptoCard
end Rows
end Go.Proofs.YtjmhciggnonhfaaDoor
