/-
  No cell of these rows narrows 'for every input' (looked for: loops, veiled, ifaces, maps, wideKeys, modest, calm, conditions, laid).
  DERIVED. THE GIVEN ROWS OF THIS SEAT. 12 by the template 'for every input the law returns true; each argument reads behind the call as it read before'; 0 by the template 'total and deterministic' (their statements: YtpgjmiieecdjhaaTotals.lean).
  GIVEN WITH THE SEED: the statements are not yours to turn. If you find one false, say at which input.
  Laid BY PROGRAM, IN A SANDBOX (cutbox-rows.mjs): the forced cells as the released guide's own fill.sh prints them over the translation 6f9a3fac52274175… (all of the seat's roots in one cut). By AI agents, Wed Nov 11 2026. No macro, syntax, notation, axiom, sorry.
-/
import Derived.Test.YtpgjmiieecdjhaaChecked
import GoSem.Claim
import GoSem.ClaimJoined
import GoSem.ClaimMapViews
import Derived.JoinedTies
import Derived.KernelRfl
namespace Go.Proofs.Ytpgjmiieecdjhaa
/- THE CELL 'sum', in the pinned program and in every row, IS THE sha256 OF THE DUMP (.gsa) THAT YtpgjmiieecdjhaaProg.lean LOADS. Nothing in Lean hashes anything: it is a label: what it is worth is what the hold of that sum in a sandbox is worth. -/
noncomputable def Try.pinned : Pinned := { name := "ytpgjmiieecdjhaa", sum := "6f9a3fac52274175236cc134482c3b04596dce169d32a2a52eab3793c8276fc8", checked := Try.checked }
namespace Rows
def none {H : Type} : Left H := { results := [], args := [] }

/-- 'cofferdamlaw18.LiveCovers': WHATEVER THE INPUT: true; the input reads as it did. -/
def liveCoversSpec : ChangeSpec := { name := "liveCovers", fn := fun _ => fun
  | [d] => { results := [.lit (.bool true)], args := [d] }
  | _ => none }
def liveCoversRow : OpenClaim := { program := "ytpgjmiieecdjhaa", sum := "6f9a3fac52274175236cc134482c3b04596dce169d32a2a52eab3793c8276fc8", func := "cofferdam/cofferdamlaw18.LiveCovers", spec := "liveCovers", unfollowed := true, recurses := true, apart := false }
def LiveCoversSaid : Prop := liveCoversRow.holds Try.pinned (OpenSpec.ofChange liveCoversSpec)

/-- ITS FALSE NEIGHBOUR: 'it returns false'. Refute it at one input. -/
def liveCoversWrong : ChangeSpec := { name := "liveCovers", fn := fun _ => fun
  | [d] => { results := [.lit (.bool false)], args := [d] }
  | _ => none }
def LiveCoversWrongFalsely : Prop := liveCoversRow.holds Try.pinned (OpenSpec.ofChange liveCoversWrong)

/-- 'cofferdamlaw18.LiveTells': WHATEVER THE INPUT: true; the input reads as it did. -/
def liveTellsSpec : ChangeSpec := { name := "liveTells", fn := fun _ => fun
  | [d1, d2] => { results := [.lit (.bool true)], args := [d1, d2] }
  | _ => none }
def liveTellsRow : OpenClaim := { program := "ytpgjmiieecdjhaa", sum := "6f9a3fac52274175236cc134482c3b04596dce169d32a2a52eab3793c8276fc8", func := "cofferdam/cofferdamlaw18.LiveTells", spec := "liveTells", unfollowed := true, recurses := true, apart := false }
def LiveTellsSaid : Prop := liveTellsRow.holds Try.pinned (OpenSpec.ofChange liveTellsSpec)

/-- ITS FALSE NEIGHBOUR: 'it returns false'. Refute it at one input. -/
def liveTellsWrong : ChangeSpec := { name := "liveTells", fn := fun _ => fun
  | [d1, d2] => { results := [.lit (.bool false)], args := [d1, d2] }
  | _ => none }
def LiveTellsWrongFalsely : Prop := liveTellsRow.holds Try.pinned (OpenSpec.ofChange liveTellsWrong)

/-- 'cofferdamlaw11.CheckPrograms': WHATEVER THE INPUT: true; the input reads as it did. -/
def checkProgramsSpec : ChangeSpec := { name := "checkPrograms", fn := fun _ => fun
  | [d] => { results := [.lit (.bool true)], args := [d] }
  | _ => none }
def checkProgramsRow : OpenClaim := { program := "ytpgjmiieecdjhaa", sum := "6f9a3fac52274175236cc134482c3b04596dce169d32a2a52eab3793c8276fc8", func := "cofferdam/cofferdamlaw11.CheckPrograms", spec := "checkPrograms", unfollowed := true, recurses := true, apart := false }
def CheckProgramsSaid : Prop := checkProgramsRow.holds Try.pinned (OpenSpec.ofChange checkProgramsSpec)

/-- ITS FALSE NEIGHBOUR: 'it returns false'. Refute it at one input. -/
def checkProgramsWrong : ChangeSpec := { name := "checkPrograms", fn := fun _ => fun
  | [d] => { results := [.lit (.bool false)], args := [d] }
  | _ => none }
def CheckProgramsWrongFalsely : Prop := checkProgramsRow.holds Try.pinned (OpenSpec.ofChange checkProgramsWrong)

/-- 'cofferdamlaw11.CheckWrong': WHATEVER THE INPUT: true; the input reads as it did. -/
def checkWrongSpec : ChangeSpec := { name := "checkWrong", fn := fun _ => fun
  | [d] => { results := [.lit (.bool true)], args := [d] }
  | _ => none }
def checkWrongRow : OpenClaim := { program := "ytpgjmiieecdjhaa", sum := "6f9a3fac52274175236cc134482c3b04596dce169d32a2a52eab3793c8276fc8", func := "cofferdam/cofferdamlaw11.CheckWrong", spec := "checkWrong", unfollowed := true, recurses := true, apart := false }
def CheckWrongSaid : Prop := checkWrongRow.holds Try.pinned (OpenSpec.ofChange checkWrongSpec)

/-- ITS FALSE NEIGHBOUR: 'it returns false'. Refute it at one input. -/
def checkWrongWrong : ChangeSpec := { name := "checkWrong", fn := fun _ => fun
  | [d] => { results := [.lit (.bool false)], args := [d] }
  | _ => none }
def CheckWrongWrongFalsely : Prop := checkWrongRow.holds Try.pinned (OpenSpec.ofChange checkWrongWrong)

/-- 'cofferdamlaw11.CheckLocals': WHATEVER THE INPUT: true; the input reads as it did. -/
def checkLocalsSpec : ChangeSpec := { name := "checkLocals", fn := fun _ => fun
  | [d] => { results := [.lit (.bool true)], args := [d] }
  | _ => none }
def checkLocalsRow : OpenClaim := { program := "ytpgjmiieecdjhaa", sum := "6f9a3fac52274175236cc134482c3b04596dce169d32a2a52eab3793c8276fc8", func := "cofferdam/cofferdamlaw11.CheckLocals", spec := "checkLocals", unfollowed := true, recurses := true, apart := false }
def CheckLocalsSaid : Prop := checkLocalsRow.holds Try.pinned (OpenSpec.ofChange checkLocalsSpec)

/-- ITS FALSE NEIGHBOUR: 'it returns false'. Refute it at one input. -/
def checkLocalsWrong : ChangeSpec := { name := "checkLocals", fn := fun _ => fun
  | [d] => { results := [.lit (.bool false)], args := [d] }
  | _ => none }
def CheckLocalsWrongFalsely : Prop := checkLocalsRow.holds Try.pinned (OpenSpec.ofChange checkLocalsWrong)

/-- 'cofferdamlaw11.CheckSizes': WHATEVER THE INPUT: true; the input reads as it did. -/
def checkSizesSpec : ChangeSpec := { name := "checkSizes", fn := fun _ => fun
  | [d1, d2] => { results := [.lit (.bool true)], args := [d1, d2] }
  | _ => none }
def checkSizesRow : OpenClaim := { program := "ytpgjmiieecdjhaa", sum := "6f9a3fac52274175236cc134482c3b04596dce169d32a2a52eab3793c8276fc8", func := "cofferdam/cofferdamlaw11.CheckSizes", spec := "checkSizes", unfollowed := true, recurses := true, apart := false }
def CheckSizesSaid : Prop := checkSizesRow.holds Try.pinned (OpenSpec.ofChange checkSizesSpec)

/-- ITS FALSE NEIGHBOUR: 'it returns false'. Refute it at one input. -/
def checkSizesWrong : ChangeSpec := { name := "checkSizes", fn := fun _ => fun
  | [d1, d2] => { results := [.lit (.bool false)], args := [d1, d2] }
  | _ => none }
def CheckSizesWrongFalsely : Prop := checkSizesRow.holds Try.pinned (OpenSpec.ofChange checkSizesWrong)

/-- 'cofferdamlaw8.LexTokens': WHATEVER THE INPUT: true; the input reads as it did. -/
def lexTokensSpec : ChangeSpec := { name := "lexTokens", fn := fun _ => fun
  | [d] => { results := [.lit (.bool true)], args := [d] }
  | _ => none }
def lexTokensRow : OpenClaim := { program := "ytpgjmiieecdjhaa", sum := "6f9a3fac52274175236cc134482c3b04596dce169d32a2a52eab3793c8276fc8", func := "cofferdam/cofferdamlaw8.LexTokens", spec := "lexTokens", inPlace := ["math/bits.Add64", "internal/bytealg.IndexByteString", "internal/bytealg.IndexString"], unfollowed := true, recurses := true, named := ["internal/bytealg.MaxLen"], apart := false }
def LexTokensSaid : Prop := lexTokensRow.holds Try.pinned (OpenSpec.ofChange lexTokensSpec)

/-- ITS FALSE NEIGHBOUR: 'it returns false'. Refute it at one input. -/
def lexTokensWrong : ChangeSpec := { name := "lexTokens", fn := fun _ => fun
  | [d] => { results := [.lit (.bool false)], args := [d] }
  | _ => none }
def LexTokensWrongFalsely : Prop := lexTokensRow.holds Try.pinned (OpenSpec.ofChange lexTokensWrong)

/-- 'cofferdamlaw8.LexNames': WHATEVER THE INPUT: true; the input reads as it did. -/
def lexNamesSpec : ChangeSpec := { name := "lexNames", fn := fun _ => fun
  | [d] => { results := [.lit (.bool true)], args := [d] }
  | _ => none }
def lexNamesRow : OpenClaim := { program := "ytpgjmiieecdjhaa", sum := "6f9a3fac52274175236cc134482c3b04596dce169d32a2a52eab3793c8276fc8", func := "cofferdam/cofferdamlaw8.LexNames", spec := "lexNames", inPlace := ["math/bits.Add64", "internal/bytealg.IndexByteString", "internal/bytealg.IndexString"], unfollowed := true, recurses := true, named := ["internal/bytealg.MaxLen"], apart := false }
def LexNamesSaid : Prop := lexNamesRow.holds Try.pinned (OpenSpec.ofChange lexNamesSpec)

/-- ITS FALSE NEIGHBOUR: 'it returns false'. Refute it at one input. -/
def lexNamesWrong : ChangeSpec := { name := "lexNames", fn := fun _ => fun
  | [d] => { results := [.lit (.bool false)], args := [d] }
  | _ => none }
def LexNamesWrongFalsely : Prop := lexNamesRow.holds Try.pinned (OpenSpec.ofChange lexNamesWrong)

/-- 'cofferdamlaw8.LexPlaces': WHATEVER THE INPUT: true; the input reads as it did. -/
def lexPlacesSpec : ChangeSpec := { name := "lexPlaces", fn := fun _ => fun
  | [d] => { results := [.lit (.bool true)], args := [d] }
  | _ => none }
def lexPlacesRow : OpenClaim := { program := "ytpgjmiieecdjhaa", sum := "6f9a3fac52274175236cc134482c3b04596dce169d32a2a52eab3793c8276fc8", func := "cofferdam/cofferdamlaw8.LexPlaces", spec := "lexPlaces", inPlace := ["math/bits.Add64", "internal/bytealg.IndexByteString", "internal/bytealg.IndexString"], unfollowed := true, recurses := true, named := ["internal/bytealg.MaxLen"], apart := false }
def LexPlacesSaid : Prop := lexPlacesRow.holds Try.pinned (OpenSpec.ofChange lexPlacesSpec)

/-- ITS FALSE NEIGHBOUR: 'it returns false'. Refute it at one input. -/
def lexPlacesWrong : ChangeSpec := { name := "lexPlaces", fn := fun _ => fun
  | [d] => { results := [.lit (.bool false)], args := [d] }
  | _ => none }
def LexPlacesWrongFalsely : Prop := lexPlacesRow.holds Try.pinned (OpenSpec.ofChange lexPlacesWrong)

/-- 'cofferdamlaw8.LexNumbers': WHATEVER THE INPUT: true; the input reads as it did. -/
def lexNumbersSpec : ChangeSpec := { name := "lexNumbers", fn := fun _ => fun
  | [d1, d2, d3] => { results := [.lit (.bool true)], args := [d1, d2, d3] }
  | _ => none }
def lexNumbersRow : OpenClaim := { program := "ytpgjmiieecdjhaa", sum := "6f9a3fac52274175236cc134482c3b04596dce169d32a2a52eab3793c8276fc8", func := "cofferdam/cofferdamlaw8.LexNumbers", spec := "lexNumbers", inPlace := ["math/bits.Add64", "internal/bytealg.IndexByteString", "internal/bytealg.IndexString"], unfollowed := true, recurses := true, named := ["internal/bytealg.MaxLen"], apart := false }
def LexNumbersSaid : Prop := lexNumbersRow.holds Try.pinned (OpenSpec.ofChange lexNumbersSpec)

/-- ITS FALSE NEIGHBOUR: 'it returns false'. Refute it at one input. -/
def lexNumbersWrong : ChangeSpec := { name := "lexNumbers", fn := fun _ => fun
  | [d1, d2, d3] => { results := [.lit (.bool false)], args := [d1, d2, d3] }
  | _ => none }
def LexNumbersWrongFalsely : Prop := lexNumbersRow.holds Try.pinned (OpenSpec.ofChange lexNumbersWrong)

/-- 'cofferdamlaw8.LexWrong': WHATEVER THE INPUT: true; the input reads as it did. -/
def lexWrongSpec : ChangeSpec := { name := "lexWrong", fn := fun _ => fun
  | [d] => { results := [.lit (.bool true)], args := [d] }
  | _ => none }
def lexWrongRow : OpenClaim := { program := "ytpgjmiieecdjhaa", sum := "6f9a3fac52274175236cc134482c3b04596dce169d32a2a52eab3793c8276fc8", func := "cofferdam/cofferdamlaw8.LexWrong", spec := "lexWrong", inPlace := ["math/bits.Add64", "internal/bytealg.IndexByteString", "internal/bytealg.IndexString"], unfollowed := true, recurses := true, named := ["internal/bytealg.MaxLen"], apart := false }
def LexWrongSaid : Prop := lexWrongRow.holds Try.pinned (OpenSpec.ofChange lexWrongSpec)

/-- ITS FALSE NEIGHBOUR: 'it returns false'. Refute it at one input. -/
def lexWrongWrong : ChangeSpec := { name := "lexWrong", fn := fun _ => fun
  | [d] => { results := [.lit (.bool false)], args := [d] }
  | _ => none }
def LexWrongWrongFalsely : Prop := lexWrongRow.holds Try.pinned (OpenSpec.ofChange lexWrongWrong)

/-- 'cofferdamlaw8.LexBlanks': WHATEVER THE INPUT: true; the input reads as it did. -/
def lexBlanksSpec : ChangeSpec := { name := "lexBlanks", fn := fun _ => fun
  | [d1, d2] => { results := [.lit (.bool true)], args := [d1, d2] }
  | _ => none }
def lexBlanksRow : OpenClaim := { program := "ytpgjmiieecdjhaa", sum := "6f9a3fac52274175236cc134482c3b04596dce169d32a2a52eab3793c8276fc8", func := "cofferdam/cofferdamlaw8.LexBlanks", spec := "lexBlanks", inPlace := ["math/bits.Add64", "internal/bytealg.IndexByteString", "internal/bytealg.IndexString"], unfollowed := true, recurses := true, named := ["internal/bytealg.MaxLen"], apart := false }
def LexBlanksSaid : Prop := lexBlanksRow.holds Try.pinned (OpenSpec.ofChange lexBlanksSpec)

/-- ITS FALSE NEIGHBOUR: 'it returns false'. Refute it at one input. -/
def lexBlanksWrong : ChangeSpec := { name := "lexBlanks", fn := fun _ => fun
  | [d1, d2] => { results := [.lit (.bool false)], args := [d1, d2] }
  | _ => none }
def LexBlanksWrongFalsely : Prop := lexBlanksRow.holds Try.pinned (OpenSpec.ofChange lexBlanksWrong)

/- THE SECOND FORM. 'bulk': how many values and letters a reading holds, each counted each time it is reached (what is shared counts as often as it is met; a slice's spare places count too). A statement '..UptoSaid' is the law's where the arguments, and the package variables that the reading takes, are together of bulk at most 1048576: NARROWER than '..Said'. Prove '..Said' where nothing that the law and all that it calls make is longer than what came in: it says more and counts as full. Else prove '..UptoSaid'. A law counts once. -/
mutual
def uptoBulk {H : Type} : DataW H → Nat
  | .lit (.string bytes) => bytes.length + 1
  | .lit _ => 1
  | .nil => 1
  | .ptr d => uptoBulk d + 1
  | .slice elems spare => uptoBulkAll elems + uptoBulkAll spare + 1
  | .agg parts => uptoBulkAll parts + 1
  | .iface _ d => uptoBulk d + 1
  | .map entries => uptoBulkEntries entries + 1
  | .held _ => 1
def uptoBulkAll {H : Type} : List (DataW H) → Nat
  | [] => 0
  | d :: r => uptoBulk d + uptoBulkAll r
def uptoBulkEntries {H : Type} : List (Lit × DataW H) → Nat
  | [] => 0
  | x :: r => uptoBulkEntry x + uptoBulkEntries r
def uptoBulkEntry {H : Type} : Lit × DataW H → Nat
  | (.string bytes, d) => bytes.length + uptoBulk d + 1
  | (_, d) => uptoBulk d + 1
 end
def uptoSmall : (H : Type) → List (DataW H) → Bool := fun _ ds => decide (uptoBulkAll ds ≤ 1048576)
def OpenSpec.upto (s : _root_.Go.ChangeSpec) : _root_.Go.OpenSpec := { _root_.Go.OpenSpec.ofChange s with cond := some uptoSmall }

/-- 'cofferdamlaw18.LiveCovers', WHERE WHAT IT READS IS OF BULK AT MOST 1048576: true; the input reads as it did. -/
def liveCoversUptoRow : OpenClaim := { program := "ytpgjmiieecdjhaa", sum := "6f9a3fac52274175236cc134482c3b04596dce169d32a2a52eab3793c8276fc8", func := "cofferdam/cofferdamlaw18.LiveCovers", spec := "liveCovers", unfollowed := true, recurses := true, apart := false, narrowed := true }
def LiveCoversUptoSaid : Prop := liveCoversUptoRow.holds Try.pinned (OpenSpec.upto liveCoversSpec)

/-- 'cofferdamlaw18.LiveTells', WHERE WHAT IT READS IS OF BULK AT MOST 1048576: true; the input reads as it did. -/
def liveTellsUptoRow : OpenClaim := { program := "ytpgjmiieecdjhaa", sum := "6f9a3fac52274175236cc134482c3b04596dce169d32a2a52eab3793c8276fc8", func := "cofferdam/cofferdamlaw18.LiveTells", spec := "liveTells", unfollowed := true, recurses := true, apart := false, narrowed := true }
def LiveTellsUptoSaid : Prop := liveTellsUptoRow.holds Try.pinned (OpenSpec.upto liveTellsSpec)

/-- 'cofferdamlaw11.CheckPrograms', WHERE WHAT IT READS IS OF BULK AT MOST 1048576: true; the input reads as it did. -/
def checkProgramsUptoRow : OpenClaim := { program := "ytpgjmiieecdjhaa", sum := "6f9a3fac52274175236cc134482c3b04596dce169d32a2a52eab3793c8276fc8", func := "cofferdam/cofferdamlaw11.CheckPrograms", spec := "checkPrograms", unfollowed := true, recurses := true, apart := false, narrowed := true }
def CheckProgramsUptoSaid : Prop := checkProgramsUptoRow.holds Try.pinned (OpenSpec.upto checkProgramsSpec)

/-- 'cofferdamlaw11.CheckWrong', WHERE WHAT IT READS IS OF BULK AT MOST 1048576: true; the input reads as it did. -/
def checkWrongUptoRow : OpenClaim := { program := "ytpgjmiieecdjhaa", sum := "6f9a3fac52274175236cc134482c3b04596dce169d32a2a52eab3793c8276fc8", func := "cofferdam/cofferdamlaw11.CheckWrong", spec := "checkWrong", unfollowed := true, recurses := true, apart := false, narrowed := true }
def CheckWrongUptoSaid : Prop := checkWrongUptoRow.holds Try.pinned (OpenSpec.upto checkWrongSpec)

/-- 'cofferdamlaw11.CheckLocals', WHERE WHAT IT READS IS OF BULK AT MOST 1048576: true; the input reads as it did. -/
def checkLocalsUptoRow : OpenClaim := { program := "ytpgjmiieecdjhaa", sum := "6f9a3fac52274175236cc134482c3b04596dce169d32a2a52eab3793c8276fc8", func := "cofferdam/cofferdamlaw11.CheckLocals", spec := "checkLocals", unfollowed := true, recurses := true, apart := false, narrowed := true }
def CheckLocalsUptoSaid : Prop := checkLocalsUptoRow.holds Try.pinned (OpenSpec.upto checkLocalsSpec)

/-- 'cofferdamlaw11.CheckSizes', WHERE WHAT IT READS IS OF BULK AT MOST 1048576: true; the input reads as it did. -/
def checkSizesUptoRow : OpenClaim := { program := "ytpgjmiieecdjhaa", sum := "6f9a3fac52274175236cc134482c3b04596dce169d32a2a52eab3793c8276fc8", func := "cofferdam/cofferdamlaw11.CheckSizes", spec := "checkSizes", unfollowed := true, recurses := true, apart := false, narrowed := true }
def CheckSizesUptoSaid : Prop := checkSizesUptoRow.holds Try.pinned (OpenSpec.upto checkSizesSpec)

/-- 'cofferdamlaw8.LexTokens', WHERE WHAT IT READS IS OF BULK AT MOST 1048576: true; the input reads as it did. -/
def lexTokensUptoRow : OpenClaim := { program := "ytpgjmiieecdjhaa", sum := "6f9a3fac52274175236cc134482c3b04596dce169d32a2a52eab3793c8276fc8", func := "cofferdam/cofferdamlaw8.LexTokens", spec := "lexTokens", inPlace := ["math/bits.Add64", "internal/bytealg.IndexByteString", "internal/bytealg.IndexString"], unfollowed := true, recurses := true, named := ["internal/bytealg.MaxLen"], apart := false, narrowed := true }
def LexTokensUptoSaid : Prop := lexTokensUptoRow.holds Try.pinned (OpenSpec.upto lexTokensSpec)

/-- 'cofferdamlaw8.LexNames', WHERE WHAT IT READS IS OF BULK AT MOST 1048576: true; the input reads as it did. -/
def lexNamesUptoRow : OpenClaim := { program := "ytpgjmiieecdjhaa", sum := "6f9a3fac52274175236cc134482c3b04596dce169d32a2a52eab3793c8276fc8", func := "cofferdam/cofferdamlaw8.LexNames", spec := "lexNames", inPlace := ["math/bits.Add64", "internal/bytealg.IndexByteString", "internal/bytealg.IndexString"], unfollowed := true, recurses := true, named := ["internal/bytealg.MaxLen"], apart := false, narrowed := true }
def LexNamesUptoSaid : Prop := lexNamesUptoRow.holds Try.pinned (OpenSpec.upto lexNamesSpec)

/-- 'cofferdamlaw8.LexPlaces', WHERE WHAT IT READS IS OF BULK AT MOST 1048576: true; the input reads as it did. -/
def lexPlacesUptoRow : OpenClaim := { program := "ytpgjmiieecdjhaa", sum := "6f9a3fac52274175236cc134482c3b04596dce169d32a2a52eab3793c8276fc8", func := "cofferdam/cofferdamlaw8.LexPlaces", spec := "lexPlaces", inPlace := ["math/bits.Add64", "internal/bytealg.IndexByteString", "internal/bytealg.IndexString"], unfollowed := true, recurses := true, named := ["internal/bytealg.MaxLen"], apart := false, narrowed := true }
def LexPlacesUptoSaid : Prop := lexPlacesUptoRow.holds Try.pinned (OpenSpec.upto lexPlacesSpec)

/-- 'cofferdamlaw8.LexNumbers', WHERE WHAT IT READS IS OF BULK AT MOST 1048576: true; the input reads as it did. -/
def lexNumbersUptoRow : OpenClaim := { program := "ytpgjmiieecdjhaa", sum := "6f9a3fac52274175236cc134482c3b04596dce169d32a2a52eab3793c8276fc8", func := "cofferdam/cofferdamlaw8.LexNumbers", spec := "lexNumbers", inPlace := ["math/bits.Add64", "internal/bytealg.IndexByteString", "internal/bytealg.IndexString"], unfollowed := true, recurses := true, named := ["internal/bytealg.MaxLen"], apart := false, narrowed := true }
def LexNumbersUptoSaid : Prop := lexNumbersUptoRow.holds Try.pinned (OpenSpec.upto lexNumbersSpec)

/-- 'cofferdamlaw8.LexWrong', WHERE WHAT IT READS IS OF BULK AT MOST 1048576: true; the input reads as it did. -/
def lexWrongUptoRow : OpenClaim := { program := "ytpgjmiieecdjhaa", sum := "6f9a3fac52274175236cc134482c3b04596dce169d32a2a52eab3793c8276fc8", func := "cofferdam/cofferdamlaw8.LexWrong", spec := "lexWrong", inPlace := ["math/bits.Add64", "internal/bytealg.IndexByteString", "internal/bytealg.IndexString"], unfollowed := true, recurses := true, named := ["internal/bytealg.MaxLen"], apart := false, narrowed := true }
def LexWrongUptoSaid : Prop := lexWrongUptoRow.holds Try.pinned (OpenSpec.upto lexWrongSpec)

/-- 'cofferdamlaw8.LexBlanks', WHERE WHAT IT READS IS OF BULK AT MOST 1048576: true; the input reads as it did. -/
def lexBlanksUptoRow : OpenClaim := { program := "ytpgjmiieecdjhaa", sum := "6f9a3fac52274175236cc134482c3b04596dce169d32a2a52eab3793c8276fc8", func := "cofferdam/cofferdamlaw8.LexBlanks", spec := "lexBlanks", inPlace := ["math/bits.Add64", "internal/bytealg.IndexByteString", "internal/bytealg.IndexString"], unfollowed := true, recurses := true, named := ["internal/bytealg.MaxLen"], apart := false, narrowed := true }
def LexBlanksUptoSaid : Prop := lexBlanksUptoRow.holds Try.pinned (OpenSpec.upto lexBlanksSpec)

end Rows
end Go.Proofs.Ytpgjmiieecdjhaa
