/-
  No cell of these rows narrows 'for every input' (looked for: loops, veiled, ifaces, maps, wideKeys, modest, calm, conditions, laid).
  DERIVED. THE GIVEN ROWS OF THIS SEAT. 16 by the template 'for every input the law returns true; each argument reads behind the call as it read before'; 0 by the template 'total and deterministic' (their statements: YtfpllgkcflinbaaTotals.lean).
  GIVEN WITH THE SEED: the statements are not yours to turn. If you find one false, say at which input.
  Laid BY PROGRAM, IN A SANDBOX (cutbox-rows.mjs): the forced cells as the released guide's own fill.sh prints them over the translation 16c6a1a0de1f4d09… (all of the seat's roots in one cut). By AI agents, Wed Nov 11 2026. No macro, syntax, notation, axiom, sorry.
-/
import Derived.Test.YtfpllgkcflinbaaChecked
import GoSem.Claim
import GoSem.ClaimJoined
import GoSem.ClaimMapViews
import Derived.JoinedTies
import Derived.KernelRfl
namespace Go.Proofs.Ytfpllgkcflinbaa
/- THE CELL 'sum', in the pinned program and in every row, IS THE sha256 OF THE DUMP (.gsa) THAT YtfpllgkcflinbaaProg.lean LOADS. Nothing in Lean hashes anything: it is a label: what it is worth is what the hold of that sum in a sandbox is worth. -/
noncomputable def Try.pinned : Pinned := { name := "ytfpllgkcflinbaa", sum := "16c6a1a0de1f4d09ba4aecd221755321fdf5b0a2d8b15439ae451dee299d2a14", checked := Try.checked }
namespace Rows
def none {H : Type} : Left H := { results := [], args := [] }

/-- 'cofferdamlaw11.CheckWrong': WHATEVER THE INPUT: true; the input reads as it did. -/
def checkWrongSpec : ChangeSpec := { name := "checkWrong", fn := fun _ => fun
  | [d] => { results := [.lit (.bool true)], args := [d] }
  | _ => none }
def checkWrongRow : OpenClaim := { program := "ytfpllgkcflinbaa", sum := "16c6a1a0de1f4d09ba4aecd221755321fdf5b0a2d8b15439ae451dee299d2a14", func := "cofferdam/cofferdamlaw11.CheckWrong", spec := "checkWrong", unfollowed := true, recurses := true, apart := false }
def CheckWrongSaid : Prop := checkWrongRow.holds Try.pinned (OpenSpec.ofChange checkWrongSpec)

/-- ITS FALSE NEIGHBOUR: 'it returns false'. Refute it at one input. -/
def checkWrongWrong : ChangeSpec := { name := "checkWrong", fn := fun _ => fun
  | [d] => { results := [.lit (.bool false)], args := [d] }
  | _ => none }
def CheckWrongWrongFalsely : Prop := checkWrongRow.holds Try.pinned (OpenSpec.ofChange checkWrongWrong)

/-- 'cofferdamlaw11.CheckSizes': WHATEVER THE INPUT: true; the input reads as it did. -/
def checkSizesSpec : ChangeSpec := { name := "checkSizes", fn := fun _ => fun
  | [d1, d2] => { results := [.lit (.bool true)], args := [d1, d2] }
  | _ => none }
def checkSizesRow : OpenClaim := { program := "ytfpllgkcflinbaa", sum := "16c6a1a0de1f4d09ba4aecd221755321fdf5b0a2d8b15439ae451dee299d2a14", func := "cofferdam/cofferdamlaw11.CheckSizes", spec := "checkSizes", unfollowed := true, recurses := true, apart := false }
def CheckSizesSaid : Prop := checkSizesRow.holds Try.pinned (OpenSpec.ofChange checkSizesSpec)

/-- ITS FALSE NEIGHBOUR: 'it returns false'. Refute it at one input. -/
def checkSizesWrong : ChangeSpec := { name := "checkSizes", fn := fun _ => fun
  | [d1, d2] => { results := [.lit (.bool false)], args := [d1, d2] }
  | _ => none }
def CheckSizesWrongFalsely : Prop := checkSizesRow.holds Try.pinned (OpenSpec.ofChange checkSizesWrong)

/-- 'cofferdamlaw8.LexWrong': WHATEVER THE INPUT: true; the input reads as it did. -/
def lexWrongSpec : ChangeSpec := { name := "lexWrong", fn := fun _ => fun
  | [d] => { results := [.lit (.bool true)], args := [d] }
  | _ => none }
def lexWrongRow : OpenClaim := { program := "ytfpllgkcflinbaa", sum := "16c6a1a0de1f4d09ba4aecd221755321fdf5b0a2d8b15439ae451dee299d2a14", func := "cofferdam/cofferdamlaw8.LexWrong", spec := "lexWrong", inPlace := ["math/bits.Add64", "internal/bytealg.IndexByteString", "internal/bytealg.IndexString"], unfollowed := true, recurses := true, named := ["internal/bytealg.MaxLen"], apart := false }
def LexWrongSaid : Prop := lexWrongRow.holds Try.pinned (OpenSpec.ofChange lexWrongSpec)

/-- ITS FALSE NEIGHBOUR: 'it returns false'. Refute it at one input. -/
def lexWrongWrong : ChangeSpec := { name := "lexWrong", fn := fun _ => fun
  | [d] => { results := [.lit (.bool false)], args := [d] }
  | _ => none }
def LexWrongWrongFalsely : Prop := lexWrongRow.holds Try.pinned (OpenSpec.ofChange lexWrongWrong)

/-- 'cofferdamlaw19.AssignNone': WHATEVER THE INPUT: true; the input reads as it did. -/
def assignNoneSpec : ChangeSpec := { name := "assignNone", fn := fun _ => fun
  | [d] => { results := [.lit (.bool true)], args := [d] }
  | _ => none }
def assignNoneRow : OpenClaim := { program := "ytfpllgkcflinbaa", sum := "16c6a1a0de1f4d09ba4aecd221755321fdf5b0a2d8b15439ae451dee299d2a14", func := "cofferdam/cofferdamlaw19.AssignNone", spec := "assignNone", unfollowed := true, recurses := true, apart := false }
def AssignNoneSaid : Prop := assignNoneRow.holds Try.pinned (OpenSpec.ofChange assignNoneSpec)

/-- ITS FALSE NEIGHBOUR: 'it returns false'. Refute it at one input. -/
def assignNoneWrong : ChangeSpec := { name := "assignNone", fn := fun _ => fun
  | [d] => { results := [.lit (.bool false)], args := [d] }
  | _ => none }
def AssignNoneWrongFalsely : Prop := assignNoneRow.holds Try.pinned (OpenSpec.ofChange assignNoneWrong)

/-- 'cofferdamlaw13.SourceIndexes': WHATEVER THE INPUT: true; the input reads as it did. -/
def sourceIndexesSpec : ChangeSpec := { name := "sourceIndexes", fn := fun _ => fun
  | [d1, d2, d3] => { results := [.lit (.bool true)], args := [d1, d2, d3] }
  | _ => none }
def sourceIndexesRow : OpenClaim := { program := "ytfpllgkcflinbaa", sum := "16c6a1a0de1f4d09ba4aecd221755321fdf5b0a2d8b15439ae451dee299d2a14", func := "cofferdam/cofferdamlaw13.SourceIndexes", spec := "sourceIndexes", unfollowed := true, recurses := true, apart := false }
def SourceIndexesSaid : Prop := sourceIndexesRow.holds Try.pinned (OpenSpec.ofChange sourceIndexesSpec)

/-- ITS FALSE NEIGHBOUR: 'it returns false'. Refute it at one input. -/
def sourceIndexesWrong : ChangeSpec := { name := "sourceIndexes", fn := fun _ => fun
  | [d1, d2, d3] => { results := [.lit (.bool false)], args := [d1, d2, d3] }
  | _ => none }
def SourceIndexesWrongFalsely : Prop := sourceIndexesRow.holds Try.pinned (OpenSpec.ofChange sourceIndexesWrong)

/-- 'cofferdamlaw13.SourceCas': WHATEVER THE INPUT: true; the input reads as it did. -/
def sourceCasSpec : ChangeSpec := { name := "sourceCas", fn := fun _ => fun
  | [d1, d2, d3] => { results := [.lit (.bool true)], args := [d1, d2, d3] }
  | _ => none }
def sourceCasRow : OpenClaim := { program := "ytfpllgkcflinbaa", sum := "16c6a1a0de1f4d09ba4aecd221755321fdf5b0a2d8b15439ae451dee299d2a14", func := "cofferdam/cofferdamlaw13.SourceCas", spec := "sourceCas", unfollowed := true, recurses := true, apart := false }
def SourceCasSaid : Prop := sourceCasRow.holds Try.pinned (OpenSpec.ofChange sourceCasSpec)

/-- ITS FALSE NEIGHBOUR: 'it returns false'. Refute it at one input. -/
def sourceCasWrong : ChangeSpec := { name := "sourceCas", fn := fun _ => fun
  | [d1, d2, d3] => { results := [.lit (.bool false)], args := [d1, d2, d3] }
  | _ => none }
def SourceCasWrongFalsely : Prop := sourceCasRow.holds Try.pinned (OpenSpec.ofChange sourceCasWrong)

/-- 'cofferdamlaw13.SourceRecovers': WHATEVER THE INPUT: true; the input reads as it did. -/
def sourceRecoversSpec : ChangeSpec := { name := "sourceRecovers", fn := fun _ => fun
  | [d1, d2] => { results := [.lit (.bool true)], args := [d1, d2] }
  | _ => none }
def sourceRecoversRow : OpenClaim := { program := "ytfpllgkcflinbaa", sum := "16c6a1a0de1f4d09ba4aecd221755321fdf5b0a2d8b15439ae451dee299d2a14", func := "cofferdam/cofferdamlaw13.SourceRecovers", spec := "sourceRecovers", unfollowed := true, recurses := true, apart := false }
def SourceRecoversSaid : Prop := sourceRecoversRow.holds Try.pinned (OpenSpec.ofChange sourceRecoversSpec)

/-- ITS FALSE NEIGHBOUR: 'it returns false'. Refute it at one input. -/
def sourceRecoversWrong : ChangeSpec := { name := "sourceRecovers", fn := fun _ => fun
  | [d1, d2] => { results := [.lit (.bool false)], args := [d1, d2] }
  | _ => none }
def SourceRecoversWrongFalsely : Prop := sourceRecoversRow.holds Try.pinned (OpenSpec.ofChange sourceRecoversWrong)

/-- 'cofferdamlaw6.CoreExclusive': WHATEVER THE INPUT: true; the input reads as it did. -/
def coreExclusiveSpec : ChangeSpec := { name := "coreExclusive", fn := fun _ => fun
  | [d1, d2, d3] => { results := [.lit (.bool true)], args := [d1, d2, d3] }
  | _ => none }
def coreExclusiveRow : OpenClaim := { program := "ytfpllgkcflinbaa", sum := "16c6a1a0de1f4d09ba4aecd221755321fdf5b0a2d8b15439ae451dee299d2a14", func := "cofferdam/cofferdamlaw6.CoreExclusive", spec := "coreExclusive", unfollowed := true, recurses := true, apart := false }
def CoreExclusiveSaid : Prop := coreExclusiveRow.holds Try.pinned (OpenSpec.ofChange coreExclusiveSpec)

/-- ITS FALSE NEIGHBOUR: 'it returns false'. Refute it at one input. -/
def coreExclusiveWrong : ChangeSpec := { name := "coreExclusive", fn := fun _ => fun
  | [d1, d2, d3] => { results := [.lit (.bool false)], args := [d1, d2, d3] }
  | _ => none }
def CoreExclusiveWrongFalsely : Prop := coreExclusiveRow.holds Try.pinned (OpenSpec.ofChange coreExclusiveWrong)

/-- 'cofferdamlaw6.CoreOwn': WHATEVER THE INPUT: true; the input reads as it did. -/
def coreOwnSpec : ChangeSpec := { name := "coreOwn", fn := fun _ => fun
  | [d1, d2] => { results := [.lit (.bool true)], args := [d1, d2] }
  | _ => none }
def coreOwnRow : OpenClaim := { program := "ytfpllgkcflinbaa", sum := "16c6a1a0de1f4d09ba4aecd221755321fdf5b0a2d8b15439ae451dee299d2a14", func := "cofferdam/cofferdamlaw6.CoreOwn", spec := "coreOwn", unfollowed := true, recurses := true, apart := false }
def CoreOwnSaid : Prop := coreOwnRow.holds Try.pinned (OpenSpec.ofChange coreOwnSpec)

/-- ITS FALSE NEIGHBOUR: 'it returns false'. Refute it at one input. -/
def coreOwnWrong : ChangeSpec := { name := "coreOwn", fn := fun _ => fun
  | [d1, d2] => { results := [.lit (.bool false)], args := [d1, d2] }
  | _ => none }
def CoreOwnWrongFalsely : Prop := coreOwnRow.holds Try.pinned (OpenSpec.ofChange coreOwnWrong)

/-- 'cofferdamlaw9.ParseWrong': WHATEVER THE INPUT: true; the input reads as it did. -/
def parseWrongSpec : ChangeSpec := { name := "parseWrong", fn := fun _ => fun
  | [d] => { results := [.lit (.bool true)], args := [d] }
  | _ => none }
def parseWrongRow : OpenClaim := { program := "ytfpllgkcflinbaa", sum := "16c6a1a0de1f4d09ba4aecd221755321fdf5b0a2d8b15439ae451dee299d2a14", func := "cofferdam/cofferdamlaw9.ParseWrong", spec := "parseWrong", inPlace := ["math/bits.Add64", "internal/bytealg.IndexByteString", "internal/bytealg.IndexString"], unfollowed := true, recurses := true, named := ["internal/bytealg.MaxLen"], apart := false }
def ParseWrongSaid : Prop := parseWrongRow.holds Try.pinned (OpenSpec.ofChange parseWrongSpec)

/-- ITS FALSE NEIGHBOUR: 'it returns false'. Refute it at one input. -/
def parseWrongWrong : ChangeSpec := { name := "parseWrong", fn := fun _ => fun
  | [d] => { results := [.lit (.bool false)], args := [d] }
  | _ => none }
def ParseWrongWrongFalsely : Prop := parseWrongRow.holds Try.pinned (OpenSpec.ofChange parseWrongWrong)

/-- 'cofferdamlaw9.ParseDeep': WHATEVER THE INPUT: true; the input reads as it did. -/
def parseDeepSpec : ChangeSpec := { name := "parseDeep", fn := fun _ => fun
  | [d1, d2] => { results := [.lit (.bool true)], args := [d1, d2] }
  | _ => none }
def parseDeepRow : OpenClaim := { program := "ytfpllgkcflinbaa", sum := "16c6a1a0de1f4d09ba4aecd221755321fdf5b0a2d8b15439ae451dee299d2a14", func := "cofferdam/cofferdamlaw9.ParseDeep", spec := "parseDeep", inPlace := ["math/bits.Add64", "internal/bytealg.IndexByteString", "internal/bytealg.IndexString"], unfollowed := true, recurses := true, named := ["internal/bytealg.MaxLen"], apart := false }
def ParseDeepSaid : Prop := parseDeepRow.holds Try.pinned (OpenSpec.ofChange parseDeepSpec)

/-- ITS FALSE NEIGHBOUR: 'it returns false'. Refute it at one input. -/
def parseDeepWrong : ChangeSpec := { name := "parseDeep", fn := fun _ => fun
  | [d1, d2] => { results := [.lit (.bool false)], args := [d1, d2] }
  | _ => none }
def ParseDeepWrongFalsely : Prop := parseDeepRow.holds Try.pinned (OpenSpec.ofChange parseDeepWrong)

/-- 'cofferdamlaw6.CoreRelease': WHATEVER THE INPUT: true; the input reads as it did. -/
def coreReleaseSpec : ChangeSpec := { name := "coreRelease", fn := fun _ => fun
  | [d1, d2] => { results := [.lit (.bool true)], args := [d1, d2] }
  | _ => none }
def coreReleaseRow : OpenClaim := { program := "ytfpllgkcflinbaa", sum := "16c6a1a0de1f4d09ba4aecd221755321fdf5b0a2d8b15439ae451dee299d2a14", func := "cofferdam/cofferdamlaw6.CoreRelease", spec := "coreRelease", unfollowed := true, recurses := true, apart := false }
def CoreReleaseSaid : Prop := coreReleaseRow.holds Try.pinned (OpenSpec.ofChange coreReleaseSpec)

/-- ITS FALSE NEIGHBOUR: 'it returns false'. Refute it at one input. -/
def coreReleaseWrong : ChangeSpec := { name := "coreRelease", fn := fun _ => fun
  | [d1, d2] => { results := [.lit (.bool false)], args := [d1, d2] }
  | _ => none }
def CoreReleaseWrongFalsely : Prop := coreReleaseRow.holds Try.pinned (OpenSpec.ofChange coreReleaseWrong)

/-- 'cofferdamlaw6.CoreForwards': WHATEVER THE INPUT: true; the input reads as it did. -/
def coreForwardsSpec : ChangeSpec := { name := "coreForwards", fn := fun _ => fun
  | [d1, d2, d3] => { results := [.lit (.bool true)], args := [d1, d2, d3] }
  | _ => none }
def coreForwardsRow : OpenClaim := { program := "ytfpllgkcflinbaa", sum := "16c6a1a0de1f4d09ba4aecd221755321fdf5b0a2d8b15439ae451dee299d2a14", func := "cofferdam/cofferdamlaw6.CoreForwards", spec := "coreForwards", unfollowed := true, recurses := true, apart := false }
def CoreForwardsSaid : Prop := coreForwardsRow.holds Try.pinned (OpenSpec.ofChange coreForwardsSpec)

/-- ITS FALSE NEIGHBOUR: 'it returns false'. Refute it at one input. -/
def coreForwardsWrong : ChangeSpec := { name := "coreForwards", fn := fun _ => fun
  | [d1, d2, d3] => { results := [.lit (.bool false)], args := [d1, d2, d3] }
  | _ => none }
def CoreForwardsWrongFalsely : Prop := coreForwardsRow.holds Try.pinned (OpenSpec.ofChange coreForwardsWrong)

/-- 'cofferdamlaw6.CoreWaits': WHATEVER THE INPUT: true; the input reads as it did. -/
def coreWaitsSpec : ChangeSpec := { name := "coreWaits", fn := fun _ => fun
  | [d1, d2, d3] => { results := [.lit (.bool true)], args := [d1, d2, d3] }
  | _ => none }
def coreWaitsRow : OpenClaim := { program := "ytfpllgkcflinbaa", sum := "16c6a1a0de1f4d09ba4aecd221755321fdf5b0a2d8b15439ae451dee299d2a14", func := "cofferdam/cofferdamlaw6.CoreWaits", spec := "coreWaits", unfollowed := true, recurses := true, apart := false }
def CoreWaitsSaid : Prop := coreWaitsRow.holds Try.pinned (OpenSpec.ofChange coreWaitsSpec)

/-- ITS FALSE NEIGHBOUR: 'it returns false'. Refute it at one input. -/
def coreWaitsWrong : ChangeSpec := { name := "coreWaits", fn := fun _ => fun
  | [d1, d2, d3] => { results := [.lit (.bool false)], args := [d1, d2, d3] }
  | _ => none }
def CoreWaitsWrongFalsely : Prop := coreWaitsRow.holds Try.pinned (OpenSpec.ofChange coreWaitsWrong)

/-- 'cofferdamlaw7.ParmRecovers': WHATEVER THE INPUT: true; the input reads as it did. -/
def parmRecoversSpec : ChangeSpec := { name := "parmRecovers", fn := fun _ => fun
  | [d1, d2] => { results := [.lit (.bool true)], args := [d1, d2] }
  | _ => none }
def parmRecoversRow : OpenClaim := { program := "ytfpllgkcflinbaa", sum := "16c6a1a0de1f4d09ba4aecd221755321fdf5b0a2d8b15439ae451dee299d2a14", func := "cofferdam/cofferdamlaw7.ParmRecovers", spec := "parmRecovers", unfollowed := true, recurses := true, apart := false }
def ParmRecoversSaid : Prop := parmRecoversRow.holds Try.pinned (OpenSpec.ofChange parmRecoversSpec)

/-- ITS FALSE NEIGHBOUR: 'it returns false'. Refute it at one input. -/
def parmRecoversWrong : ChangeSpec := { name := "parmRecovers", fn := fun _ => fun
  | [d1, d2] => { results := [.lit (.bool false)], args := [d1, d2] }
  | _ => none }
def ParmRecoversWrongFalsely : Prop := parmRecoversRow.holds Try.pinned (OpenSpec.ofChange parmRecoversWrong)

/-- 'cofferdamlaw24.OrderKnown': WHATEVER THE INPUT: true; the input reads as it did. -/
def orderKnownSpec : ChangeSpec := { name := "orderKnown", fn := fun _ => fun
  | [d] => { results := [.lit (.bool true)], args := [d] }
  | _ => none }
def orderKnownRow : OpenClaim := { program := "ytfpllgkcflinbaa", sum := "16c6a1a0de1f4d09ba4aecd221755321fdf5b0a2d8b15439ae451dee299d2a14", func := "cofferdam/cofferdamlaw24.OrderKnown", spec := "orderKnown", unfollowed := true, recurses := true, apart := false }
def OrderKnownSaid : Prop := orderKnownRow.holds Try.pinned (OpenSpec.ofChange orderKnownSpec)

/-- ITS FALSE NEIGHBOUR: 'it returns false'. Refute it at one input. -/
def orderKnownWrong : ChangeSpec := { name := "orderKnown", fn := fun _ => fun
  | [d] => { results := [.lit (.bool false)], args := [d] }
  | _ => none }
def OrderKnownWrongFalsely : Prop := orderKnownRow.holds Try.pinned (OpenSpec.ofChange orderKnownWrong)

/- THE SECOND FORM. 'bulk': how many values and letters a reading holds, each counted each time it is reached (what is shared counts as often as it is met; a slice's spare places count too). A statement '..UptoSaid' is the law's where the arguments, and the package variables that the reading takes, are together of bulk at most 1048576: NARROWER than '..Said'. Prove '..Said' where nothing that the law and all that it calls make is longer than what came in: it says more and counts as full. Else prove '..UptoSaid'. A law counts once. -/
mutual
def uptoBulk {H : Type} : DataW H → Nat
  | .lit (.string bytes) => bytes.length + 1
  | .lit _ => 1
  | .nil => 1
  | .ptr d => uptoBulk d + 1
  | .slice elems spare => uptoBulkAll elems + uptoBulkAll spare + 1
  | .agg parts => uptoBulkAll parts + 1
  | .iface _ d => uptoBulk d + 1
  | .map entries => uptoBulkEntries entries + 1
  | .held _ => 1
def uptoBulkAll {H : Type} : List (DataW H) → Nat
  | [] => 0
  | d :: r => uptoBulk d + uptoBulkAll r
def uptoBulkEntries {H : Type} : List (Lit × DataW H) → Nat
  | [] => 0
  | x :: r => uptoBulkEntry x + uptoBulkEntries r
def uptoBulkEntry {H : Type} : Lit × DataW H → Nat
  | (.string bytes, d) => bytes.length + uptoBulk d + 1
  | (_, d) => uptoBulk d + 1
 end
def uptoSmall : (H : Type) → List (DataW H) → Bool := fun _ ds => decide (uptoBulkAll ds ≤ 1048576)
def OpenSpec.upto (s : _root_.Go.ChangeSpec) : _root_.Go.OpenSpec := { _root_.Go.OpenSpec.ofChange s with cond := some uptoSmall }

/-- 'cofferdamlaw11.CheckWrong', WHERE WHAT IT READS IS OF BULK AT MOST 1048576: true; the input reads as it did. -/
def checkWrongUptoRow : OpenClaim := { program := "ytfpllgkcflinbaa", sum := "16c6a1a0de1f4d09ba4aecd221755321fdf5b0a2d8b15439ae451dee299d2a14", func := "cofferdam/cofferdamlaw11.CheckWrong", spec := "checkWrong", unfollowed := true, recurses := true, apart := false, narrowed := true }
def CheckWrongUptoSaid : Prop := checkWrongUptoRow.holds Try.pinned (OpenSpec.upto checkWrongSpec)

/-- 'cofferdamlaw11.CheckSizes', WHERE WHAT IT READS IS OF BULK AT MOST 1048576: true; the input reads as it did. -/
def checkSizesUptoRow : OpenClaim := { program := "ytfpllgkcflinbaa", sum := "16c6a1a0de1f4d09ba4aecd221755321fdf5b0a2d8b15439ae451dee299d2a14", func := "cofferdam/cofferdamlaw11.CheckSizes", spec := "checkSizes", unfollowed := true, recurses := true, apart := false, narrowed := true }
def CheckSizesUptoSaid : Prop := checkSizesUptoRow.holds Try.pinned (OpenSpec.upto checkSizesSpec)

/-- 'cofferdamlaw8.LexWrong', WHERE WHAT IT READS IS OF BULK AT MOST 1048576: true; the input reads as it did. -/
def lexWrongUptoRow : OpenClaim := { program := "ytfpllgkcflinbaa", sum := "16c6a1a0de1f4d09ba4aecd221755321fdf5b0a2d8b15439ae451dee299d2a14", func := "cofferdam/cofferdamlaw8.LexWrong", spec := "lexWrong", inPlace := ["math/bits.Add64", "internal/bytealg.IndexByteString", "internal/bytealg.IndexString"], unfollowed := true, recurses := true, named := ["internal/bytealg.MaxLen"], apart := false, narrowed := true }
def LexWrongUptoSaid : Prop := lexWrongUptoRow.holds Try.pinned (OpenSpec.upto lexWrongSpec)

/-- 'cofferdamlaw19.AssignNone', WHERE WHAT IT READS IS OF BULK AT MOST 1048576: true; the input reads as it did. -/
def assignNoneUptoRow : OpenClaim := { program := "ytfpllgkcflinbaa", sum := "16c6a1a0de1f4d09ba4aecd221755321fdf5b0a2d8b15439ae451dee299d2a14", func := "cofferdam/cofferdamlaw19.AssignNone", spec := "assignNone", unfollowed := true, recurses := true, apart := false, narrowed := true }
def AssignNoneUptoSaid : Prop := assignNoneUptoRow.holds Try.pinned (OpenSpec.upto assignNoneSpec)

/-- 'cofferdamlaw13.SourceIndexes', WHERE WHAT IT READS IS OF BULK AT MOST 1048576: true; the input reads as it did. -/
def sourceIndexesUptoRow : OpenClaim := { program := "ytfpllgkcflinbaa", sum := "16c6a1a0de1f4d09ba4aecd221755321fdf5b0a2d8b15439ae451dee299d2a14", func := "cofferdam/cofferdamlaw13.SourceIndexes", spec := "sourceIndexes", unfollowed := true, recurses := true, apart := false, narrowed := true }
def SourceIndexesUptoSaid : Prop := sourceIndexesUptoRow.holds Try.pinned (OpenSpec.upto sourceIndexesSpec)

/-- 'cofferdamlaw13.SourceCas', WHERE WHAT IT READS IS OF BULK AT MOST 1048576: true; the input reads as it did. -/
def sourceCasUptoRow : OpenClaim := { program := "ytfpllgkcflinbaa", sum := "16c6a1a0de1f4d09ba4aecd221755321fdf5b0a2d8b15439ae451dee299d2a14", func := "cofferdam/cofferdamlaw13.SourceCas", spec := "sourceCas", unfollowed := true, recurses := true, apart := false, narrowed := true }
def SourceCasUptoSaid : Prop := sourceCasUptoRow.holds Try.pinned (OpenSpec.upto sourceCasSpec)

/-- 'cofferdamlaw13.SourceRecovers', WHERE WHAT IT READS IS OF BULK AT MOST 1048576: true; the input reads as it did. -/
def sourceRecoversUptoRow : OpenClaim := { program := "ytfpllgkcflinbaa", sum := "16c6a1a0de1f4d09ba4aecd221755321fdf5b0a2d8b15439ae451dee299d2a14", func := "cofferdam/cofferdamlaw13.SourceRecovers", spec := "sourceRecovers", unfollowed := true, recurses := true, apart := false, narrowed := true }
def SourceRecoversUptoSaid : Prop := sourceRecoversUptoRow.holds Try.pinned (OpenSpec.upto sourceRecoversSpec)

/-- 'cofferdamlaw6.CoreExclusive', WHERE WHAT IT READS IS OF BULK AT MOST 1048576: true; the input reads as it did. -/
def coreExclusiveUptoRow : OpenClaim := { program := "ytfpllgkcflinbaa", sum := "16c6a1a0de1f4d09ba4aecd221755321fdf5b0a2d8b15439ae451dee299d2a14", func := "cofferdam/cofferdamlaw6.CoreExclusive", spec := "coreExclusive", unfollowed := true, recurses := true, apart := false, narrowed := true }
def CoreExclusiveUptoSaid : Prop := coreExclusiveUptoRow.holds Try.pinned (OpenSpec.upto coreExclusiveSpec)

/-- 'cofferdamlaw6.CoreOwn', WHERE WHAT IT READS IS OF BULK AT MOST 1048576: true; the input reads as it did. -/
def coreOwnUptoRow : OpenClaim := { program := "ytfpllgkcflinbaa", sum := "16c6a1a0de1f4d09ba4aecd221755321fdf5b0a2d8b15439ae451dee299d2a14", func := "cofferdam/cofferdamlaw6.CoreOwn", spec := "coreOwn", unfollowed := true, recurses := true, apart := false, narrowed := true }
def CoreOwnUptoSaid : Prop := coreOwnUptoRow.holds Try.pinned (OpenSpec.upto coreOwnSpec)

/-- 'cofferdamlaw9.ParseWrong', WHERE WHAT IT READS IS OF BULK AT MOST 1048576: true; the input reads as it did. -/
def parseWrongUptoRow : OpenClaim := { program := "ytfpllgkcflinbaa", sum := "16c6a1a0de1f4d09ba4aecd221755321fdf5b0a2d8b15439ae451dee299d2a14", func := "cofferdam/cofferdamlaw9.ParseWrong", spec := "parseWrong", inPlace := ["math/bits.Add64", "internal/bytealg.IndexByteString", "internal/bytealg.IndexString"], unfollowed := true, recurses := true, named := ["internal/bytealg.MaxLen"], apart := false, narrowed := true }
def ParseWrongUptoSaid : Prop := parseWrongUptoRow.holds Try.pinned (OpenSpec.upto parseWrongSpec)

/-- 'cofferdamlaw9.ParseDeep', WHERE WHAT IT READS IS OF BULK AT MOST 1048576: true; the input reads as it did. -/
def parseDeepUptoRow : OpenClaim := { program := "ytfpllgkcflinbaa", sum := "16c6a1a0de1f4d09ba4aecd221755321fdf5b0a2d8b15439ae451dee299d2a14", func := "cofferdam/cofferdamlaw9.ParseDeep", spec := "parseDeep", inPlace := ["math/bits.Add64", "internal/bytealg.IndexByteString", "internal/bytealg.IndexString"], unfollowed := true, recurses := true, named := ["internal/bytealg.MaxLen"], apart := false, narrowed := true }
def ParseDeepUptoSaid : Prop := parseDeepUptoRow.holds Try.pinned (OpenSpec.upto parseDeepSpec)

/-- 'cofferdamlaw6.CoreRelease', WHERE WHAT IT READS IS OF BULK AT MOST 1048576: true; the input reads as it did. -/
def coreReleaseUptoRow : OpenClaim := { program := "ytfpllgkcflinbaa", sum := "16c6a1a0de1f4d09ba4aecd221755321fdf5b0a2d8b15439ae451dee299d2a14", func := "cofferdam/cofferdamlaw6.CoreRelease", spec := "coreRelease", unfollowed := true, recurses := true, apart := false, narrowed := true }
def CoreReleaseUptoSaid : Prop := coreReleaseUptoRow.holds Try.pinned (OpenSpec.upto coreReleaseSpec)

/-- 'cofferdamlaw6.CoreForwards', WHERE WHAT IT READS IS OF BULK AT MOST 1048576: true; the input reads as it did. -/
def coreForwardsUptoRow : OpenClaim := { program := "ytfpllgkcflinbaa", sum := "16c6a1a0de1f4d09ba4aecd221755321fdf5b0a2d8b15439ae451dee299d2a14", func := "cofferdam/cofferdamlaw6.CoreForwards", spec := "coreForwards", unfollowed := true, recurses := true, apart := false, narrowed := true }
def CoreForwardsUptoSaid : Prop := coreForwardsUptoRow.holds Try.pinned (OpenSpec.upto coreForwardsSpec)

/-- 'cofferdamlaw6.CoreWaits', WHERE WHAT IT READS IS OF BULK AT MOST 1048576: true; the input reads as it did. -/
def coreWaitsUptoRow : OpenClaim := { program := "ytfpllgkcflinbaa", sum := "16c6a1a0de1f4d09ba4aecd221755321fdf5b0a2d8b15439ae451dee299d2a14", func := "cofferdam/cofferdamlaw6.CoreWaits", spec := "coreWaits", unfollowed := true, recurses := true, apart := false, narrowed := true }
def CoreWaitsUptoSaid : Prop := coreWaitsUptoRow.holds Try.pinned (OpenSpec.upto coreWaitsSpec)

/-- 'cofferdamlaw7.ParmRecovers', WHERE WHAT IT READS IS OF BULK AT MOST 1048576: true; the input reads as it did. -/
def parmRecoversUptoRow : OpenClaim := { program := "ytfpllgkcflinbaa", sum := "16c6a1a0de1f4d09ba4aecd221755321fdf5b0a2d8b15439ae451dee299d2a14", func := "cofferdam/cofferdamlaw7.ParmRecovers", spec := "parmRecovers", unfollowed := true, recurses := true, apart := false, narrowed := true }
def ParmRecoversUptoSaid : Prop := parmRecoversUptoRow.holds Try.pinned (OpenSpec.upto parmRecoversSpec)

/-- 'cofferdamlaw24.OrderKnown', WHERE WHAT IT READS IS OF BULK AT MOST 1048576: true; the input reads as it did. -/
def orderKnownUptoRow : OpenClaim := { program := "ytfpllgkcflinbaa", sum := "16c6a1a0de1f4d09ba4aecd221755321fdf5b0a2d8b15439ae451dee299d2a14", func := "cofferdam/cofferdamlaw24.OrderKnown", spec := "orderKnown", unfollowed := true, recurses := true, apart := false, narrowed := true }
def OrderKnownUptoSaid : Prop := orderKnownUptoRow.holds Try.pinned (OpenSpec.upto orderKnownSpec)

end Rows
end Go.Proofs.Ytfpllgkcflinbaa
