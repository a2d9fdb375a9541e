/-
  No cell of these rows narrows 'for every input' (looked for: loops, veiled, ifaces, maps, wideKeys, modest, calm, conditions, laid).
  DERIVED. THE GIVEN ROWS OF THIS SEAT. 8 by the template 'for every input the law returns true; each argument reads behind the call as it read before'; 0 by the template 'total and deterministic' (their statements: YtmgpgdahniehnaaGreatTotals.lean).
  GIVEN WITH THE SEED: the statements are not yours to turn. If you find one false, say at which input.
  Laid BY PROGRAM, IN A SANDBOX (cutbox-rows.mjs): the forced cells as the released guide's own fill.sh prints them over the translation dd2433f6c2940146… (all of the seat's roots in one cut). By AI agents, Wed Nov 11 2026. No macro, syntax, notation, axiom, sorry.
-/
import Derived.Test.YtmgpgdahniehnaaGreatChecked
import GoSem.Claim
import GoSem.ClaimJoined
import GoSem.ClaimMapViews
import Derived.JoinedTies
import Derived.KernelRfl
namespace Go.Proofs.YtmgpgdahniehnaaGreat
/- THE CELL 'sum', in the pinned program and in every row, IS THE sha256 OF THE DUMP (.gsa) THAT YtmgpgdahniehnaaGreatProg.lean LOADS. Nothing in Lean hashes anything: it is a label: what it is worth is what the hold of that sum in a sandbox is worth. -/
noncomputable def Tryz.pinned : Pinned := { name := "ytmgpgdahniehnaagreat", sum := "dd2433f6c294014614080e6e58ad2e3998c817cf46e240baee0984108863ab42", checked := Tryz.checked }
namespace Rows
def none {H : Type} : Left H := { results := [], args := [] }

/-- 'cofferdamtop.TopNames': WHATEVER THE INPUT: true; the input reads as it did. -/
def topNamesSpec : ChangeSpec := { name := "topNames", fn := fun _ => fun
  | [] => { results := [.lit (.bool true)], args := [] }
  | _ => none }
def topNamesRow : OpenClaim := { program := "ytmgpgdahniehnaagreat", sum := "dd2433f6c294014614080e6e58ad2e3998c817cf46e240baee0984108863ab42", func := "cofferdam/cofferdamtop.TopNames", spec := "topNames", inPlace := ["math/bits.Add64", "internal/bytealg.IndexByteString", "internal/bytealg.IndexString"], unfollowed := true, recurses := true, named := ["internal/bytealg.MaxLen"], apart := false }
def TopNamesSaid : Prop := topNamesRow.holds Tryz.pinned (OpenSpec.ofChange topNamesSpec)

/-- ITS FALSE NEIGHBOUR: 'it returns false'. Refute it at one input. -/
def topNamesWrong : ChangeSpec := { name := "topNames", fn := fun _ => fun
  | [] => { results := [.lit (.bool false)], args := [] }
  | _ => none }
def TopNamesWrongFalsely : Prop := topNamesRow.holds Tryz.pinned (OpenSpec.ofChange topNamesWrong)

/-- 'cofferdamlaw7.ParmRuns': WHATEVER THE INPUT: true; the input reads as it did. -/
def parmRunsSpec : ChangeSpec := { name := "parmRuns", fn := fun _ => fun
  | [d1, d2, d3, d4] => { results := [.lit (.bool true)], args := [d1, d2, d3, d4] }
  | _ => none }
def parmRunsRow : OpenClaim := { program := "ytmgpgdahniehnaagreat", sum := "dd2433f6c294014614080e6e58ad2e3998c817cf46e240baee0984108863ab42", func := "cofferdam/cofferdamlaw7.ParmRuns", spec := "parmRuns", unfollowed := true, recurses := true, apart := false }
def ParmRunsSaid : Prop := parmRunsRow.holds Tryz.pinned (OpenSpec.ofChange parmRunsSpec)

/-- ITS FALSE NEIGHBOUR: 'it returns false'. Refute it at one input. -/
def parmRunsWrong : ChangeSpec := { name := "parmRuns", fn := fun _ => fun
  | [d1, d2, d3, d4] => { results := [.lit (.bool false)], args := [d1, d2, d3, d4] }
  | _ => none }
def ParmRunsWrongFalsely : Prop := parmRunsRow.holds Tryz.pinned (OpenSpec.ofChange parmRunsWrong)

/-- 'cofferdamlaw26.WholeCompiles': WHATEVER THE INPUT: true; the input reads as it did. -/
def wholeCompilesSpec : ChangeSpec := { name := "wholeCompiles", fn := fun _ => fun
  | [d1, d2, d3] => { results := [.lit (.bool true)], args := [d1, d2, d3] }
  | _ => none }
def wholeCompilesRow : OpenClaim := { program := "ytmgpgdahniehnaagreat", sum := "dd2433f6c294014614080e6e58ad2e3998c817cf46e240baee0984108863ab42", func := "cofferdam/cofferdamlaw26.WholeCompiles", spec := "wholeCompiles", inPlace := ["math/bits.Add64", "internal/bytealg.IndexByteString", "internal/bytealg.IndexString"], unfollowed := true, recurses := true, named := ["internal/bytealg.MaxLen"], apart := false }
def WholeCompilesSaid : Prop := wholeCompilesRow.holds Tryz.pinned (OpenSpec.ofChange wholeCompilesSpec)

/-- ITS FALSE NEIGHBOUR: 'it returns false'. Refute it at one input. -/
def wholeCompilesWrong : ChangeSpec := { name := "wholeCompiles", fn := fun _ => fun
  | [d1, d2, d3] => { results := [.lit (.bool false)], args := [d1, d2, d3] }
  | _ => none }
def WholeCompilesWrongFalsely : Prop := wholeCompilesRow.holds Tryz.pinned (OpenSpec.ofChange wholeCompilesWrong)

/-- 'cofferdamlaw26.WholeSparing': WHATEVER THE INPUT: true; the input reads as it did. -/
def wholeSparingSpec : ChangeSpec := { name := "wholeSparing", fn := fun _ => fun
  | [d1, d2, d3] => { results := [.lit (.bool true)], args := [d1, d2, d3] }
  | _ => none }
def wholeSparingRow : OpenClaim := { program := "ytmgpgdahniehnaagreat", sum := "dd2433f6c294014614080e6e58ad2e3998c817cf46e240baee0984108863ab42", func := "cofferdam/cofferdamlaw26.WholeSparing", spec := "wholeSparing", inPlace := ["math/bits.Add64", "internal/bytealg.IndexByteString", "internal/bytealg.IndexString"], unfollowed := true, recurses := true, named := ["internal/bytealg.MaxLen"], apart := false }
def WholeSparingSaid : Prop := wholeSparingRow.holds Tryz.pinned (OpenSpec.ofChange wholeSparingSpec)

/-- ITS FALSE NEIGHBOUR: 'it returns false'. Refute it at one input. -/
def wholeSparingWrong : ChangeSpec := { name := "wholeSparing", fn := fun _ => fun
  | [d1, d2, d3] => { results := [.lit (.bool false)], args := [d1, d2, d3] }
  | _ => none }
def WholeSparingWrongFalsely : Prop := wholeSparingRow.holds Tryz.pinned (OpenSpec.ofChange wholeSparingWrong)

/-- 'cofferdamlaw26.WholeTexts': WHATEVER THE INPUT: true; the input reads as it did. -/
def wholeTextsSpec : ChangeSpec := { name := "wholeTexts", fn := fun _ => fun
  | [d1, d2, d3] => { results := [.lit (.bool true)], args := [d1, d2, d3] }
  | _ => none }
def wholeTextsRow : OpenClaim := { program := "ytmgpgdahniehnaagreat", sum := "dd2433f6c294014614080e6e58ad2e3998c817cf46e240baee0984108863ab42", func := "cofferdam/cofferdamlaw26.WholeTexts", spec := "wholeTexts", inPlace := ["math/bits.Add64", "internal/bytealg.IndexByteString", "internal/bytealg.IndexString"], unfollowed := true, recurses := true, named := ["internal/bytealg.MaxLen"], apart := false }
def WholeTextsSaid : Prop := wholeTextsRow.holds Tryz.pinned (OpenSpec.ofChange wholeTextsSpec)

/-- ITS FALSE NEIGHBOUR: 'it returns false'. Refute it at one input. -/
def wholeTextsWrong : ChangeSpec := { name := "wholeTexts", fn := fun _ => fun
  | [d1, d2, d3] => { results := [.lit (.bool false)], args := [d1, d2, d3] }
  | _ => none }
def WholeTextsWrongFalsely : Prop := wholeTextsRow.holds Tryz.pinned (OpenSpec.ofChange wholeTextsWrong)

/-- 'cofferdamlaw26.WholePlays': WHATEVER THE INPUT: true; the input reads as it did. -/
def wholePlaysSpec : ChangeSpec := { name := "wholePlays", fn := fun _ => fun
  | [d1, d2, d3, d4] => { results := [.lit (.bool true)], args := [d1, d2, d3, d4] }
  | _ => none }
def wholePlaysRow : OpenClaim := { program := "ytmgpgdahniehnaagreat", sum := "dd2433f6c294014614080e6e58ad2e3998c817cf46e240baee0984108863ab42", func := "cofferdam/cofferdamlaw26.WholePlays", spec := "wholePlays", inPlace := ["math/bits.Add64", "internal/bytealg.IndexByteString", "internal/bytealg.IndexString"], unfollowed := true, recurses := true, named := ["internal/bytealg.MaxLen"], apart := false }
def WholePlaysSaid : Prop := wholePlaysRow.holds Tryz.pinned (OpenSpec.ofChange wholePlaysSpec)

/-- ITS FALSE NEIGHBOUR: 'it returns false'. Refute it at one input. -/
def wholePlaysWrong : ChangeSpec := { name := "wholePlays", fn := fun _ => fun
  | [d1, d2, d3, d4] => { results := [.lit (.bool false)], args := [d1, d2, d3, d4] }
  | _ => none }
def WholePlaysWrongFalsely : Prop := wholePlaysRow.holds Tryz.pinned (OpenSpec.ofChange wholePlaysWrong)

/-- 'cofferdamlaw26.WholeRefuses': WHATEVER THE INPUT: true; the input reads as it did. -/
def wholeRefusesSpec : ChangeSpec := { name := "wholeRefuses", fn := fun _ => fun
  | [d1, d2] => { results := [.lit (.bool true)], args := [d1, d2] }
  | _ => none }
def wholeRefusesRow : OpenClaim := { program := "ytmgpgdahniehnaagreat", sum := "dd2433f6c294014614080e6e58ad2e3998c817cf46e240baee0984108863ab42", func := "cofferdam/cofferdamlaw26.WholeRefuses", spec := "wholeRefuses", inPlace := ["math/bits.Add64", "internal/bytealg.IndexByteString", "internal/bytealg.IndexString"], unfollowed := true, recurses := true, named := ["internal/bytealg.MaxLen"], apart := false }
def WholeRefusesSaid : Prop := wholeRefusesRow.holds Tryz.pinned (OpenSpec.ofChange wholeRefusesSpec)

/-- ITS FALSE NEIGHBOUR: 'it returns false'. Refute it at one input. -/
def wholeRefusesWrong : ChangeSpec := { name := "wholeRefuses", fn := fun _ => fun
  | [d1, d2] => { results := [.lit (.bool false)], args := [d1, d2] }
  | _ => none }
def WholeRefusesWrongFalsely : Prop := wholeRefusesRow.holds Tryz.pinned (OpenSpec.ofChange wholeRefusesWrong)

/-- 'cofferdamlaw26.WholeSplits': WHATEVER THE INPUT: true; the input reads as it did. -/
def wholeSplitsSpec : ChangeSpec := { name := "wholeSplits", fn := fun _ => fun
  | [d1, d2, d3, d4, d5] => { results := [.lit (.bool true)], args := [d1, d2, d3, d4, d5] }
  | _ => none }
def wholeSplitsRow : OpenClaim := { program := "ytmgpgdahniehnaagreat", sum := "dd2433f6c294014614080e6e58ad2e3998c817cf46e240baee0984108863ab42", func := "cofferdam/cofferdamlaw26.WholeSplits", spec := "wholeSplits", inPlace := ["math/bits.Add64", "internal/bytealg.IndexByteString", "internal/bytealg.IndexString"], unfollowed := true, recurses := true, named := ["internal/bytealg.MaxLen"], apart := false }
def WholeSplitsSaid : Prop := wholeSplitsRow.holds Tryz.pinned (OpenSpec.ofChange wholeSplitsSpec)

/-- ITS FALSE NEIGHBOUR: 'it returns false'. Refute it at one input. -/
def wholeSplitsWrong : ChangeSpec := { name := "wholeSplits", fn := fun _ => fun
  | [d1, d2, d3, d4, d5] => { results := [.lit (.bool false)], args := [d1, d2, d3, d4, d5] }
  | _ => none }
def WholeSplitsWrongFalsely : Prop := wholeSplitsRow.holds Tryz.pinned (OpenSpec.ofChange wholeSplitsWrong)

/- THE SECOND FORM. 'bulk': how many values and letters a reading holds, each counted each time it is reached (what is shared counts as often as it is met; a slice's spare places count too). A statement '..UptoSaid' is the law's where the arguments, and the package variables that the reading takes, are together of bulk at most 1048576: NARROWER than '..Said'. Prove '..Said' where nothing that the law and all that it calls make is longer than what came in: it says more and counts as full. Else prove '..UptoSaid'. A law counts once. -/
mutual
def uptoBulk {H : Type} : DataW H → Nat
  | .lit (.string bytes) => bytes.length + 1
  | .lit _ => 1
  | .nil => 1
  | .ptr d => uptoBulk d + 1
  | .slice elems spare => uptoBulkAll elems + uptoBulkAll spare + 1
  | .agg parts => uptoBulkAll parts + 1
  | .iface _ d => uptoBulk d + 1
  | .map entries => uptoBulkEntries entries + 1
  | .held _ => 1
def uptoBulkAll {H : Type} : List (DataW H) → Nat
  | [] => 0
  | d :: r => uptoBulk d + uptoBulkAll r
def uptoBulkEntries {H : Type} : List (Lit × DataW H) → Nat
  | [] => 0
  | x :: r => uptoBulkEntry x + uptoBulkEntries r
def uptoBulkEntry {H : Type} : Lit × DataW H → Nat
  | (.string bytes, d) => bytes.length + uptoBulk d + 1
  | (_, d) => uptoBulk d + 1
 end
def uptoSmall : (H : Type) → List (DataW H) → Bool := fun _ ds => decide (uptoBulkAll ds ≤ 1048576)
def OpenSpec.upto (s : _root_.Go.ChangeSpec) : _root_.Go.OpenSpec := { _root_.Go.OpenSpec.ofChange s with cond := some uptoSmall }

/-- 'cofferdamtop.TopNames', WHERE WHAT IT READS IS OF BULK AT MOST 1048576: true; the input reads as it did. -/
def topNamesUptoRow : OpenClaim := { program := "ytmgpgdahniehnaagreat", sum := "dd2433f6c294014614080e6e58ad2e3998c817cf46e240baee0984108863ab42", func := "cofferdam/cofferdamtop.TopNames", spec := "topNames", inPlace := ["math/bits.Add64", "internal/bytealg.IndexByteString", "internal/bytealg.IndexString"], unfollowed := true, recurses := true, named := ["internal/bytealg.MaxLen"], apart := false, narrowed := true }
def TopNamesUptoSaid : Prop := topNamesUptoRow.holds Tryz.pinned (OpenSpec.upto topNamesSpec)

/-- 'cofferdamlaw7.ParmRuns', WHERE WHAT IT READS IS OF BULK AT MOST 1048576: true; the input reads as it did. -/
def parmRunsUptoRow : OpenClaim := { program := "ytmgpgdahniehnaagreat", sum := "dd2433f6c294014614080e6e58ad2e3998c817cf46e240baee0984108863ab42", func := "cofferdam/cofferdamlaw7.ParmRuns", spec := "parmRuns", unfollowed := true, recurses := true, apart := false, narrowed := true }
def ParmRunsUptoSaid : Prop := parmRunsUptoRow.holds Tryz.pinned (OpenSpec.upto parmRunsSpec)

/-- 'cofferdamlaw26.WholeCompiles', WHERE WHAT IT READS IS OF BULK AT MOST 1048576: true; the input reads as it did. -/
def wholeCompilesUptoRow : OpenClaim := { program := "ytmgpgdahniehnaagreat", sum := "dd2433f6c294014614080e6e58ad2e3998c817cf46e240baee0984108863ab42", func := "cofferdam/cofferdamlaw26.WholeCompiles", spec := "wholeCompiles", inPlace := ["math/bits.Add64", "internal/bytealg.IndexByteString", "internal/bytealg.IndexString"], unfollowed := true, recurses := true, named := ["internal/bytealg.MaxLen"], apart := false, narrowed := true }
def WholeCompilesUptoSaid : Prop := wholeCompilesUptoRow.holds Tryz.pinned (OpenSpec.upto wholeCompilesSpec)

/-- 'cofferdamlaw26.WholeSparing', WHERE WHAT IT READS IS OF BULK AT MOST 1048576: true; the input reads as it did. -/
def wholeSparingUptoRow : OpenClaim := { program := "ytmgpgdahniehnaagreat", sum := "dd2433f6c294014614080e6e58ad2e3998c817cf46e240baee0984108863ab42", func := "cofferdam/cofferdamlaw26.WholeSparing", spec := "wholeSparing", inPlace := ["math/bits.Add64", "internal/bytealg.IndexByteString", "internal/bytealg.IndexString"], unfollowed := true, recurses := true, named := ["internal/bytealg.MaxLen"], apart := false, narrowed := true }
def WholeSparingUptoSaid : Prop := wholeSparingUptoRow.holds Tryz.pinned (OpenSpec.upto wholeSparingSpec)

/-- 'cofferdamlaw26.WholeTexts', WHERE WHAT IT READS IS OF BULK AT MOST 1048576: true; the input reads as it did. -/
def wholeTextsUptoRow : OpenClaim := { program := "ytmgpgdahniehnaagreat", sum := "dd2433f6c294014614080e6e58ad2e3998c817cf46e240baee0984108863ab42", func := "cofferdam/cofferdamlaw26.WholeTexts", spec := "wholeTexts", inPlace := ["math/bits.Add64", "internal/bytealg.IndexByteString", "internal/bytealg.IndexString"], unfollowed := true, recurses := true, named := ["internal/bytealg.MaxLen"], apart := false, narrowed := true }
def WholeTextsUptoSaid : Prop := wholeTextsUptoRow.holds Tryz.pinned (OpenSpec.upto wholeTextsSpec)

/-- 'cofferdamlaw26.WholePlays', WHERE WHAT IT READS IS OF BULK AT MOST 1048576: true; the input reads as it did. -/
def wholePlaysUptoRow : OpenClaim := { program := "ytmgpgdahniehnaagreat", sum := "dd2433f6c294014614080e6e58ad2e3998c817cf46e240baee0984108863ab42", func := "cofferdam/cofferdamlaw26.WholePlays", spec := "wholePlays", inPlace := ["math/bits.Add64", "internal/bytealg.IndexByteString", "internal/bytealg.IndexString"], unfollowed := true, recurses := true, named := ["internal/bytealg.MaxLen"], apart := false, narrowed := true }
def WholePlaysUptoSaid : Prop := wholePlaysUptoRow.holds Tryz.pinned (OpenSpec.upto wholePlaysSpec)

/-- 'cofferdamlaw26.WholeRefuses', WHERE WHAT IT READS IS OF BULK AT MOST 1048576: true; the input reads as it did. -/
def wholeRefusesUptoRow : OpenClaim := { program := "ytmgpgdahniehnaagreat", sum := "dd2433f6c294014614080e6e58ad2e3998c817cf46e240baee0984108863ab42", func := "cofferdam/cofferdamlaw26.WholeRefuses", spec := "wholeRefuses", inPlace := ["math/bits.Add64", "internal/bytealg.IndexByteString", "internal/bytealg.IndexString"], unfollowed := true, recurses := true, named := ["internal/bytealg.MaxLen"], apart := false, narrowed := true }
def WholeRefusesUptoSaid : Prop := wholeRefusesUptoRow.holds Tryz.pinned (OpenSpec.upto wholeRefusesSpec)

/-- 'cofferdamlaw26.WholeSplits', WHERE WHAT IT READS IS OF BULK AT MOST 1048576: true; the input reads as it did. -/
def wholeSplitsUptoRow : OpenClaim := { program := "ytmgpgdahniehnaagreat", sum := "dd2433f6c294014614080e6e58ad2e3998c817cf46e240baee0984108863ab42", func := "cofferdam/cofferdamlaw26.WholeSplits", spec := "wholeSplits", inPlace := ["math/bits.Add64", "internal/bytealg.IndexByteString", "internal/bytealg.IndexString"], unfollowed := true, recurses := true, named := ["internal/bytealg.MaxLen"], apart := false, narrowed := true }
def WholeSplitsUptoSaid : Prop := wholeSplitsUptoRow.holds Tryz.pinned (OpenSpec.upto wholeSplitsSpec)

end Rows
end Go.Proofs.YtmgpgdahniehnaaGreat
