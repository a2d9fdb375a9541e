/-
  NARROWER THAN 'FOR EVERY INPUT', by the rows' own cells (each row's printed sentence says how): SourceEvals: loops.
  DERIVED. THE GIVEN ROWS OF THIS SEAT. 8 by the template 'for every input the law returns true; each argument reads behind the call as it read before'; 0 by the template 'total and deterministic' (their statements: YtcpilcplobihkaaTotals.lean).
  GIVEN WITH THE SEED: the statements are not yours to turn. If you find one false, say at which input.
  Laid BY PROGRAM, IN A SANDBOX (cutbox-rows.mjs): the forced cells as the released guide's own fill.sh prints them over the translation 4dc0d43312e7b22f… (all of the seat's roots in one cut). By AI agents, Wed Nov 11 2026. No macro, syntax, notation, axiom, sorry.
-/
import Derived.Test.YtcpilcplobihkaaChecked
import GoSem.Claim
import GoSem.ClaimJoined
import GoSem.ClaimMapViews
import Derived.JoinedTies
import Derived.KernelRfl
namespace Go.Proofs.Ytcpilcplobihkaa
/- THE CELL 'sum', in the pinned program and in every row, IS THE sha256 OF THE DUMP (.gsa) THAT YtcpilcplobihkaaProg.lean LOADS. Nothing in Lean hashes anything: it is a label: what it is worth is what the hold of that sum in a sandbox is worth. -/
noncomputable def Try.pinned : Pinned := { name := "ytcpilcplobihkaa", sum := "4dc0d43312e7b22ffb59d8afcfc672438356af201a1d4dd31ff520b598edd465", checked := Try.checked }
namespace Rows
def none {H : Type} : Left H := { results := [], args := [] }

/-- 'cofferdamlaw11.CheckPrograms': WHATEVER THE INPUT: true; the input reads as it did. -/
def checkProgramsSpec : ChangeSpec := { name := "checkPrograms", fn := fun _ => fun
  | [d] => { results := [.lit (.bool true)], args := [d] }
  | _ => none }
def checkProgramsRow : OpenClaim := { program := "ytcpilcplobihkaa", sum := "4dc0d43312e7b22ffb59d8afcfc672438356af201a1d4dd31ff520b598edd465", func := "cofferdam/cofferdamlaw11.CheckPrograms", spec := "checkPrograms", unfollowed := true, recurses := true, apart := false }
def CheckProgramsSaid : Prop := checkProgramsRow.holds Try.pinned (OpenSpec.ofChange checkProgramsSpec)

/-- ITS FALSE NEIGHBOUR: 'it returns false'. Refute it at one input. -/
def checkProgramsWrong : ChangeSpec := { name := "checkPrograms", fn := fun _ => fun
  | [d] => { results := [.lit (.bool false)], args := [d] }
  | _ => none }
def CheckProgramsWrongFalsely : Prop := checkProgramsRow.holds Try.pinned (OpenSpec.ofChange checkProgramsWrong)

/-- 'cofferdamlaw11.CheckLocals': WHATEVER THE INPUT: true; the input reads as it did. -/
def checkLocalsSpec : ChangeSpec := { name := "checkLocals", fn := fun _ => fun
  | [d] => { results := [.lit (.bool true)], args := [d] }
  | _ => none }
def checkLocalsRow : OpenClaim := { program := "ytcpilcplobihkaa", sum := "4dc0d43312e7b22ffb59d8afcfc672438356af201a1d4dd31ff520b598edd465", func := "cofferdam/cofferdamlaw11.CheckLocals", spec := "checkLocals", unfollowed := true, recurses := true, apart := false }
def CheckLocalsSaid : Prop := checkLocalsRow.holds Try.pinned (OpenSpec.ofChange checkLocalsSpec)

/-- ITS FALSE NEIGHBOUR: 'it returns false'. Refute it at one input. -/
def checkLocalsWrong : ChangeSpec := { name := "checkLocals", fn := fun _ => fun
  | [d] => { results := [.lit (.bool false)], args := [d] }
  | _ => none }
def CheckLocalsWrongFalsely : Prop := checkLocalsRow.holds Try.pinned (OpenSpec.ofChange checkLocalsWrong)

/-- 'cofferdamlaw14.LowerPrograms': WHATEVER THE INPUT: true; the input reads as it did. -/
def lowerProgramsSpec : ChangeSpec := { name := "lowerPrograms", fn := fun _ => fun
  | [d] => { results := [.lit (.bool true)], args := [d] }
  | _ => none }
def lowerProgramsRow : OpenClaim := { program := "ytcpilcplobihkaa", sum := "4dc0d43312e7b22ffb59d8afcfc672438356af201a1d4dd31ff520b598edd465", func := "cofferdam/cofferdamlaw14.LowerPrograms", spec := "lowerPrograms", unfollowed := true, recurses := true, apart := false }
def LowerProgramsSaid : Prop := lowerProgramsRow.holds Try.pinned (OpenSpec.ofChange lowerProgramsSpec)

/-- ITS FALSE NEIGHBOUR: 'it returns false'. Refute it at one input. -/
def lowerProgramsWrong : ChangeSpec := { name := "lowerPrograms", fn := fun _ => fun
  | [d] => { results := [.lit (.bool false)], args := [d] }
  | _ => none }
def LowerProgramsWrongFalsely : Prop := lowerProgramsRow.holds Try.pinned (OpenSpec.ofChange lowerProgramsWrong)

/-- 'cofferdamlaw14.LowerFresh': WHATEVER THE INPUT: true; the input reads as it did. -/
def lowerFreshSpec : ChangeSpec := { name := "lowerFresh", fn := fun _ => fun
  | [d] => { results := [.lit (.bool true)], args := [d] }
  | _ => none }
def lowerFreshRow : OpenClaim := { program := "ytcpilcplobihkaa", sum := "4dc0d43312e7b22ffb59d8afcfc672438356af201a1d4dd31ff520b598edd465", func := "cofferdam/cofferdamlaw14.LowerFresh", spec := "lowerFresh", unfollowed := true, recurses := true, apart := false }
def LowerFreshSaid : Prop := lowerFreshRow.holds Try.pinned (OpenSpec.ofChange lowerFreshSpec)

/-- ITS FALSE NEIGHBOUR: 'it returns false'. Refute it at one input. -/
def lowerFreshWrong : ChangeSpec := { name := "lowerFresh", fn := fun _ => fun
  | [d] => { results := [.lit (.bool false)], args := [d] }
  | _ => none }
def LowerFreshWrongFalsely : Prop := lowerFreshRow.holds Try.pinned (OpenSpec.ofChange lowerFreshWrong)

/-- 'cofferdamlaw19.AssignEnough': WHATEVER THE INPUT: true; the input reads as it did. -/
def assignEnoughSpec : ChangeSpec := { name := "assignEnough", fn := fun _ => fun
  | [d1, d2] => { results := [.lit (.bool true)], args := [d1, d2] }
  | _ => none }
def assignEnoughRow : OpenClaim := { program := "ytcpilcplobihkaa", sum := "4dc0d43312e7b22ffb59d8afcfc672438356af201a1d4dd31ff520b598edd465", func := "cofferdam/cofferdamlaw19.AssignEnough", spec := "assignEnough", unfollowed := true, recurses := true, apart := false }
def AssignEnoughSaid : Prop := assignEnoughRow.holds Try.pinned (OpenSpec.ofChange assignEnoughSpec)

/-- ITS FALSE NEIGHBOUR: 'it returns false'. Refute it at one input. -/
def assignEnoughWrong : ChangeSpec := { name := "assignEnough", fn := fun _ => fun
  | [d1, d2] => { results := [.lit (.bool false)], args := [d1, d2] }
  | _ => none }
def AssignEnoughWrongFalsely : Prop := assignEnoughRow.holds Try.pinned (OpenSpec.ofChange assignEnoughWrong)

/-- 'cofferdamlaw13.SourceEvals': WHATEVER THE INPUT: true; the input reads as it did. -/
def sourceEvalsSpec : ChangeSpec := { name := "sourceEvals", fn := fun _ => fun
  | [d1, d2, d3] => { results := [.lit (.bool true)], args := [d1, d2, d3] }
  | _ => none }
def sourceEvalsRow : OpenClaim := { program := "ytcpilcplobihkaa", sum := "4dc0d43312e7b22ffb59d8afcfc672438356af201a1d4dd31ff520b598edd465", func := "cofferdam/cofferdamlaw13.SourceEvals", spec := "sourceEvals", unfollowed := true, recurses := true, loops := true, apart := false }
def SourceEvalsSaid : Prop := sourceEvalsRow.holds Try.pinned (OpenSpec.ofChange sourceEvalsSpec)

/-- ITS FALSE NEIGHBOUR: 'it returns false'. Refute it at one input. -/
def sourceEvalsWrong : ChangeSpec := { name := "sourceEvals", fn := fun _ => fun
  | [d1, d2, d3] => { results := [.lit (.bool false)], args := [d1, d2, d3] }
  | _ => none }
def SourceEvalsWrongFalsely : Prop := sourceEvalsRow.holds Try.pinned (OpenSpec.ofChange sourceEvalsWrong)

/-- 'cofferdamlaw13.SourceCounts': WHATEVER THE INPUT: true; the input reads as it did. -/
def sourceCountsSpec : ChangeSpec := { name := "sourceCounts", fn := fun _ => fun
  | [d1, d2, d3] => { results := [.lit (.bool true)], args := [d1, d2, d3] }
  | _ => none }
def sourceCountsRow : OpenClaim := { program := "ytcpilcplobihkaa", sum := "4dc0d43312e7b22ffb59d8afcfc672438356af201a1d4dd31ff520b598edd465", func := "cofferdam/cofferdamlaw13.SourceCounts", spec := "sourceCounts", unfollowed := true, recurses := true, apart := false }
def SourceCountsSaid : Prop := sourceCountsRow.holds Try.pinned (OpenSpec.ofChange sourceCountsSpec)

/-- ITS FALSE NEIGHBOUR: 'it returns false'. Refute it at one input. -/
def sourceCountsWrong : ChangeSpec := { name := "sourceCounts", fn := fun _ => fun
  | [d1, d2, d3] => { results := [.lit (.bool false)], args := [d1, d2, d3] }
  | _ => none }
def SourceCountsWrongFalsely : Prop := sourceCountsRow.holds Try.pinned (OpenSpec.ofChange sourceCountsWrong)

/-- 'cofferdamlaw25.JudgeOrders': WHATEVER THE INPUT: true; the input reads as it did. -/
def judgeOrdersSpec : ChangeSpec := { name := "judgeOrders", fn := fun _ => fun
  | [d1, d2] => { results := [.lit (.bool true)], args := [d1, d2] }
  | _ => none }
def judgeOrdersRow : OpenClaim := { program := "ytcpilcplobihkaa", sum := "4dc0d43312e7b22ffb59d8afcfc672438356af201a1d4dd31ff520b598edd465", func := "cofferdam/cofferdamlaw25.JudgeOrders", spec := "judgeOrders", unfollowed := true, recurses := true, apart := false }
def JudgeOrdersSaid : Prop := judgeOrdersRow.holds Try.pinned (OpenSpec.ofChange judgeOrdersSpec)

/-- ITS FALSE NEIGHBOUR: 'it returns false'. Refute it at one input. -/
def judgeOrdersWrong : ChangeSpec := { name := "judgeOrders", fn := fun _ => fun
  | [d1, d2] => { results := [.lit (.bool false)], args := [d1, d2] }
  | _ => none }
def JudgeOrdersWrongFalsely : Prop := judgeOrdersRow.holds Try.pinned (OpenSpec.ofChange judgeOrdersWrong)

/- THE SECOND FORM. 'bulk': how many values and letters a reading holds, each counted each time it is reached (what is shared counts as often as it is met; a slice's spare places count too). A statement '..UptoSaid' is the law's where the arguments, and the package variables that the reading takes, are together of bulk at most 1048576: NARROWER than '..Said'. Prove '..Said' where nothing that the law and all that it calls make is longer than what came in: it says more and counts as full. Else prove '..UptoSaid'. A law counts once. -/
mutual
def uptoBulk {H : Type} : DataW H → Nat
  | .lit (.string bytes) => bytes.length + 1
  | .lit _ => 1
  | .nil => 1
  | .ptr d => uptoBulk d + 1
  | .slice elems spare => uptoBulkAll elems + uptoBulkAll spare + 1
  | .agg parts => uptoBulkAll parts + 1
  | .iface _ d => uptoBulk d + 1
  | .map entries => uptoBulkEntries entries + 1
  | .held _ => 1
def uptoBulkAll {H : Type} : List (DataW H) → Nat
  | [] => 0
  | d :: r => uptoBulk d + uptoBulkAll r
def uptoBulkEntries {H : Type} : List (Lit × DataW H) → Nat
  | [] => 0
  | x :: r => uptoBulkEntry x + uptoBulkEntries r
def uptoBulkEntry {H : Type} : Lit × DataW H → Nat
  | (.string bytes, d) => bytes.length + uptoBulk d + 1
  | (_, d) => uptoBulk d + 1
 end
def uptoSmall : (H : Type) → List (DataW H) → Bool := fun _ ds => decide (uptoBulkAll ds ≤ 1048576)
def OpenSpec.upto (s : _root_.Go.ChangeSpec) : _root_.Go.OpenSpec := { _root_.Go.OpenSpec.ofChange s with cond := some uptoSmall }

/-- 'cofferdamlaw11.CheckPrograms', WHERE WHAT IT READS IS OF BULK AT MOST 1048576: true; the input reads as it did. -/
def checkProgramsUptoRow : OpenClaim := { program := "ytcpilcplobihkaa", sum := "4dc0d43312e7b22ffb59d8afcfc672438356af201a1d4dd31ff520b598edd465", func := "cofferdam/cofferdamlaw11.CheckPrograms", spec := "checkPrograms", unfollowed := true, recurses := true, apart := false, narrowed := true }
def CheckProgramsUptoSaid : Prop := checkProgramsUptoRow.holds Try.pinned (OpenSpec.upto checkProgramsSpec)

/-- 'cofferdamlaw11.CheckLocals', WHERE WHAT IT READS IS OF BULK AT MOST 1048576: true; the input reads as it did. -/
def checkLocalsUptoRow : OpenClaim := { program := "ytcpilcplobihkaa", sum := "4dc0d43312e7b22ffb59d8afcfc672438356af201a1d4dd31ff520b598edd465", func := "cofferdam/cofferdamlaw11.CheckLocals", spec := "checkLocals", unfollowed := true, recurses := true, apart := false, narrowed := true }
def CheckLocalsUptoSaid : Prop := checkLocalsUptoRow.holds Try.pinned (OpenSpec.upto checkLocalsSpec)

/-- 'cofferdamlaw14.LowerPrograms', WHERE WHAT IT READS IS OF BULK AT MOST 1048576: true; the input reads as it did. -/
def lowerProgramsUptoRow : OpenClaim := { program := "ytcpilcplobihkaa", sum := "4dc0d43312e7b22ffb59d8afcfc672438356af201a1d4dd31ff520b598edd465", func := "cofferdam/cofferdamlaw14.LowerPrograms", spec := "lowerPrograms", unfollowed := true, recurses := true, apart := false, narrowed := true }
def LowerProgramsUptoSaid : Prop := lowerProgramsUptoRow.holds Try.pinned (OpenSpec.upto lowerProgramsSpec)

/-- 'cofferdamlaw14.LowerFresh', WHERE WHAT IT READS IS OF BULK AT MOST 1048576: true; the input reads as it did. -/
def lowerFreshUptoRow : OpenClaim := { program := "ytcpilcplobihkaa", sum := "4dc0d43312e7b22ffb59d8afcfc672438356af201a1d4dd31ff520b598edd465", func := "cofferdam/cofferdamlaw14.LowerFresh", spec := "lowerFresh", unfollowed := true, recurses := true, apart := false, narrowed := true }
def LowerFreshUptoSaid : Prop := lowerFreshUptoRow.holds Try.pinned (OpenSpec.upto lowerFreshSpec)

/-- 'cofferdamlaw19.AssignEnough', WHERE WHAT IT READS IS OF BULK AT MOST 1048576: true; the input reads as it did. -/
def assignEnoughUptoRow : OpenClaim := { program := "ytcpilcplobihkaa", sum := "4dc0d43312e7b22ffb59d8afcfc672438356af201a1d4dd31ff520b598edd465", func := "cofferdam/cofferdamlaw19.AssignEnough", spec := "assignEnough", unfollowed := true, recurses := true, apart := false, narrowed := true }
def AssignEnoughUptoSaid : Prop := assignEnoughUptoRow.holds Try.pinned (OpenSpec.upto assignEnoughSpec)

/-- 'cofferdamlaw13.SourceEvals', WHERE WHAT IT READS IS OF BULK AT MOST 1048576: true; the input reads as it did. -/
def sourceEvalsUptoRow : OpenClaim := { program := "ytcpilcplobihkaa", sum := "4dc0d43312e7b22ffb59d8afcfc672438356af201a1d4dd31ff520b598edd465", func := "cofferdam/cofferdamlaw13.SourceEvals", spec := "sourceEvals", unfollowed := true, recurses := true, loops := true, apart := false, narrowed := true }
def SourceEvalsUptoSaid : Prop := sourceEvalsUptoRow.holds Try.pinned (OpenSpec.upto sourceEvalsSpec)

/-- 'cofferdamlaw13.SourceCounts', WHERE WHAT IT READS IS OF BULK AT MOST 1048576: true; the input reads as it did. -/
def sourceCountsUptoRow : OpenClaim := { program := "ytcpilcplobihkaa", sum := "4dc0d43312e7b22ffb59d8afcfc672438356af201a1d4dd31ff520b598edd465", func := "cofferdam/cofferdamlaw13.SourceCounts", spec := "sourceCounts", unfollowed := true, recurses := true, apart := false, narrowed := true }
def SourceCountsUptoSaid : Prop := sourceCountsUptoRow.holds Try.pinned (OpenSpec.upto sourceCountsSpec)

/-- 'cofferdamlaw25.JudgeOrders', WHERE WHAT IT READS IS OF BULK AT MOST 1048576: true; the input reads as it did. -/
def judgeOrdersUptoRow : OpenClaim := { program := "ytcpilcplobihkaa", sum := "4dc0d43312e7b22ffb59d8afcfc672438356af201a1d4dd31ff520b598edd465", func := "cofferdam/cofferdamlaw25.JudgeOrders", spec := "judgeOrders", unfollowed := true, recurses := true, apart := false, narrowed := true }
def JudgeOrdersUptoSaid : Prop := judgeOrdersUptoRow.holds Try.pinned (OpenSpec.upto judgeOrdersSpec)

end Rows
end Go.Proofs.Ytcpilcplobihkaa
