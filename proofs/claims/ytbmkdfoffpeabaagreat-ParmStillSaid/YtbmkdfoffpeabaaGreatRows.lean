/-
  No cell of these rows narrows 'for every input' (looked for: loops, veiled, ifaces, maps, wideKeys, modest, calm, conditions, laid).
  DERIVED. THE GIVEN ROWS OF THIS SEAT. 2 by the template 'for every input the law returns true; each argument reads behind the call as it read before'; 0 by the template 'total and deterministic' (their statements: YtbmkdfoffpeabaaGreatTotals.lean).
  GIVEN WITH THE SEED: the statements are not yours to turn. If you find one false, say at which input.
  Laid BY PROGRAM, IN A SANDBOX (cutbox-rows.mjs): the forced cells as the released guide's own fill.sh prints them over the translation db6fadf4b3d8f638… (all of the seat's roots in one cut). By AI agents, Wed Nov 11 2026. No macro, syntax, notation, axiom, sorry.
-/
import Derived.Test.YtbmkdfoffpeabaaGreatChecked
import GoSem.Claim
import GoSem.ClaimJoined
import GoSem.ClaimMapViews
import Derived.JoinedTies
import Derived.KernelRfl
namespace Go.Proofs.YtbmkdfoffpeabaaGreat
/- THE CELL 'sum', in the pinned program and in every row, IS THE sha256 OF THE DUMP (.gsa) THAT YtbmkdfoffpeabaaGreatProg.lean LOADS. Nothing in Lean hashes anything: it is a label: what it is worth is what the hold of that sum in a sandbox is worth. -/
noncomputable def Tryz.pinned : Pinned := { name := "ytbmkdfoffpeabaagreat", sum := "db6fadf4b3d8f638af9d8a7f5877834f12dc7bbb704cffa82479e92c530431d8", checked := Tryz.checked }
namespace Rows
def none {H : Type} : Left H := { results := [], args := [] }

/-- 'cofferdamlaw7.ParmTold': WHATEVER THE INPUT: true; the input reads as it did. -/
def parmToldSpec : ChangeSpec := { name := "parmTold", fn := fun _ => fun
  | [d] => { results := [.lit (.bool true)], args := [d] }
  | _ => none }
def parmToldRow : OpenClaim := { program := "ytbmkdfoffpeabaagreat", sum := "db6fadf4b3d8f638af9d8a7f5877834f12dc7bbb704cffa82479e92c530431d8", func := "cofferdam/cofferdamlaw7.ParmTold", spec := "parmTold", unfollowed := true, recurses := true, apart := false }
def ParmToldSaid : Prop := parmToldRow.holds Tryz.pinned (OpenSpec.ofChange parmToldSpec)

/-- ITS FALSE NEIGHBOUR: 'it returns false'. Refute it at one input. -/
def parmToldWrong : ChangeSpec := { name := "parmTold", fn := fun _ => fun
  | [d] => { results := [.lit (.bool false)], args := [d] }
  | _ => none }
def ParmToldWrongFalsely : Prop := parmToldRow.holds Tryz.pinned (OpenSpec.ofChange parmToldWrong)

/-- 'cofferdamlaw7.ParmStill': WHATEVER THE INPUT: true; the input reads as it did. -/
def parmStillSpec : ChangeSpec := { name := "parmStill", fn := fun _ => fun
  | [d] => { results := [.lit (.bool true)], args := [d] }
  | _ => none }
def parmStillRow : OpenClaim := { program := "ytbmkdfoffpeabaagreat", sum := "db6fadf4b3d8f638af9d8a7f5877834f12dc7bbb704cffa82479e92c530431d8", func := "cofferdam/cofferdamlaw7.ParmStill", spec := "parmStill", unfollowed := true, recurses := true, apart := false }
def ParmStillSaid : Prop := parmStillRow.holds Tryz.pinned (OpenSpec.ofChange parmStillSpec)

/-- ITS FALSE NEIGHBOUR: 'it returns false'. Refute it at one input. -/
def parmStillWrong : ChangeSpec := { name := "parmStill", fn := fun _ => fun
  | [d] => { results := [.lit (.bool false)], args := [d] }
  | _ => none }
def ParmStillWrongFalsely : Prop := parmStillRow.holds Tryz.pinned (OpenSpec.ofChange parmStillWrong)

/- THE SECOND FORM. 'bulk': how many values and letters a reading holds, each counted each time it is reached (what is shared counts as often as it is met; a slice's spare places count too). A statement '..UptoSaid' is the law's where the arguments, and the package variables that the reading takes, are together of bulk at most 1048576: NARROWER than '..Said'. Prove '..Said' where nothing that the law and all that it calls make is longer than what came in: it says more and counts as full. Else prove '..UptoSaid'. A law counts once. -/
mutual
def uptoBulk {H : Type} : DataW H → Nat
  | .lit (.string bytes) => bytes.length + 1
  | .lit _ => 1
  | .nil => 1
  | .ptr d => uptoBulk d + 1
  | .slice elems spare => uptoBulkAll elems + uptoBulkAll spare + 1
  | .agg parts => uptoBulkAll parts + 1
  | .iface _ d => uptoBulk d + 1
  | .map entries => uptoBulkEntries entries + 1
  | .held _ => 1
def uptoBulkAll {H : Type} : List (DataW H) → Nat
  | [] => 0
  | d :: r => uptoBulk d + uptoBulkAll r
def uptoBulkEntries {H : Type} : List (Lit × DataW H) → Nat
  | [] => 0
  | x :: r => uptoBulkEntry x + uptoBulkEntries r
def uptoBulkEntry {H : Type} : Lit × DataW H → Nat
  | (.string bytes, d) => bytes.length + uptoBulk d + 1
  | (_, d) => uptoBulk d + 1
 end
def uptoSmall : (H : Type) → List (DataW H) → Bool := fun _ ds => decide (uptoBulkAll ds ≤ 1048576)
def OpenSpec.upto (s : _root_.Go.ChangeSpec) : _root_.Go.OpenSpec := { _root_.Go.OpenSpec.ofChange s with cond := some uptoSmall }

/-- 'cofferdamlaw7.ParmTold', WHERE WHAT IT READS IS OF BULK AT MOST 1048576: true; the input reads as it did. -/
def parmToldUptoRow : OpenClaim := { program := "ytbmkdfoffpeabaagreat", sum := "db6fadf4b3d8f638af9d8a7f5877834f12dc7bbb704cffa82479e92c530431d8", func := "cofferdam/cofferdamlaw7.ParmTold", spec := "parmTold", unfollowed := true, recurses := true, apart := false, narrowed := true }
def ParmToldUptoSaid : Prop := parmToldUptoRow.holds Tryz.pinned (OpenSpec.upto parmToldSpec)

/-- 'cofferdamlaw7.ParmStill', WHERE WHAT IT READS IS OF BULK AT MOST 1048576: true; the input reads as it did. -/
def parmStillUptoRow : OpenClaim := { program := "ytbmkdfoffpeabaagreat", sum := "db6fadf4b3d8f638af9d8a7f5877834f12dc7bbb704cffa82479e92c530431d8", func := "cofferdam/cofferdamlaw7.ParmStill", spec := "parmStill", unfollowed := true, recurses := true, apart := false, narrowed := true }
def ParmStillUptoSaid : Prop := parmStillUptoRow.holds Tryz.pinned (OpenSpec.upto parmStillSpec)

end Rows
end Go.Proofs.YtbmkdfoffpeabaaGreat
