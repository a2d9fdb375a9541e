/- The law ParmWeak of the document returns true for every input, and its arguments read bP the call as they read before. No condition. -/
import Derived.Test.YtbmkdfoffpeabaaRows
import Derived.WalkKit
import Derived.ProofKit
import Derived.OpenShut
import Derived.Below
import Derived.ChangeSame
import Derived.HandedShaped
import Derived.Test.YtbmkdfoffpeabaaPwU0
import Derived.Test.YtbmkdfoffpeabaaPwU1
import Derived.Test.YtbmkdfoffpeabaaChecked
import Derived.Test.YtbmkdfoffpeabaaParmWeakFacts
namespace Go.Proofs.Ytbmkdfoffpeabaa.parmWeak
open Nm Go.ChangeShapes Go.WideShapes Go.ChangeAt Go.RowKit
set_option linter.unusedVariables false
theorem own:ownKnob Try.prog.godebug=none:=by kernel_rfl
theorem mixed:Try.prog.follows .mixedOrders=true:=by kernel_rfl
theorem kept:bi FR.code Hw 2000 8 [] (.bool true)=true:=by kernel_rfl
noncomputable def T0:Nat->List NV->Option NV:=aV 8 [] (.bool true) Hw
theorem ok0:aX Try.prog T0:=aK mixed Try.codeOk vS (FR.aL.kept kept)
theorem kept1:bi FR.code T0 2000 27 [.agg [.int .i64 (.lit 0),.int .i64 (.lit 2),.int .i64 (.lit 0),.int .i64 (.lit 0),.int .i64 (.lit 0),.int .i64 (.lit 0),.int .i64 (.lit 4096)]] (.tup [.int .u32 (.lit 3531735042),.int .i64 (.lit 0)])=true:=by kernel_rfl
noncomputable def T1:Nat->List NV->Option NV:=aV 27 [.agg [.int .i64 (.lit 0),.int .i64 (.lit 2),.int .i64 (.lit 0),.int .i64 (.lit 0),.int .i64 (.lit 0),.int .i64 (.lit 0),.int .i64 (.lit 4096)]] (.tup [.int .u32 (.lit 3531735042),.int .i64 (.lit 0)]) T0
theorem ok1:aX Try.prog T1:=aK mixed Try.codeOk ok0 (FR.aL.kept kept1)
theorem kept2:bi FR.code T1 2000 67 [.agg [.int .i64 (.lit 0),.int .i64 (.lit 2),.int .i64 (.lit 0),.int .i64 (.lit 0),.int .i64 (.lit 0),.int .i64 (.lit 0),.int .i64 (.lit 4096)]] (.bool true)=true:=by kernel_rfl
noncomputable def T2:Nat->List NV->Option NV:=aV 67 [.agg [.int .i64 (.lit 0),.int .i64 (.lit 2),.int .i64 (.lit 0),.int .i64 (.lit 0),.int .i64 (.lit 0),.int .i64 (.lit 0),.int .i64 (.lit 4096)]] (.bool true) T1
theorem ok2:aX Try.prog T2:=aK mixed Try.codeOk ok1 (FR.aL.kept kept2)
theorem kept3:bi FR.code T2 2000 39 [.int .u32 (.lit 3531735042)] (.tup [.agg [.int .i64 (.lit 0),.int .i64 (.lit 2),.int .i64 (.lit 0),.int .i64 (.lit 0),.int .i64 (.lit 0),.int .i64 (.lit 0),.int .i64 (.lit 4096)],.int .i64 (.lit 0)])=true:=by kernel_rfl
noncomputable def T3:Nat->List NV->Option NV:=aV 39 [.int .u32 (.lit 3531735042)] (.tup [.agg [.int .i64 (.lit 0),.int .i64 (.lit 2),.int .i64 (.lit 0),.int .i64 (.lit 0),.int .i64 (.lit 0),.int .i64 (.lit 0),.int .i64 (.lit 4096)],.int .i64 (.lit 0)]) T2
theorem ok3:aX Try.prog T3:=aK mixed Try.codeOk ok2 (FR.aL.kept kept3)
theorem kept4:bi FR.code T3 2000 27 [.agg [.int .i64 (.lit 0),.int .i64 (.lit 1),.int .i64 (.lit 0),.int .i64 (.lit 0),.int .i64 (.lit 0),.int .i64 (.lit 0),.int .i64 (.lit 4104)]] (.tup [.int .u32 (.lit 3531735297),.int .i64 (.lit 0)])=true:=by kernel_rfl
noncomputable def T4:Nat->List NV->Option NV:=aV 27 [.agg [.int .i64 (.lit 0),.int .i64 (.lit 1),.int .i64 (.lit 0),.int .i64 (.lit 0),.int .i64 (.lit 0),.int .i64 (.lit 0),.int .i64 (.lit 4104)]] (.tup [.int .u32 (.lit 3531735297),.int .i64 (.lit 0)]) T3
theorem ok4:aX Try.prog T4:=aK mixed Try.codeOk ok3 (FR.aL.kept kept4)
theorem kept5:bi FR.code T4 2000 67 [.agg [.int .i64 (.lit 0),.int .i64 (.lit 1),.int .i64 (.lit 0),.int .i64 (.lit 0),.int .i64 (.lit 0),.int .i64 (.lit 0),.int .i64 (.lit 4104)]] (.bool true)=true:=by kernel_rfl
noncomputable def T5:Nat->List NV->Option NV:=aV 67 [.agg [.int .i64 (.lit 0),.int .i64 (.lit 1),.int .i64 (.lit 0),.int .i64 (.lit 0),.int .i64 (.lit 0),.int .i64 (.lit 0),.int .i64 (.lit 4104)]] (.bool true) T4
theorem ok5:aX Try.prog T5:=aK mixed Try.codeOk ok4 (FR.aL.kept kept5)
theorem kept6:bi FR.code T5 2000 39 [.int .u32 (.lit 3531735297)] (.tup [.agg [.int .i64 (.lit 0),.int .i64 (.lit 1),.int .i64 (.lit 0),.int .i64 (.lit 0),.int .i64 (.lit 0),.int .i64 (.lit 0),.int .i64 (.lit 4104)],.int .i64 (.lit 0)])=true:=by kernel_rfl
noncomputable def T6:Nat->List NV->Option NV:=aV 39 [.int .u32 (.lit 3531735297)] (.tup [.agg [.int .i64 (.lit 0),.int .i64 (.lit 1),.int .i64 (.lit 0),.int .i64 (.lit 0),.int .i64 (.lit 0),.int .i64 (.lit 0),.int .i64 (.lit 4104)],.int .i64 (.lit 0)]) T5
theorem ok6:aX Try.prog T6:=aK mixed Try.codeOk ok5 (FR.aL.kept kept6)
theorem kept7:bi FR.code T6 2000 27 [.agg [.int .i64 (.lit 0),.int .i64 (.lit 2),.int .i64 (.lit 0),.int .i64 (.lit 0),.int .i64 (.lit 0),.int .i64 (.lit 0),.int .i64 (.lit 4104)]] (.tup [.int .u32 (.lit 3531735298),.int .i64 (.lit 0)])=true:=by kernel_rfl
noncomputable def T7:Nat->List NV->Option NV:=aV 27 [.agg [.int .i64 (.lit 0),.int .i64 (.lit 2),.int .i64 (.lit 0),.int .i64 (.lit 0),.int .i64 (.lit 0),.int .i64 (.lit 0),.int .i64 (.lit 4104)]] (.tup [.int .u32 (.lit 3531735298),.int .i64 (.lit 0)]) T6
theorem ok7:aX Try.prog T7:=aK mixed Try.codeOk ok6 (FR.aL.kept kept7)
theorem kept8:bi FR.code T7 2000 67 [.agg [.int .i64 (.lit 0),.int .i64 (.lit 2),.int .i64 (.lit 0),.int .i64 (.lit 0),.int .i64 (.lit 0),.int .i64 (.lit 0),.int .i64 (.lit 4104)]] (.bool true)=true:=by kernel_rfl
noncomputable def T8:Nat->List NV->Option NV:=aV 67 [.agg [.int .i64 (.lit 0),.int .i64 (.lit 2),.int .i64 (.lit 0),.int .i64 (.lit 0),.int .i64 (.lit 0),.int .i64 (.lit 0),.int .i64 (.lit 4104)]] (.bool true) T7
theorem ok8:aX Try.prog T8:=aK mixed Try.codeOk ok7 (FR.aL.kept kept8)
theorem kept9:bi FR.code T8 2000 39 [.int .u32 (.lit 3531735298)] (.tup [.agg [.int .i64 (.lit 0),.int .i64 (.lit 2),.int .i64 (.lit 0),.int .i64 (.lit 0),.int .i64 (.lit 0),.int .i64 (.lit 0),.int .i64 (.lit 4104)],.int .i64 (.lit 0)])=true:=by kernel_rfl
noncomputable def T9:Nat->List NV->Option NV:=aV 39 [.int .u32 (.lit 3531735298)] (.tup [.agg [.int .i64 (.lit 0),.int .i64 (.lit 2),.int .i64 (.lit 0),.int .i64 (.lit 0),.int .i64 (.lit 0),.int .i64 (.lit 0),.int .i64 (.lit 4104)],.int .i64 (.lit 0)]) T8
theorem ok9:aX Try.prog T9:=aK mixed Try.codeOk ok8 (FR.aL.kept kept9)
theorem kept10:bi FR.code T9 2000 27 [.agg [.int .i64 (.lit 0),.int .i64 (.lit 1),.int .i64 (.lit 0),.int .i64 (.lit 0),.int .i64 (.lit 0),.int .i64 (.lit 0),.int .i64 (.lit 4096)]] (.tup [.int .u32 (.lit 3531735041),.int .i64 (.lit 0)])=true:=by kernel_rfl
noncomputable def T10:Nat->List NV->Option NV:=aV 27 [.agg [.int .i64 (.lit 0),.int .i64 (.lit 1),.int .i64 (.lit 0),.int .i64 (.lit 0),.int .i64 (.lit 0),.int .i64 (.lit 0),.int .i64 (.lit 4096)]] (.tup [.int .u32 (.lit 3531735041),.int .i64 (.lit 0)]) T9
theorem ok10:aX Try.prog T10:=aK mixed Try.codeOk ok9 (FR.aL.kept kept10)
theorem kept11:bi FR.code T10 2000 67 [.agg [.int .i64 (.lit 0),.int .i64 (.lit 1),.int .i64 (.lit 0),.int .i64 (.lit 0),.int .i64 (.lit 0),.int .i64 (.lit 0),.int .i64 (.lit 4096)]] (.bool true)=true:=by kernel_rfl
noncomputable def T11:Nat->List NV->Option NV:=aV 67 [.agg [.int .i64 (.lit 0),.int .i64 (.lit 1),.int .i64 (.lit 0),.int .i64 (.lit 0),.int .i64 (.lit 0),.int .i64 (.lit 0),.int .i64 (.lit 4096)]] (.bool true) T10
theorem ok11:aX Try.prog T11:=aK mixed Try.codeOk ok10 (FR.aL.kept kept11)
theorem kept12:bi FR.code T11 2000 39 [.int .u32 (.lit 3531735041)] (.tup [.agg [.int .i64 (.lit 0),.int .i64 (.lit 1),.int .i64 (.lit 0),.int .i64 (.lit 0),.int .i64 (.lit 0),.int .i64 (.lit 0),.int .i64 (.lit 4096)],.int .i64 (.lit 0)])=true:=by kernel_rfl
noncomputable def T12:Nat->List NV->Option NV:=aV 39 [.int .u32 (.lit 3531735041)] (.tup [.agg [.int .i64 (.lit 0),.int .i64 (.lit 1),.int .i64 (.lit 0),.int .i64 (.lit 0),.int .i64 (.lit 0),.int .i64 (.lit 0),.int .i64 (.lit 4096)],.int .i64 (.lit 0)]) T11
theorem ok12:aX Try.prog T12:=aK mixed Try.codeOk ok11 (FR.aL.kept kept12)
theorem kept13:bi FR.code T12 2000 27 [.agg [.int .i64 (.lit 0),.int .i64 (.lit 3),.int .i64 (.lit 0),.int .i64 (.lit 0),.int .i64 (.lit 0),.int .i64 (.lit 0),.int .i64 (.lit 1)]] (.tup [.int .u32 (.lit 3531604003),.int .i64 (.lit 0)])=true:=by kernel_rfl
noncomputable def T13:Nat->List NV->Option NV:=aV 27 [.agg [.int .i64 (.lit 0),.int .i64 (.lit 3),.int .i64 (.lit 0),.int .i64 (.lit 0),.int .i64 (.lit 0),.int .i64 (.lit 0),.int .i64 (.lit 1)]] (.tup [.int .u32 (.lit 3531604003),.int .i64 (.lit 0)]) T12
theorem ok13:aX Try.prog T13:=aK mixed Try.codeOk ok12 (FR.aL.kept kept13)
theorem kept14:bi FR.code T13 2000 67 [.agg [.int .i64 (.lit 0),.int .i64 (.lit 3),.int .i64 (.lit 0),.int .i64 (.lit 0),.int .i64 (.lit 0),.int .i64 (.lit 0),.int .i64 (.lit 1)]] (.bool true)=true:=by kernel_rfl
noncomputable def T14:Nat->List NV->Option NV:=aV 67 [.agg [.int .i64 (.lit 0),.int .i64 (.lit 3),.int .i64 (.lit 0),.int .i64 (.lit 0),.int .i64 (.lit 0),.int .i64 (.lit 0),.int .i64 (.lit 1)]] (.bool true) T13
theorem ok14:aX Try.prog T14:=aK mixed Try.codeOk ok13 (FR.aL.kept kept14)
theorem kept15:bi FR.code T14 2000 39 [.int .u32 (.lit 3531604003)] (.tup [.agg [.int .i64 (.lit 0),.int .i64 (.lit 3),.int .i64 (.lit 0),.int .i64 (.lit 0),.int .i64 (.lit 0),.int .i64 (.lit 0),.int .i64 (.lit 1)],.int .i64 (.lit 0)])=true:=by kernel_rfl
noncomputable def T15:Nat->List NV->Option NV:=aV 39 [.int .u32 (.lit 3531604003)] (.tup [.agg [.int .i64 (.lit 0),.int .i64 (.lit 3),.int .i64 (.lit 0),.int .i64 (.lit 0),.int .i64 (.lit 0),.int .i64 (.lit 0),.int .i64 (.lit 1)],.int .i64 (.lit 0)]) T14
theorem ok15:aX Try.prog T15:=aK mixed Try.codeOk ok14 (FR.aL.kept kept15)
theorem kept16:bi FR.code T15 2000 27 [.agg [.int .i64 (.lit 13),.int .i64 (.lit 3),.int .i64 (.lit 1),.int .i64 (.lit 0),.int .i64 (.lit 0),.int .i64 (.lit 0),.int .i64 (.lit 0)]] (.tup [.int .u32 (.lit 4177526819),.int .i64 (.lit 0)])=true:=by kernel_rfl
noncomputable def T16:Nat->List NV->Option NV:=aV 27 [.agg [.int .i64 (.lit 13),.int .i64 (.lit 3),.int .i64 (.lit 1),.int .i64 (.lit 0),.int .i64 (.lit 0),.int .i64 (.lit 0),.int .i64 (.lit 0)]] (.tup [.int .u32 (.lit 4177526819),.int .i64 (.lit 0)]) T15
theorem ok16:aX Try.prog T16:=aK mixed Try.codeOk ok15 (FR.aL.kept kept16)
theorem kept17:bi FR.code T16 2000 67 [.agg [.int .i64 (.lit 13),.int .i64 (.lit 3),.int .i64 (.lit 1),.int .i64 (.lit 0),.int .i64 (.lit 0),.int .i64 (.lit 0),.int .i64 (.lit 0)]] (.bool true)=true:=by kernel_rfl
noncomputable def T17:Nat->List NV->Option NV:=aV 67 [.agg [.int .i64 (.lit 13),.int .i64 (.lit 3),.int .i64 (.lit 1),.int .i64 (.lit 0),.int .i64 (.lit 0),.int .i64 (.lit 0),.int .i64 (.lit 0)]] (.bool true) T16
theorem ok17:aX Try.prog T17:=aK mixed Try.codeOk ok16 (FR.aL.kept kept17)
theorem kept18:bi FR.code T17 2000 39 [.int .u32 (.lit 4177526819)] (.tup [.agg [.int .i64 (.lit 13),.int .i64 (.lit 3),.int .i64 (.lit 1),.int .i64 (.lit 0),.int .i64 (.lit 0),.int .i64 (.lit 0),.int .i64 (.lit 0)],.int .i64 (.lit 0)])=true:=by kernel_rfl
noncomputable def T18:Nat->List NV->Option NV:=aV 39 [.int .u32 (.lit 4177526819)] (.tup [.agg [.int .i64 (.lit 13),.int .i64 (.lit 3),.int .i64 (.lit 1),.int .i64 (.lit 0),.int .i64 (.lit 0),.int .i64 (.lit 0),.int .i64 (.lit 0)],.int .i64 (.lit 0)]) T17
theorem ok18:aX Try.prog T18:=aK mixed Try.codeOk ok17 (FR.aL.kept kept18)
theorem kept19:bi FR.code T18 2000 27 [.agg [.int .i64 (.lit 12),.int .i64 (.lit 0),.int .i64 (.lit 2),.int .i64 (.lit 0),.int .i64 (.lit 0),.int .i64 (.lit 0),.int .i64 (.lit 0)]] (.tup [.int .u32 (.lit 4181721152),.int .i64 (.lit 0)])=true:=by kernel_rfl
noncomputable def T19:Nat->List NV->Option NV:=aV 27 [.agg [.int .i64 (.lit 12),.int .i64 (.lit 0),.int .i64 (.lit 2),.int .i64 (.lit 0),.int .i64 (.lit 0),.int .i64 (.lit 0),.int .i64 (.lit 0)]] (.tup [.int .u32 (.lit 4181721152),.int .i64 (.lit 0)]) T18
theorem ok19:aX Try.prog T19:=aK mixed Try.codeOk ok18 (FR.aL.kept kept19)
theorem kept20:bi FR.code T19 2000 67 [.agg [.int .i64 (.lit 12),.int .i64 (.lit 0),.int .i64 (.lit 2),.int .i64 (.lit 0),.int .i64 (.lit 0),.int .i64 (.lit 0),.int .i64 (.lit 0)]] (.bool true)=true:=by kernel_rfl
noncomputable def T20:Nat->List NV->Option NV:=aV 67 [.agg [.int .i64 (.lit 12),.int .i64 (.lit 0),.int .i64 (.lit 2),.int .i64 (.lit 0),.int .i64 (.lit 0),.int .i64 (.lit 0),.int .i64 (.lit 0)]] (.bool true) T19
theorem ok20:aX Try.prog T20:=aK mixed Try.codeOk ok19 (FR.aL.kept kept20)
theorem kept21:bi FR.code T20 2000 39 [.int .u32 (.lit 4181721152)] (.tup [.agg [.int .i64 (.lit 12),.int .i64 (.lit 0),.int .i64 (.lit 2),.int .i64 (.lit 0),.int .i64 (.lit 0),.int .i64 (.lit 0),.int .i64 (.lit 0)],.int .i64 (.lit 0)])=true:=by kernel_rfl
noncomputable def T21:Nat->List NV->Option NV:=aV 39 [.int .u32 (.lit 4181721152)] (.tup [.agg [.int .i64 (.lit 12),.int .i64 (.lit 0),.int .i64 (.lit 2),.int .i64 (.lit 0),.int .i64 (.lit 0),.int .i64 (.lit 0),.int .i64 (.lit 0)],.int .i64 (.lit 0)]) T20
theorem ok21:aX Try.prog T21:=aK mixed Try.codeOk ok20 (FR.aL.kept kept21)
theorem kept22:bi FR.code T21 2000 27 [.agg [.int .i64 (.lit 18),.int .i64 (.lit 0),.int .i64 (.lit 0),.int .i64 (.lit 0),.int .i64 (.lit 0),.int .i64 (.lit 0),.int .i64 (.lit 0)]] (.tup [.int .u32 (.lit 3573758911),.int .i64 (.lit 0)])=true:=by kernel_rfl
noncomputable def T22:Nat->List NV->Option NV:=aV 27 [.agg [.int .i64 (.lit 18),.int .i64 (.lit 0),.int .i64 (.lit 0),.int .i64 (.lit 0),.int .i64 (.lit 0),.int .i64 (.lit 0),.int .i64 (.lit 0)]] (.tup [.int .u32 (.lit 3573758911),.int .i64 (.lit 0)]) T21
theorem ok22:aX Try.prog T22:=aK mixed Try.codeOk ok21 (FR.aL.kept kept22)
theorem kept23:bi FR.code T22 2000 67 [.agg [.int .i64 (.lit 18),.int .i64 (.lit 0),.int .i64 (.lit 0),.int .i64 (.lit 0),.int .i64 (.lit 0),.int .i64 (.lit 0),.int .i64 (.lit 0)]] (.bool true)=true:=by kernel_rfl
noncomputable def T23:Nat->List NV->Option NV:=aV 67 [.agg [.int .i64 (.lit 18),.int .i64 (.lit 0),.int .i64 (.lit 0),.int .i64 (.lit 0),.int .i64 (.lit 0),.int .i64 (.lit 0),.int .i64 (.lit 0)]] (.bool true) T22
theorem ok23:aX Try.prog T23:=aK mixed Try.codeOk ok22 (FR.aL.kept kept23)
theorem kept24:bi FR.code T23 2000 39 [.int .u32 (.lit 3573758911)] (.tup [.agg [.int .i64 (.lit 18),.int .i64 (.lit 0),.int .i64 (.lit 0),.int .i64 (.lit 0),.int .i64 (.lit 0),.int .i64 (.lit 0),.int .i64 (.lit 0)],.int .i64 (.lit 0)])=true:=by kernel_rfl
noncomputable def T24:Nat->List NV->Option NV:=aV 39 [.int .u32 (.lit 3573758911)] (.tup [.agg [.int .i64 (.lit 18),.int .i64 (.lit 0),.int .i64 (.lit 0),.int .i64 (.lit 0),.int .i64 (.lit 0),.int .i64 (.lit 0),.int .i64 (.lit 0)],.int .i64 (.lit 0)]) T23
theorem ok24:aX Try.prog T24:=aK mixed Try.codeOk ok23 (FR.aL.kept kept24)
theorem kept25:bi FR.code T24 2000 27 [.agg [.int .i64 (.lit 23),.int .i64 (.lit 0),.int .i64 (.lit 0),.int .i64 (.lit 0),.int .i64 (.lit 0),.int .i64 (.lit 0),.int .i64 (.lit 0)]] (.tup [.int .u32 (.lit 3556769793),.int .i64 (.lit 0)])=true:=by kernel_rfl
noncomputable def T25:Nat->List NV->Option NV:=aV 27 [.agg [.int .i64 (.lit 23),.int .i64 (.lit 0),.int .i64 (.lit 0),.int .i64 (.lit 0),.int .i64 (.lit 0),.int .i64 (.lit 0),.int .i64 (.lit 0)]] (.tup [.int .u32 (.lit 3556769793),.int .i64 (.lit 0)]) T24
theorem ok25:aX Try.prog T25:=aK mixed Try.codeOk ok24 (FR.aL.kept kept25)
theorem kept26:bi FR.code T25 2000 67 [.agg [.int .i64 (.lit 23),.int .i64 (.lit 0),.int .i64 (.lit 0),.int .i64 (.lit 0),.int .i64 (.lit 0),.int .i64 (.lit 0),.int .i64 (.lit 0)]] (.bool true)=true:=by kernel_rfl
noncomputable def T26:Nat->List NV->Option NV:=aV 67 [.agg [.int .i64 (.lit 23),.int .i64 (.lit 0),.int .i64 (.lit 0),.int .i64 (.lit 0),.int .i64 (.lit 0),.int .i64 (.lit 0),.int .i64 (.lit 0)]] (.bool true) T25
theorem ok26:aX Try.prog T26:=aK mixed Try.codeOk ok25 (FR.aL.kept kept26)
theorem kept27:bi FR.code T26 2000 39 [.int .u32 (.lit 3556769793)] (.tup [.agg [.int .i64 (.lit 23),.int .i64 (.lit 0),.int .i64 (.lit 0),.int .i64 (.lit 0),.int .i64 (.lit 0),.int .i64 (.lit 0),.int .i64 (.lit 0)],.int .i64 (.lit 0)])=true:=by kernel_rfl
noncomputable def T27:Nat->List NV->Option NV:=aV 39 [.int .u32 (.lit 3556769793)] (.tup [.agg [.int .i64 (.lit 23),.int .i64 (.lit 0),.int .i64 (.lit 0),.int .i64 (.lit 0),.int .i64 (.lit 0),.int .i64 (.lit 0),.int .i64 (.lit 0)],.int .i64 (.lit 0)]) T26
theorem ok27:aX Try.prog T27:=aK mixed Try.codeOk ok26 (FR.aL.kept kept27)
theorem kept28:bi FR.code T27 2000 27 [.agg [.int .i64 (.lit 22),.int .i64 (.lit 0),.int .i64 (.lit 0),.int .i64 (.lit 0),.int .i64 (.lit 0),.int .i64 (.lit 0),.int .i64 (.lit 0)]] (.tup [.int .u32 (.lit 3560964096),.int .i64 (.lit 0)])=true:=by kernel_rfl
noncomputable def T28:Nat->List NV->Option NV:=aV 27 [.agg [.int .i64 (.lit 22),.int .i64 (.lit 0),.int .i64 (.lit 0),.int .i64 (.lit 0),.int .i64 (.lit 0),.int .i64 (.lit 0),.int .i64 (.lit 0)]] (.tup [.int .u32 (.lit 3560964096),.int .i64 (.lit 0)]) T27
theorem ok28:aX Try.prog T28:=aK mixed Try.codeOk ok27 (FR.aL.kept kept28)
theorem kept29:bi FR.code T28 2000 67 [.agg [.int .i64 (.lit 22),.int .i64 (.lit 0),.int .i64 (.lit 0),.int .i64 (.lit 0),.int .i64 (.lit 0),.int .i64 (.lit 0),.int .i64 (.lit 0)]] (.bool true)=true:=by kernel_rfl
noncomputable def T29:Nat->List NV->Option NV:=aV 67 [.agg [.int .i64 (.lit 22),.int .i64 (.lit 0),.int .i64 (.lit 0),.int .i64 (.lit 0),.int .i64 (.lit 0),.int .i64 (.lit 0),.int .i64 (.lit 0)]] (.bool true) T28
theorem ok29:aX Try.prog T29:=aK mixed Try.codeOk ok28 (FR.aL.kept kept29)
theorem kept30:bi FR.code T29 2000 39 [.int .u32 (.lit 3560964096)] (.tup [.agg [.int .i64 (.lit 22),.int .i64 (.lit 0),.int .i64 (.lit 0),.int .i64 (.lit 0),.int .i64 (.lit 0),.int .i64 (.lit 0),.int .i64 (.lit 0)],.int .i64 (.lit 0)])=true:=by kernel_rfl
noncomputable def T30:Nat->List NV->Option NV:=aV 39 [.int .u32 (.lit 3560964096)] (.tup [.agg [.int .i64 (.lit 22),.int .i64 (.lit 0),.int .i64 (.lit 0),.int .i64 (.lit 0),.int .i64 (.lit 0),.int .i64 (.lit 0),.int .i64 (.lit 0)],.int .i64 (.lit 0)]) T29
theorem ok30:aX Try.prog T30:=aK mixed Try.codeOk ok29 (FR.aL.kept kept30)
theorem tabOK:aX Try.prog FR.S0:=ok30
theorem kinds:rz Try.prog [3,4,22,31]=true:=by kernel_rfl
theorem laid:laidOutB Try.prog=true:=by kernel_rfl
theorem starts:IH ((begin Try.prog (fun _ _=>0) default).world.heap[Try.prog.globals.size]?)=true:=by kernel_rfl
theorem read4:Try.prog.readableRec 4=true/\4<Try.prog.types.size:=⟨by kernel_rfl,of_decide_eq_true (by kernel_rfl)⟩
theorem read22:Try.prog.readableRec 22=true/\22<Try.prog.types.size:=⟨by kernel_rfl,of_decide_eq_true (by kernel_rfl)⟩
section
variable {H:Type} {enc:TypeId×Value->H} {P:Program}
theorem post_below {f:Func} {s:ChangeSpec} {apart fresh handsOn again:Bool} {W W':World} {args:Array Value} {v:Value} {ds gs:List (DataW H)} {before pa pv:List MemPlace}
 (hW:DataW.Whole enc P f.params.toList s.vars apart W args.toList ds gs before)
 (hres:∀(b:Nat) (sp:Nat->Bool) (hd:Bool),DataW.TrodAll enc P W' b sp hd f.resultTypes.toList (v.resultList f.resultTypes.size) (s.fn H (ds++gs)).results [])
 (hargs:∀sp:Nat->Bool,(∀p∈before,sp p.block=true)->DataW.TrodAll enc P W' 0 sp true f.params.toList args.toList (s.fn H (ds++gs)).args pa)
 (hvars:∀sp:Nat->Bool,(∀p∈before,sp p.block=true)->DataW.TrodVars enc P W' sp s.vars (s.fn H (ds++gs)).vars pv)
 (hps:before=pa++pv) (hb:Below W.heap.size W W')
 (hok:∀(j:Nat) (t:TypeId) (r:Value),f.resultTypes[j]? =some t->(v.resultList f.resultTypes.size)[j]? =some r->Value.okWide P W' .any 0 t r):
 s.post enc P f apart fresh handsOn again W args v W':=by
 have hlt:∀p∈before,p.block<W.heap.size:=fun p hp=>hW.lt p hp
 have hold:∀p∈before,(fun b=>decide (b<W.heap.size)) p.block=true:=fun p hp=>by simpa using hlt p hp
 refine ⟨ds,gs,before, [],pa,pv,hW,hres _ _ _,hargs _ hold,hvars _ hold,World.keptBut_mono (fun p hp=>⟨hp, ?_⟩) (hb.frame (·∈before)),fun _=> ?_⟩
 ·rw[hps,List.mem_append] at hp
  exact Or.inr hp
 ·obtain ⟨_,_,_,_,_,hz,hn⟩:=hW
  refine ⟨hok,_,_,([]++pa)++pv,⟨[]++pa,pv,trodAll_append (hargs _ (fun _ _=>rfl)) (hres _ _ _),hvars _ (fun _ _=>rfl),rfl, ?_, ?_⟩, ?_⟩
  ·intro b off hp
   have hin:MemPlace.cell b off∈before:=by rw[hps];simpa using hp
   rw[hb.frozen (hlt _ hin)]
   exact hz b off hin
  ·intro ha
   have:=hn ha
   rw[hps] at this
   simpa using this
  ·intro p hp _
   rw[hps]
   simpa using hp
end
set_option maxRecDepth 100000 in
theorem lifted (os:Os) (started:os.Started) (H:Type) (enc:TypeId×Value->H):
 ReturnsInHanded {} Try.checked os 3 .any (Rows.parmWeakSpec.pre6 enc Try.prog Try.f3 Rows.parmWeakRow.domain false) (Rows.parmWeakSpec.post enc Try.prog Try.f3 false true false false):=by
 refine returnsInHanded_of_change_shaped (C:=Try.checked) own started (by kernel_rfl) Try.func3
  (ChangeSpec.witness6 (enc:=enc) (C:=Try.checked) false ⟨#[],#[.bool false,.slice none 0 0], []⟩ 8 (by kernel_rfl) (by kernel_rfl) (by kernel_rfl) (by kernel_rfl)) ?_
 intro W base args ds gs before hval0 hW hcnd _ hshape _
 have hval:∀(j:Nat) t v,Try.f3.params[j]? =some t->args[j]? =some v->Value.okWide Try.prog W .any base t v:=hval0
 have hW':=hW
 obtain ⟨p,q,hA0,hV,rfl,hfz,hnd⟩:=hW
 have hA:DataW.TrodAll enc Try.prog W 0 (fun _=>true) true Try.f3.params.toList args.toList ds p:=hA0
 rw[Try.params3] at hA hval
 have hlt:∀x∈p,x.block<W.heap.size:=fun x hx=>hW'.lt x (List.mem_append_left _ hx)
 obtain ⟨rfl,rfl⟩:=trodVars_none hV
 have hdl:ds.length=2:=oC hA
 obtain ⟨d0,d1,rfl⟩:∃d0 d1,ds= [d0,d1]:=by
  match ds,hdl with
  | [d0,d1],_=>exact ⟨d0,d1,rfl⟩
 have hc:=tV mixed Try.codeOk tabOK kinds FR.qM (fun _=>rfl) (ts:= [4,22]) (fun t ht=>by
  simp only[List.mem_cons,List.not_mem_nil,or_false] at ht
  rcases ht with rfl|rfl
  ·simp
  ·simp
 ) FR.parmWeak (pr starts hshape) hA fun j t v h1 h2=>hval j t v (by simpa using h1) (by simpa using h2)
 rw[show args.toList.toArray=args from Array.toArray_toList] at hc
 simp only[List.append_nil] at hW'
 refine hc.mono fun e W' ⟨he,hg⟩=> ?_
 subst he
 refine ⟨_,rfl,post_below (pa:=p) (pv:= []) hW' (fun _ _ _=>(trodAll_cons_mk (shut_bool Try.underlying4 _) trodAll_mk0)) (fun sp hsp=> ?_) (fun _ _=>rfl) (List.append_nil _).symm hg (ok_one (by kernel_rfl) rfl (okWide_bool_mk Try.underlying4 _))⟩
 have hsp:∀x∈p,sp x.block=true:=hsp
 show DataW.TrodAll enc Try.prog W' 0 sp true Try.f3.params.toList args.toList [d0,d1] p
 rw[Try.params3]
 exact lU laid hg _ _ _ _ (fun t ht=>by
  simp only[List.mem_cons,List.not_mem_nil,or_false] at ht
  rcases ht with rfl|rfl
  ·exact read4
  ·exact read22
 ) hA hlt hsp
theorem over:Rows.parmWeakRow.holds Try.pinned (OpenSpec.ofChange Rows.parmWeakSpec):=
 OpenClaim.holds_of_wide 3 Try.f3 rfl rfl rfl rfl rfl rfl rfl ⟨rfl,rfl,rfl,rfl,rfl⟩ rfl rfl rfl rfl rfl (by kernel_rfl) Try.func3 facts
  (of_decide_eq_true (by kernel_rfl)) (by unfold Func.isWrapper;first|(rw[if_pos (by decide+kernel)];kernel_rfl)|(rw[if_neg (by decide+kernel)];exact ⟨rfl,rfl⟩))
  (fun os started H enc _=>lifted os started H enc)
theorem proved:Rows.ParmWeakSaid:=
 over
#print axioms proved
end Go.Proofs.Ytbmkdfoffpeabaa.parmWeak
