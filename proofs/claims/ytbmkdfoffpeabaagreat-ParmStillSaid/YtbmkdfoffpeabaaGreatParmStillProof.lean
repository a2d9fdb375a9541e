/- The law ParmStill of the document returns true for every input, and its arguments read bN the call as they read before. No condition. -/
import Derived.Test.YtbmkdfoffpeabaaGreatRows
import Derived.WalkKit
import Derived.ProofKit
import Derived.OpenShut
import Derived.Below
import Derived.ChangeSame
import Derived.HandedShaped
import Derived.Test.YtbmkdfoffpeabaaGreatPsU0
import Derived.Test.YtbmkdfoffpeabaaGreatChecked
import Derived.Test.YtbmkdfoffpeabaaGreatParmStillFacts
namespace Go.Proofs.YtbmkdfoffpeabaaGreat.parmStill
open Nm Go.ChangeShapes Go.WideShapes Go.ChangeAt Go.RowKit
set_option linter.unusedVariables false
theorem own:ownKnob Tryz.prog.godebug=none:=by kernel_rfl
theorem mixed:Tryz.prog.follows .mixedOrders=true:=by kernel_rfl
theorem kept:bg FR.code Hr 2000 5 [] (.bool true)=true:=by kernel_rfl
noncomputable def T0:Nat->List NV->Option NV:=aV 5 [] (.bool true) Hr
theorem ok0:aX Tryz.prog T0:=aL mixed Tryz.codeOk vu (FR.aM.kept kept)
theorem kept1:bg FR.code T0 2000 36 [.agg [.int .i64 (.lit 0),.int .i64 (.lit 2),.int .i64 (.lit 0),.int .i64 (.lit 0),.int .i64 (.lit 0),.int .i64 (.lit 0),.int .i64 (.lit 4096)]] (.tup [.int .u32 (.lit 3531735042),.int .i64 (.lit 0)])=true:=by kernel_rfl
noncomputable def T1:Nat->List NV->Option NV:=aV 36 [.agg [.int .i64 (.lit 0),.int .i64 (.lit 2),.int .i64 (.lit 0),.int .i64 (.lit 0),.int .i64 (.lit 0),.int .i64 (.lit 0),.int .i64 (.lit 4096)]] (.tup [.int .u32 (.lit 3531735042),.int .i64 (.lit 0)]) T0
theorem ok1:aX Tryz.prog T1:=aL mixed Tryz.codeOk ok0 (FR.aM.kept kept1)
theorem kept2:bg FR.code T1 2000 63 [.agg [.int .i64 (.lit 0),.int .i64 (.lit 2),.int .i64 (.lit 0),.int .i64 (.lit 0),.int .i64 (.lit 0),.int .i64 (.lit 0),.int .i64 (.lit 4096)]] (.bool true)=true:=by kernel_rfl
noncomputable def T2:Nat->List NV->Option NV:=aV 63 [.agg [.int .i64 (.lit 0),.int .i64 (.lit 2),.int .i64 (.lit 0),.int .i64 (.lit 0),.int .i64 (.lit 0),.int .i64 (.lit 0),.int .i64 (.lit 4096)]] (.bool true) T1
theorem ok2:aX Tryz.prog T2:=aL mixed Tryz.codeOk ok1 (FR.aM.kept kept2)
theorem kept3:bg FR.code T2 2000 42 [.int .u32 (.lit 3531735042)] (.tup [.agg [.int .i64 (.lit 0),.int .i64 (.lit 2),.int .i64 (.lit 0),.int .i64 (.lit 0),.int .i64 (.lit 0),.int .i64 (.lit 0),.int .i64 (.lit 4096)],.int .i64 (.lit 0)])=true:=by kernel_rfl
noncomputable def T3:Nat->List NV->Option NV:=aV 42 [.int .u32 (.lit 3531735042)] (.tup [.agg [.int .i64 (.lit 0),.int .i64 (.lit 2),.int .i64 (.lit 0),.int .i64 (.lit 0),.int .i64 (.lit 0),.int .i64 (.lit 0),.int .i64 (.lit 4096)],.int .i64 (.lit 0)]) T2
theorem ok3:aX Tryz.prog T3:=aL mixed Tryz.codeOk ok2 (FR.aM.kept kept3)
theorem kept4:bg FR.code T3 2000 36 [.agg [.int .i64 (.lit 0),.int .i64 (.lit 1),.int .i64 (.lit 0),.int .i64 (.lit 0),.int .i64 (.lit 0),.int .i64 (.lit 0),.int .i64 (.lit 4104)]] (.tup [.int .u32 (.lit 3531735297),.int .i64 (.lit 0)])=true:=by kernel_rfl
noncomputable def T4:Nat->List NV->Option NV:=aV 36 [.agg [.int .i64 (.lit 0),.int .i64 (.lit 1),.int .i64 (.lit 0),.int .i64 (.lit 0),.int .i64 (.lit 0),.int .i64 (.lit 0),.int .i64 (.lit 4104)]] (.tup [.int .u32 (.lit 3531735297),.int .i64 (.lit 0)]) T3
theorem ok4:aX Tryz.prog T4:=aL mixed Tryz.codeOk ok3 (FR.aM.kept kept4)
theorem kept5:bg FR.code T4 2000 63 [.agg [.int .i64 (.lit 0),.int .i64 (.lit 1),.int .i64 (.lit 0),.int .i64 (.lit 0),.int .i64 (.lit 0),.int .i64 (.lit 0),.int .i64 (.lit 4104)]] (.bool true)=true:=by kernel_rfl
noncomputable def T5:Nat->List NV->Option NV:=aV 63 [.agg [.int .i64 (.lit 0),.int .i64 (.lit 1),.int .i64 (.lit 0),.int .i64 (.lit 0),.int .i64 (.lit 0),.int .i64 (.lit 0),.int .i64 (.lit 4104)]] (.bool true) T4
theorem ok5:aX Tryz.prog T5:=aL mixed Tryz.codeOk ok4 (FR.aM.kept kept5)
theorem kept6:bg FR.code T5 2000 42 [.int .u32 (.lit 3531735297)] (.tup [.agg [.int .i64 (.lit 0),.int .i64 (.lit 1),.int .i64 (.lit 0),.int .i64 (.lit 0),.int .i64 (.lit 0),.int .i64 (.lit 0),.int .i64 (.lit 4104)],.int .i64 (.lit 0)])=true:=by kernel_rfl
noncomputable def T6:Nat->List NV->Option NV:=aV 42 [.int .u32 (.lit 3531735297)] (.tup [.agg [.int .i64 (.lit 0),.int .i64 (.lit 1),.int .i64 (.lit 0),.int .i64 (.lit 0),.int .i64 (.lit 0),.int .i64 (.lit 0),.int .i64 (.lit 4104)],.int .i64 (.lit 0)]) T5
theorem ok6:aX Tryz.prog T6:=aL mixed Tryz.codeOk ok5 (FR.aM.kept kept6)
theorem kept7:bg FR.code T6 2000 36 [.agg [.int .i64 (.lit 0),.int .i64 (.lit 2),.int .i64 (.lit 0),.int .i64 (.lit 0),.int .i64 (.lit 0),.int .i64 (.lit 0),.int .i64 (.lit 4104)]] (.tup [.int .u32 (.lit 3531735298),.int .i64 (.lit 0)])=true:=by kernel_rfl
noncomputable def T7:Nat->List NV->Option NV:=aV 36 [.agg [.int .i64 (.lit 0),.int .i64 (.lit 2),.int .i64 (.lit 0),.int .i64 (.lit 0),.int .i64 (.lit 0),.int .i64 (.lit 0),.int .i64 (.lit 4104)]] (.tup [.int .u32 (.lit 3531735298),.int .i64 (.lit 0)]) T6
theorem ok7:aX Tryz.prog T7:=aL mixed Tryz.codeOk ok6 (FR.aM.kept kept7)
theorem kept8:bg FR.code T7 2000 63 [.agg [.int .i64 (.lit 0),.int .i64 (.lit 2),.int .i64 (.lit 0),.int .i64 (.lit 0),.int .i64 (.lit 0),.int .i64 (.lit 0),.int .i64 (.lit 4104)]] (.bool true)=true:=by kernel_rfl
noncomputable def T8:Nat->List NV->Option NV:=aV 63 [.agg [.int .i64 (.lit 0),.int .i64 (.lit 2),.int .i64 (.lit 0),.int .i64 (.lit 0),.int .i64 (.lit 0),.int .i64 (.lit 0),.int .i64 (.lit 4104)]] (.bool true) T7
theorem ok8:aX Tryz.prog T8:=aL mixed Tryz.codeOk ok7 (FR.aM.kept kept8)
theorem kept9:bg FR.code T8 2000 42 [.int .u32 (.lit 3531735298)] (.tup [.agg [.int .i64 (.lit 0),.int .i64 (.lit 2),.int .i64 (.lit 0),.int .i64 (.lit 0),.int .i64 (.lit 0),.int .i64 (.lit 0),.int .i64 (.lit 4104)],.int .i64 (.lit 0)])=true:=by kernel_rfl
noncomputable def T9:Nat->List NV->Option NV:=aV 42 [.int .u32 (.lit 3531735298)] (.tup [.agg [.int .i64 (.lit 0),.int .i64 (.lit 2),.int .i64 (.lit 0),.int .i64 (.lit 0),.int .i64 (.lit 0),.int .i64 (.lit 0),.int .i64 (.lit 4104)],.int .i64 (.lit 0)]) T8
theorem ok9:aX Tryz.prog T9:=aL mixed Tryz.codeOk ok8 (FR.aM.kept kept9)
theorem kept10:bg FR.code T9 2000 36 [.agg [.int .i64 (.lit 0),.int .i64 (.lit 1),.int .i64 (.lit 0),.int .i64 (.lit 0),.int .i64 (.lit 0),.int .i64 (.lit 0),.int .i64 (.lit 4096)]] (.tup [.int .u32 (.lit 3531735041),.int .i64 (.lit 0)])=true:=by kernel_rfl
noncomputable def T10:Nat->List NV->Option NV:=aV 36 [.agg [.int .i64 (.lit 0),.int .i64 (.lit 1),.int .i64 (.lit 0),.int .i64 (.lit 0),.int .i64 (.lit 0),.int .i64 (.lit 0),.int .i64 (.lit 4096)]] (.tup [.int .u32 (.lit 3531735041),.int .i64 (.lit 0)]) T9
theorem ok10:aX Tryz.prog T10:=aL mixed Tryz.codeOk ok9 (FR.aM.kept kept10)
theorem kept11:bg FR.code T10 2000 63 [.agg [.int .i64 (.lit 0),.int .i64 (.lit 1),.int .i64 (.lit 0),.int .i64 (.lit 0),.int .i64 (.lit 0),.int .i64 (.lit 0),.int .i64 (.lit 4096)]] (.bool true)=true:=by kernel_rfl
noncomputable def T11:Nat->List NV->Option NV:=aV 63 [.agg [.int .i64 (.lit 0),.int .i64 (.lit 1),.int .i64 (.lit 0),.int .i64 (.lit 0),.int .i64 (.lit 0),.int .i64 (.lit 0),.int .i64 (.lit 4096)]] (.bool true) T10
theorem ok11:aX Tryz.prog T11:=aL mixed Tryz.codeOk ok10 (FR.aM.kept kept11)
theorem kept12:bg FR.code T11 2000 42 [.int .u32 (.lit 3531735041)] (.tup [.agg [.int .i64 (.lit 0),.int .i64 (.lit 1),.int .i64 (.lit 0),.int .i64 (.lit 0),.int .i64 (.lit 0),.int .i64 (.lit 0),.int .i64 (.lit 4096)],.int .i64 (.lit 0)])=true:=by kernel_rfl
noncomputable def T12:Nat->List NV->Option NV:=aV 42 [.int .u32 (.lit 3531735041)] (.tup [.agg [.int .i64 (.lit 0),.int .i64 (.lit 1),.int .i64 (.lit 0),.int .i64 (.lit 0),.int .i64 (.lit 0),.int .i64 (.lit 0),.int .i64 (.lit 4096)],.int .i64 (.lit 0)]) T11
theorem ok12:aX Tryz.prog T12:=aL mixed Tryz.codeOk ok11 (FR.aM.kept kept12)
theorem kept13:bg FR.code T12 2000 36 [.agg [.int .i64 (.lit 0),.int .i64 (.lit 3),.int .i64 (.lit 0),.int .i64 (.lit 0),.int .i64 (.lit 0),.int .i64 (.lit 0),.int .i64 (.lit 1)]] (.tup [.int .u32 (.lit 3531604003),.int .i64 (.lit 0)])=true:=by kernel_rfl
noncomputable def T13:Nat->List NV->Option NV:=aV 36 [.agg [.int .i64 (.lit 0),.int .i64 (.lit 3),.int .i64 (.lit 0),.int .i64 (.lit 0),.int .i64 (.lit 0),.int .i64 (.lit 0),.int .i64 (.lit 1)]] (.tup [.int .u32 (.lit 3531604003),.int .i64 (.lit 0)]) T12
theorem ok13:aX Tryz.prog T13:=aL mixed Tryz.codeOk ok12 (FR.aM.kept kept13)
theorem kept14:bg FR.code T13 2000 63 [.agg [.int .i64 (.lit 0),.int .i64 (.lit 3),.int .i64 (.lit 0),.int .i64 (.lit 0),.int .i64 (.lit 0),.int .i64 (.lit 0),.int .i64 (.lit 1)]] (.bool true)=true:=by kernel_rfl
noncomputable def T14:Nat->List NV->Option NV:=aV 63 [.agg [.int .i64 (.lit 0),.int .i64 (.lit 3),.int .i64 (.lit 0),.int .i64 (.lit 0),.int .i64 (.lit 0),.int .i64 (.lit 0),.int .i64 (.lit 1)]] (.bool true) T13
theorem ok14:aX Tryz.prog T14:=aL mixed Tryz.codeOk ok13 (FR.aM.kept kept14)
theorem kept15:bg FR.code T14 2000 42 [.int .u32 (.lit 3531604003)] (.tup [.agg [.int .i64 (.lit 0),.int .i64 (.lit 3),.int .i64 (.lit 0),.int .i64 (.lit 0),.int .i64 (.lit 0),.int .i64 (.lit 0),.int .i64 (.lit 1)],.int .i64 (.lit 0)])=true:=by kernel_rfl
noncomputable def T15:Nat->List NV->Option NV:=aV 42 [.int .u32 (.lit 3531604003)] (.tup [.agg [.int .i64 (.lit 0),.int .i64 (.lit 3),.int .i64 (.lit 0),.int .i64 (.lit 0),.int .i64 (.lit 0),.int .i64 (.lit 0),.int .i64 (.lit 1)],.int .i64 (.lit 0)]) T14
theorem ok15:aX Tryz.prog T15:=aL mixed Tryz.codeOk ok14 (FR.aM.kept kept15)
theorem kept16:bg FR.code T15 2000 36 [.agg [.int .i64 (.lit 13),.int .i64 (.lit 3),.int .i64 (.lit 1),.int .i64 (.lit 0),.int .i64 (.lit 0),.int .i64 (.lit 0),.int .i64 (.lit 0)]] (.tup [.int .u32 (.lit 4177526819),.int .i64 (.lit 0)])=true:=by kernel_rfl
noncomputable def T16:Nat->List NV->Option NV:=aV 36 [.agg [.int .i64 (.lit 13),.int .i64 (.lit 3),.int .i64 (.lit 1),.int .i64 (.lit 0),.int .i64 (.lit 0),.int .i64 (.lit 0),.int .i64 (.lit 0)]] (.tup [.int .u32 (.lit 4177526819),.int .i64 (.lit 0)]) T15
theorem ok16:aX Tryz.prog T16:=aL mixed Tryz.codeOk ok15 (FR.aM.kept kept16)
theorem kept17:bg FR.code T16 2000 63 [.agg [.int .i64 (.lit 13),.int .i64 (.lit 3),.int .i64 (.lit 1),.int .i64 (.lit 0),.int .i64 (.lit 0),.int .i64 (.lit 0),.int .i64 (.lit 0)]] (.bool true)=true:=by kernel_rfl
noncomputable def T17:Nat->List NV->Option NV:=aV 63 [.agg [.int .i64 (.lit 13),.int .i64 (.lit 3),.int .i64 (.lit 1),.int .i64 (.lit 0),.int .i64 (.lit 0),.int .i64 (.lit 0),.int .i64 (.lit 0)]] (.bool true) T16
theorem ok17:aX Tryz.prog T17:=aL mixed Tryz.codeOk ok16 (FR.aM.kept kept17)
theorem kept18:bg FR.code T17 2000 42 [.int .u32 (.lit 4177526819)] (.tup [.agg [.int .i64 (.lit 13),.int .i64 (.lit 3),.int .i64 (.lit 1),.int .i64 (.lit 0),.int .i64 (.lit 0),.int .i64 (.lit 0),.int .i64 (.lit 0)],.int .i64 (.lit 0)])=true:=by kernel_rfl
noncomputable def T18:Nat->List NV->Option NV:=aV 42 [.int .u32 (.lit 4177526819)] (.tup [.agg [.int .i64 (.lit 13),.int .i64 (.lit 3),.int .i64 (.lit 1),.int .i64 (.lit 0),.int .i64 (.lit 0),.int .i64 (.lit 0),.int .i64 (.lit 0)],.int .i64 (.lit 0)]) T17
theorem ok18:aX Tryz.prog T18:=aL mixed Tryz.codeOk ok17 (FR.aM.kept kept18)
theorem kept19:bg FR.code T18 2000 36 [.agg [.int .i64 (.lit 12),.int .i64 (.lit 0),.int .i64 (.lit 2),.int .i64 (.lit 0),.int .i64 (.lit 0),.int .i64 (.lit 0),.int .i64 (.lit 0)]] (.tup [.int .u32 (.lit 4181721152),.int .i64 (.lit 0)])=true:=by kernel_rfl
noncomputable def T19:Nat->List NV->Option NV:=aV 36 [.agg [.int .i64 (.lit 12),.int .i64 (.lit 0),.int .i64 (.lit 2),.int .i64 (.lit 0),.int .i64 (.lit 0),.int .i64 (.lit 0),.int .i64 (.lit 0)]] (.tup [.int .u32 (.lit 4181721152),.int .i64 (.lit 0)]) T18
theorem ok19:aX Tryz.prog T19:=aL mixed Tryz.codeOk ok18 (FR.aM.kept kept19)
theorem kept20:bg FR.code T19 2000 63 [.agg [.int .i64 (.lit 12),.int .i64 (.lit 0),.int .i64 (.lit 2),.int .i64 (.lit 0),.int .i64 (.lit 0),.int .i64 (.lit 0),.int .i64 (.lit 0)]] (.bool true)=true:=by kernel_rfl
noncomputable def T20:Nat->List NV->Option NV:=aV 63 [.agg [.int .i64 (.lit 12),.int .i64 (.lit 0),.int .i64 (.lit 2),.int .i64 (.lit 0),.int .i64 (.lit 0),.int .i64 (.lit 0),.int .i64 (.lit 0)]] (.bool true) T19
theorem ok20:aX Tryz.prog T20:=aL mixed Tryz.codeOk ok19 (FR.aM.kept kept20)
theorem kept21:bg FR.code T20 2000 42 [.int .u32 (.lit 4181721152)] (.tup [.agg [.int .i64 (.lit 12),.int .i64 (.lit 0),.int .i64 (.lit 2),.int .i64 (.lit 0),.int .i64 (.lit 0),.int .i64 (.lit 0),.int .i64 (.lit 0)],.int .i64 (.lit 0)])=true:=by kernel_rfl
noncomputable def T21:Nat->List NV->Option NV:=aV 42 [.int .u32 (.lit 4181721152)] (.tup [.agg [.int .i64 (.lit 12),.int .i64 (.lit 0),.int .i64 (.lit 2),.int .i64 (.lit 0),.int .i64 (.lit 0),.int .i64 (.lit 0),.int .i64 (.lit 0)],.int .i64 (.lit 0)]) T20
theorem ok21:aX Tryz.prog T21:=aL mixed Tryz.codeOk ok20 (FR.aM.kept kept21)
theorem kept22:bg FR.code T21 2000 36 [.agg [.int .i64 (.lit 18),.int .i64 (.lit 0),.int .i64 (.lit 0),.int .i64 (.lit 0),.int .i64 (.lit 0),.int .i64 (.lit 0),.int .i64 (.lit 0)]] (.tup [.int .u32 (.lit 3573758911),.int .i64 (.lit 0)])=true:=by kernel_rfl
noncomputable def T22:Nat->List NV->Option NV:=aV 36 [.agg [.int .i64 (.lit 18),.int .i64 (.lit 0),.int .i64 (.lit 0),.int .i64 (.lit 0),.int .i64 (.lit 0),.int .i64 (.lit 0),.int .i64 (.lit 0)]] (.tup [.int .u32 (.lit 3573758911),.int .i64 (.lit 0)]) T21
theorem ok22:aX Tryz.prog T22:=aL mixed Tryz.codeOk ok21 (FR.aM.kept kept22)
theorem kept23:bg FR.code T22 2000 63 [.agg [.int .i64 (.lit 18),.int .i64 (.lit 0),.int .i64 (.lit 0),.int .i64 (.lit 0),.int .i64 (.lit 0),.int .i64 (.lit 0),.int .i64 (.lit 0)]] (.bool true)=true:=by kernel_rfl
noncomputable def T23:Nat->List NV->Option NV:=aV 63 [.agg [.int .i64 (.lit 18),.int .i64 (.lit 0),.int .i64 (.lit 0),.int .i64 (.lit 0),.int .i64 (.lit 0),.int .i64 (.lit 0),.int .i64 (.lit 0)]] (.bool true) T22
theorem ok23:aX Tryz.prog T23:=aL mixed Tryz.codeOk ok22 (FR.aM.kept kept23)
theorem kept24:bg FR.code T23 2000 42 [.int .u32 (.lit 3573758911)] (.tup [.agg [.int .i64 (.lit 18),.int .i64 (.lit 0),.int .i64 (.lit 0),.int .i64 (.lit 0),.int .i64 (.lit 0),.int .i64 (.lit 0),.int .i64 (.lit 0)],.int .i64 (.lit 0)])=true:=by kernel_rfl
noncomputable def T24:Nat->List NV->Option NV:=aV 42 [.int .u32 (.lit 3573758911)] (.tup [.agg [.int .i64 (.lit 18),.int .i64 (.lit 0),.int .i64 (.lit 0),.int .i64 (.lit 0),.int .i64 (.lit 0),.int .i64 (.lit 0),.int .i64 (.lit 0)],.int .i64 (.lit 0)]) T23
theorem ok24:aX Tryz.prog T24:=aL mixed Tryz.codeOk ok23 (FR.aM.kept kept24)
theorem kept25:bg FR.code T24 2000 36 [.agg [.int .i64 (.lit 23),.int .i64 (.lit 0),.int .i64 (.lit 0),.int .i64 (.lit 0),.int .i64 (.lit 0),.int .i64 (.lit 0),.int .i64 (.lit 0)]] (.tup [.int .u32 (.lit 3556769793),.int .i64 (.lit 0)])=true:=by kernel_rfl
noncomputable def T25:Nat->List NV->Option NV:=aV 36 [.agg [.int .i64 (.lit 23),.int .i64 (.lit 0),.int .i64 (.lit 0),.int .i64 (.lit 0),.int .i64 (.lit 0),.int .i64 (.lit 0),.int .i64 (.lit 0)]] (.tup [.int .u32 (.lit 3556769793),.int .i64 (.lit 0)]) T24
theorem ok25:aX Tryz.prog T25:=aL mixed Tryz.codeOk ok24 (FR.aM.kept kept25)
theorem kept26:bg FR.code T25 2000 63 [.agg [.int .i64 (.lit 23),.int .i64 (.lit 0),.int .i64 (.lit 0),.int .i64 (.lit 0),.int .i64 (.lit 0),.int .i64 (.lit 0),.int .i64 (.lit 0)]] (.bool true)=true:=by kernel_rfl
noncomputable def T26:Nat->List NV->Option NV:=aV 63 [.agg [.int .i64 (.lit 23),.int .i64 (.lit 0),.int .i64 (.lit 0),.int .i64 (.lit 0),.int .i64 (.lit 0),.int .i64 (.lit 0),.int .i64 (.lit 0)]] (.bool true) T25
theorem ok26:aX Tryz.prog T26:=aL mixed Tryz.codeOk ok25 (FR.aM.kept kept26)
theorem kept27:bg FR.code T26 2000 42 [.int .u32 (.lit 3556769793)] (.tup [.agg [.int .i64 (.lit 23),.int .i64 (.lit 0),.int .i64 (.lit 0),.int .i64 (.lit 0),.int .i64 (.lit 0),.int .i64 (.lit 0),.int .i64 (.lit 0)],.int .i64 (.lit 0)])=true:=by kernel_rfl
noncomputable def T27:Nat->List NV->Option NV:=aV 42 [.int .u32 (.lit 3556769793)] (.tup [.agg [.int .i64 (.lit 23),.int .i64 (.lit 0),.int .i64 (.lit 0),.int .i64 (.lit 0),.int .i64 (.lit 0),.int .i64 (.lit 0),.int .i64 (.lit 0)],.int .i64 (.lit 0)]) T26
theorem ok27:aX Tryz.prog T27:=aL mixed Tryz.codeOk ok26 (FR.aM.kept kept27)
theorem kept28:bg FR.code T27 2000 36 [.agg [.int .i64 (.lit 22),.int .i64 (.lit 0),.int .i64 (.lit 0),.int .i64 (.lit 0),.int .i64 (.lit 0),.int .i64 (.lit 0),.int .i64 (.lit 0)]] (.tup [.int .u32 (.lit 3560964096),.int .i64 (.lit 0)])=true:=by kernel_rfl
noncomputable def T28:Nat->List NV->Option NV:=aV 36 [.agg [.int .i64 (.lit 22),.int .i64 (.lit 0),.int .i64 (.lit 0),.int .i64 (.lit 0),.int .i64 (.lit 0),.int .i64 (.lit 0),.int .i64 (.lit 0)]] (.tup [.int .u32 (.lit 3560964096),.int .i64 (.lit 0)]) T27
theorem ok28:aX Tryz.prog T28:=aL mixed Tryz.codeOk ok27 (FR.aM.kept kept28)
theorem kept29:bg FR.code T28 2000 63 [.agg [.int .i64 (.lit 22),.int .i64 (.lit 0),.int .i64 (.lit 0),.int .i64 (.lit 0),.int .i64 (.lit 0),.int .i64 (.lit 0),.int .i64 (.lit 0)]] (.bool true)=true:=by kernel_rfl
noncomputable def T29:Nat->List NV->Option NV:=aV 63 [.agg [.int .i64 (.lit 22),.int .i64 (.lit 0),.int .i64 (.lit 0),.int .i64 (.lit 0),.int .i64 (.lit 0),.int .i64 (.lit 0),.int .i64 (.lit 0)]] (.bool true) T28
theorem ok29:aX Tryz.prog T29:=aL mixed Tryz.codeOk ok28 (FR.aM.kept kept29)
theorem kept30:bg FR.code T29 2000 42 [.int .u32 (.lit 3560964096)] (.tup [.agg [.int .i64 (.lit 22),.int .i64 (.lit 0),.int .i64 (.lit 0),.int .i64 (.lit 0),.int .i64 (.lit 0),.int .i64 (.lit 0),.int .i64 (.lit 0)],.int .i64 (.lit 0)])=true:=by kernel_rfl
noncomputable def T30:Nat->List NV->Option NV:=aV 42 [.int .u32 (.lit 3560964096)] (.tup [.agg [.int .i64 (.lit 22),.int .i64 (.lit 0),.int .i64 (.lit 0),.int .i64 (.lit 0),.int .i64 (.lit 0),.int .i64 (.lit 0),.int .i64 (.lit 0)],.int .i64 (.lit 0)]) T29
theorem ok30:aX Tryz.prog T30:=aL mixed Tryz.codeOk ok29 (FR.aM.kept kept30)
theorem tabOK:aX Tryz.prog FR.S0:=ok30
theorem kinds:sW Tryz.prog [3,22,29]=true:=by kernel_rfl
theorem laid:laidOutB Tryz.prog=true:=by kernel_rfl
theorem starts:ID ((begin Tryz.prog (fun _ _=>0) default).world.heap[Tryz.prog.globals.size]?)=true:=by kernel_rfl
theorem read22:Tryz.prog.readableRec 22=true/\22<Tryz.prog.types.size:=⟨by kernel_rfl,of_decide_eq_true (by kernel_rfl)⟩
section
variable {H:Type} {enc:TypeId×Value->H} {P:Program}
theorem post_below {f:Func} {s:ChangeSpec} {apart fresh handsOn again:Bool} {W W':World} {args:Array Value} {v:Value} {ds gs:List (DataW H)} {before pa pv:List MemPlace}
 (hW:DataW.Whole enc P f.params.toList s.vars apart W args.toList ds gs before)
 (hres:∀(b:Nat) (sp:Nat->Bool) (hd:Bool),DataW.TrodAll enc P W' b sp hd f.resultTypes.toList (v.resultList f.resultTypes.size) (s.fn H (ds++gs)).results [])
 (hargs:∀sp:Nat->Bool,(∀p∈before,sp p.block=true)->DataW.TrodAll enc P W' 0 sp true f.params.toList args.toList (s.fn H (ds++gs)).args pa)
 (hvars:∀sp:Nat->Bool,(∀p∈before,sp p.block=true)->DataW.TrodVars enc P W' sp s.vars (s.fn H (ds++gs)).vars pv)
 (hps:before=pa++pv) (hb:Below W.heap.size W W')
 (hok:∀(j:Nat) (t:TypeId) (r:Value),f.resultTypes[j]? =some t->(v.resultList f.resultTypes.size)[j]? =some r->Value.okWide P W' .any 0 t r):
 s.post enc P f apart fresh handsOn again W args v W':=by
 have hlt:∀p∈before,p.block<W.heap.size:=fun p hp=>hW.lt p hp
 have hold:∀p∈before,(fun b=>decide (b<W.heap.size)) p.block=true:=fun p hp=>by simpa using hlt p hp
 refine ⟨ds,gs,before, [],pa,pv,hW,hres _ _ _,hargs _ hold,hvars _ hold,World.keptBut_mono (fun p hp=>⟨hp, ?_⟩) (hb.frame (·∈before)),fun _=> ?_⟩
 ·rw[hps,List.mem_append] at hp
  exact Or.inr hp
 ·obtain ⟨_,_,_,_,_,hz,hn⟩:=hW
  refine ⟨hok,_,_,([]++pa)++pv,⟨[]++pa,pv,trodAll_append (hargs _ (fun _ _=>rfl)) (hres _ _ _),hvars _ (fun _ _=>rfl),rfl, ?_, ?_⟩, ?_⟩
  ·intro b off hp
   have hin:MemPlace.cell b off∈before:=by rw[hps];simpa using hp
   rw[hb.frozen (hlt _ hin)]
   exact hz b off hin
  ·intro ha
   have:=hn ha
   rw[hps] at this
   simpa using this
  ·intro p hp _
   rw[hps]
   simpa using hp
end
set_option maxRecDepth 100000 in
theorem lifted (os:Os) (started:os.Started) (H:Type) (enc:TypeId×Value->H):
 ReturnsInHanded {} Tryz.checked os 4 .any (Rows.parmStillSpec.pre6 enc Tryz.prog Tryz.f4 Rows.parmStillRow.domain false) (Rows.parmStillSpec.post enc Tryz.prog Tryz.f4 false true false false):=by
 refine returnsInHanded_of_change_shaped (C:=Tryz.checked) own started (by kernel_rfl) Tryz.func4
  (ChangeSpec.witness6 (enc:=enc) (C:=Tryz.checked) false ⟨#[],#[.slice none 0 0], []⟩ 8 (by kernel_rfl) (by kernel_rfl) (by kernel_rfl) (by kernel_rfl)) ?_
 intro W base args ds gs before hval0 hW hcnd _ hshape _
 have hval:∀(j:Nat) t v,Tryz.f4.params[j]? =some t->args[j]? =some v->Value.okWide Tryz.prog W .any base t v:=hval0
 have hW':=hW
 obtain ⟨p,q,hA0,hV,rfl,hfz,hnd⟩:=hW
 have hA:DataW.TrodAll enc Tryz.prog W 0 (fun _=>true) true Tryz.f4.params.toList args.toList ds p:=hA0
 rw[Tryz.params4] at hA hval
 have hlt:∀x∈p,x.block<W.heap.size:=fun x hx=>hW'.lt x (List.mem_append_left _ hx)
 obtain ⟨rfl,rfl⟩:=trodVars_none hV
 have hdl:ds.length=1:=oD hA
 obtain ⟨d0,rfl⟩:=List.length_eq_one_iff.mp hdl
 have hc:=tU mixed Tryz.codeOk tabOK kinds FR.qT (fun _=>rfl) (ts:= [22]) (fun t ht=>by
  simp only[List.mem_cons,List.not_mem_nil,or_false] at ht
  subst ht
  ·simp
 ) FR.parmStill (oc starts hshape) hA fun j t v h1 h2=>hval j t v (by simpa using h1) (by simpa using h2)
 rw[show args.toList.toArray=args from Array.toArray_toList] at hc
 simp only[List.append_nil] at hW'
 refine hc.mono fun e W' ⟨he,hg⟩=> ?_
 subst he
 refine ⟨_,rfl,post_below (pa:=p) (pv:= []) hW' (fun _ _ _=>(trodAll_cons_mk (shut_bool Tryz.underlying4 _) trodAll_mk0)) (fun sp hsp=> ?_) (fun _ _=>rfl) (List.append_nil _).symm hg (ok_one (by kernel_rfl) rfl (okWide_bool_mk Tryz.underlying4 _))⟩
 have hsp:∀x∈p,sp x.block=true:=hsp
 show DataW.TrodAll enc Tryz.prog W' 0 sp true Tryz.f4.params.toList args.toList [d0] p
 rw[Tryz.params4]
 exact lT laid hg _ _ _ _ (fun t ht=>by
  simp only[List.mem_cons,List.not_mem_nil,or_false] at ht
  subst ht
  ·exact read22
 ) hA hlt hsp
theorem over:Rows.parmStillRow.holds Tryz.pinned (OpenSpec.ofChange Rows.parmStillSpec):=
 OpenClaim.holds_of_wide 4 Tryz.f4 rfl rfl rfl rfl rfl rfl rfl ⟨rfl,rfl,rfl,rfl,rfl⟩ rfl rfl rfl rfl rfl (by kernel_rfl) Tryz.func4 facts
  (of_decide_eq_true (by kernel_rfl)) (by unfold Func.isWrapper;first|(rw[if_pos (by decide+kernel)];kernel_rfl)|(rw[if_neg (by decide+kernel)];exact ⟨rfl,rfl⟩))
  (fun os started H enc _=>lifted os started H enc)
theorem proved:Rows.ParmStillSaid:=
 over
#print axioms proved
end Go.Proofs.YtbmkdfoffpeabaaGreat.parmStill
