/- The law ParmRecovers of the document returns true for every input, and its arguments read bK the call as they read before. No condition. -/
import Derived.Test.YtbmkdfoffpeabaaRows
import Derived.WalkKit
import Derived.ProofKit
import Derived.OpenShut
import Derived.Below
import Derived.ChangeSame
import Derived.HandedShaped
import Derived.Test.YtbmkdfoffpeabaaPrU0
import Derived.Test.YtbmkdfoffpeabaaChecked
import Derived.Test.YtbmkdfoffpeabaaParmRecoversFacts
namespace Go.Proofs.Ytbmkdfoffpeabaa.parmRecovers
open Nm Go.ChangeShapes Go.WideShapes Go.ChangeAt Go.RowKit
set_option linter.unusedVariables false
theorem own:ownKnob Try.prog.godebug=none:=by kernel_rfl
theorem mixed:Try.prog.follows .mixedOrders=true:=by kernel_rfl
theorem kept:bO FR.code HQ 2000 8 [] (.bool true)=true:=by kernel_rfl
noncomputable def T0:Nat->List NV->Option NV:=bA 8 [] (.bool true) HQ
theorem ok0:bv Try.prog T0:=aY mixed Try.codeOk w9 (FR.aZ.kept kept)
theorem kept1:bO FR.code T0 2000 27 [.agg [.int .i64 (.lit 0),.int .i64 (.lit 0),.int .i64 (.lit 0),.int .i64 (.lit 0),.int .i64 (.lit 0),.int .i64 (.lit 0),.int .i64 (.lit 3)]] (.tup [.int .u32 (.lit 3531604064),.int .i64 (.lit 0)])=true:=by kernel_rfl
noncomputable def T1:Nat->List NV->Option NV:=bA 27 [.agg [.int .i64 (.lit 0),.int .i64 (.lit 0),.int .i64 (.lit 0),.int .i64 (.lit 0),.int .i64 (.lit 0),.int .i64 (.lit 0),.int .i64 (.lit 3)]] (.tup [.int .u32 (.lit 3531604064),.int .i64 (.lit 0)]) T0
theorem ok1:bv Try.prog T1:=aY mixed Try.codeOk ok0 (FR.aZ.kept kept1)
theorem kept2:bO FR.code T1 2000 67 [.agg [.int .i64 (.lit 0),.int .i64 (.lit 0),.int .i64 (.lit 0),.int .i64 (.lit 0),.int .i64 (.lit 0),.int .i64 (.lit 0),.int .i64 (.lit 3)]] (.bool true)=true:=by kernel_rfl
noncomputable def T2:Nat->List NV->Option NV:=bA 67 [.agg [.int .i64 (.lit 0),.int .i64 (.lit 0),.int .i64 (.lit 0),.int .i64 (.lit 0),.int .i64 (.lit 0),.int .i64 (.lit 0),.int .i64 (.lit 3)]] (.bool true) T1
theorem ok2:bv Try.prog T2:=aY mixed Try.codeOk ok1 (FR.aZ.kept kept2)
theorem kept3:bO FR.code T2 2000 39 [.int .u32 (.lit 3531604064)] (.tup [.agg [.int .i64 (.lit 0),.int .i64 (.lit 0),.int .i64 (.lit 0),.int .i64 (.lit 0),.int .i64 (.lit 0),.int .i64 (.lit 0),.int .i64 (.lit 3)],.int .i64 (.lit 0)])=true:=by kernel_rfl
noncomputable def T3:Nat->List NV->Option NV:=bA 39 [.int .u32 (.lit 3531604064)] (.tup [.agg [.int .i64 (.lit 0),.int .i64 (.lit 0),.int .i64 (.lit 0),.int .i64 (.lit 0),.int .i64 (.lit 0),.int .i64 (.lit 0),.int .i64 (.lit 3)],.int .i64 (.lit 0)]) T2
theorem ok3:bv Try.prog T3:=aY mixed Try.codeOk ok2 (FR.aZ.kept kept3)
theorem kept4:bO FR.code T3 2000 27 [.agg [.int .i64 (.lit 0),.int .i64 (.lit 0),.int .i64 (.lit 0),.int .i64 (.lit 0),.int .i64 (.lit 0),.int .i64 (.lit 0),.int .i64 (.lit 2)]] (.tup [.int .u32 (.lit 3531604032),.int .i64 (.lit 0)])=true:=by kernel_rfl
noncomputable def T4:Nat->List NV->Option NV:=bA 27 [.agg [.int .i64 (.lit 0),.int .i64 (.lit 0),.int .i64 (.lit 0),.int .i64 (.lit 0),.int .i64 (.lit 0),.int .i64 (.lit 0),.int .i64 (.lit 2)]] (.tup [.int .u32 (.lit 3531604032),.int .i64 (.lit 0)]) T3
theorem ok4:bv Try.prog T4:=aY mixed Try.codeOk ok3 (FR.aZ.kept kept4)
theorem kept5:bO FR.code T4 2000 67 [.agg [.int .i64 (.lit 0),.int .i64 (.lit 0),.int .i64 (.lit 0),.int .i64 (.lit 0),.int .i64 (.lit 0),.int .i64 (.lit 0),.int .i64 (.lit 2)]] (.bool true)=true:=by kernel_rfl
noncomputable def T5:Nat->List NV->Option NV:=bA 67 [.agg [.int .i64 (.lit 0),.int .i64 (.lit 0),.int .i64 (.lit 0),.int .i64 (.lit 0),.int .i64 (.lit 0),.int .i64 (.lit 0),.int .i64 (.lit 2)]] (.bool true) T4
theorem ok5:bv Try.prog T5:=aY mixed Try.codeOk ok4 (FR.aZ.kept kept5)
theorem kept6:bO FR.code T5 2000 39 [.int .u32 (.lit 3531604032)] (.tup [.agg [.int .i64 (.lit 0),.int .i64 (.lit 0),.int .i64 (.lit 0),.int .i64 (.lit 0),.int .i64 (.lit 0),.int .i64 (.lit 0),.int .i64 (.lit 2)],.int .i64 (.lit 0)])=true:=by kernel_rfl
noncomputable def T6:Nat->List NV->Option NV:=bA 39 [.int .u32 (.lit 3531604032)] (.tup [.agg [.int .i64 (.lit 0),.int .i64 (.lit 0),.int .i64 (.lit 0),.int .i64 (.lit 0),.int .i64 (.lit 0),.int .i64 (.lit 0),.int .i64 (.lit 2)],.int .i64 (.lit 0)]) T5
theorem ok6:bv Try.prog T6:=aY mixed Try.codeOk ok5 (FR.aZ.kept kept6)
theorem kept7:bO FR.code T6 2000 27 [.agg [.int .i64 (.lit 0),.int .i64 (.lit 0),.int .i64 (.lit 0),.int .i64 (.lit 0),.int .i64 (.lit 0),.int .i64 (.lit 0),.int .i64 (.lit 1)]] (.tup [.int .u32 (.lit 3531604000),.int .i64 (.lit 0)])=true:=by kernel_rfl
noncomputable def T7:Nat->List NV->Option NV:=bA 27 [.agg [.int .i64 (.lit 0),.int .i64 (.lit 0),.int .i64 (.lit 0),.int .i64 (.lit 0),.int .i64 (.lit 0),.int .i64 (.lit 0),.int .i64 (.lit 1)]] (.tup [.int .u32 (.lit 3531604000),.int .i64 (.lit 0)]) T6
theorem ok7:bv Try.prog T7:=aY mixed Try.codeOk ok6 (FR.aZ.kept kept7)
theorem kept8:bO FR.code T7 2000 67 [.agg [.int .i64 (.lit 0),.int .i64 (.lit 0),.int .i64 (.lit 0),.int .i64 (.lit 0),.int .i64 (.lit 0),.int .i64 (.lit 0),.int .i64 (.lit 1)]] (.bool true)=true:=by kernel_rfl
noncomputable def T8:Nat->List NV->Option NV:=bA 67 [.agg [.int .i64 (.lit 0),.int .i64 (.lit 0),.int .i64 (.lit 0),.int .i64 (.lit 0),.int .i64 (.lit 0),.int .i64 (.lit 0),.int .i64 (.lit 1)]] (.bool true) T7
theorem ok8:bv Try.prog T8:=aY mixed Try.codeOk ok7 (FR.aZ.kept kept8)
theorem kept9:bO FR.code T8 2000 39 [.int .u32 (.lit 3531604000)] (.tup [.agg [.int .i64 (.lit 0),.int .i64 (.lit 0),.int .i64 (.lit 0),.int .i64 (.lit 0),.int .i64 (.lit 0),.int .i64 (.lit 0),.int .i64 (.lit 1)],.int .i64 (.lit 0)])=true:=by kernel_rfl
noncomputable def T9:Nat->List NV->Option NV:=bA 39 [.int .u32 (.lit 3531604000)] (.tup [.agg [.int .i64 (.lit 0),.int .i64 (.lit 0),.int .i64 (.lit 0),.int .i64 (.lit 0),.int .i64 (.lit 0),.int .i64 (.lit 0),.int .i64 (.lit 1)],.int .i64 (.lit 0)]) T8
theorem ok9:bv Try.prog T9:=aY mixed Try.codeOk ok8 (FR.aZ.kept kept9)
theorem kept10:bO FR.code T9 2000 27 [.agg [.int .i64 (.lit 0),.int .i64 (.lit 0),.int .i64 (.lit 0),.int .i64 (.lit 0),.int .i64 (.lit 0),.int .i64 (.lit 0),.int .i64 (.lit 0)]] (.tup [.int .u32 (.lit 3531603968),.int .i64 (.lit 0)])=true:=by kernel_rfl
noncomputable def T10:Nat->List NV->Option NV:=bA 27 [.agg [.int .i64 (.lit 0),.int .i64 (.lit 0),.int .i64 (.lit 0),.int .i64 (.lit 0),.int .i64 (.lit 0),.int .i64 (.lit 0),.int .i64 (.lit 0)]] (.tup [.int .u32 (.lit 3531603968),.int .i64 (.lit 0)]) T9
theorem ok10:bv Try.prog T10:=aY mixed Try.codeOk ok9 (FR.aZ.kept kept10)
theorem kept11:bO FR.code T10 2000 67 [.agg [.int .i64 (.lit 0),.int .i64 (.lit 0),.int .i64 (.lit 0),.int .i64 (.lit 0),.int .i64 (.lit 0),.int .i64 (.lit 0),.int .i64 (.lit 0)]] (.bool true)=true:=by kernel_rfl
noncomputable def T11:Nat->List NV->Option NV:=bA 67 [.agg [.int .i64 (.lit 0),.int .i64 (.lit 0),.int .i64 (.lit 0),.int .i64 (.lit 0),.int .i64 (.lit 0),.int .i64 (.lit 0),.int .i64 (.lit 0)]] (.bool true) T10
theorem ok11:bv Try.prog T11:=aY mixed Try.codeOk ok10 (FR.aZ.kept kept11)
theorem kept12:bO FR.code T11 2000 39 [.int .u32 (.lit 3531603968)] (.tup [.agg [.int .i64 (.lit 0),.int .i64 (.lit 0),.int .i64 (.lit 0),.int .i64 (.lit 0),.int .i64 (.lit 0),.int .i64 (.lit 0),.int .i64 (.lit 0)],.int .i64 (.lit 0)])=true:=by kernel_rfl
noncomputable def T12:Nat->List NV->Option NV:=bA 39 [.int .u32 (.lit 3531603968)] (.tup [.agg [.int .i64 (.lit 0),.int .i64 (.lit 0),.int .i64 (.lit 0),.int .i64 (.lit 0),.int .i64 (.lit 0),.int .i64 (.lit 0),.int .i64 (.lit 0)],.int .i64 (.lit 0)]) T11
theorem ok12:bv Try.prog T12:=aY mixed Try.codeOk ok11 (FR.aZ.kept kept12)
theorem kept13:bO FR.code T12 2000 27 [.agg [.int .i64 (.lit 0),.int .i64 (.lit 0),.int .i64 (.lit 0),.int .i64 (.lit 0),.int .i64 (.lit 0),.int .i64 (.lit 0),.int .i64 (.lit 77)]] (.tup [.int .u32 (.lit 3531606432),.int .i64 (.lit 0)])=true:=by kernel_rfl
noncomputable def T13:Nat->List NV->Option NV:=bA 27 [.agg [.int .i64 (.lit 0),.int .i64 (.lit 0),.int .i64 (.lit 0),.int .i64 (.lit 0),.int .i64 (.lit 0),.int .i64 (.lit 0),.int .i64 (.lit 77)]] (.tup [.int .u32 (.lit 3531606432),.int .i64 (.lit 0)]) T12
theorem ok13:bv Try.prog T13:=aY mixed Try.codeOk ok12 (FR.aZ.kept kept13)
theorem kept14:bO FR.code T13 2000 67 [.agg [.int .i64 (.lit 0),.int .i64 (.lit 0),.int .i64 (.lit 0),.int .i64 (.lit 0),.int .i64 (.lit 0),.int .i64 (.lit 0),.int .i64 (.lit 77)]] (.bool true)=true:=by kernel_rfl
noncomputable def T14:Nat->List NV->Option NV:=bA 67 [.agg [.int .i64 (.lit 0),.int .i64 (.lit 0),.int .i64 (.lit 0),.int .i64 (.lit 0),.int .i64 (.lit 0),.int .i64 (.lit 0),.int .i64 (.lit 77)]] (.bool true) T13
theorem ok14:bv Try.prog T14:=aY mixed Try.codeOk ok13 (FR.aZ.kept kept14)
theorem kept15:bO FR.code T14 2000 39 [.int .u32 (.lit 3531606432)] (.tup [.agg [.int .i64 (.lit 0),.int .i64 (.lit 0),.int .i64 (.lit 0),.int .i64 (.lit 0),.int .i64 (.lit 0),.int .i64 (.lit 0),.int .i64 (.lit 77)],.int .i64 (.lit 0)])=true:=by kernel_rfl
noncomputable def T15:Nat->List NV->Option NV:=bA 39 [.int .u32 (.lit 3531606432)] (.tup [.agg [.int .i64 (.lit 0),.int .i64 (.lit 0),.int .i64 (.lit 0),.int .i64 (.lit 0),.int .i64 (.lit 0),.int .i64 (.lit 0),.int .i64 (.lit 77)],.int .i64 (.lit 0)]) T14
theorem ok15:bv Try.prog T15:=aY mixed Try.codeOk ok14 (FR.aZ.kept kept15)
theorem kept16:bO FR.code T15 2000 27 [.agg [.int .i64 (.lit 23),.int .i64 (.lit 0),.int .i64 (.lit 0),.int .i64 (.lit 0),.int .i64 (.lit 0),.int .i64 (.lit 0),.int .i64 (.lit 0)]] (.tup [.int .u32 (.lit 3556769793),.int .i64 (.lit 0)])=true:=by kernel_rfl
noncomputable def T16:Nat->List NV->Option NV:=bA 27 [.agg [.int .i64 (.lit 23),.int .i64 (.lit 0),.int .i64 (.lit 0),.int .i64 (.lit 0),.int .i64 (.lit 0),.int .i64 (.lit 0),.int .i64 (.lit 0)]] (.tup [.int .u32 (.lit 3556769793),.int .i64 (.lit 0)]) T15
theorem ok16:bv Try.prog T16:=aY mixed Try.codeOk ok15 (FR.aZ.kept kept16)
theorem kept17:bO FR.code T16 2000 67 [.agg [.int .i64 (.lit 23),.int .i64 (.lit 0),.int .i64 (.lit 0),.int .i64 (.lit 0),.int .i64 (.lit 0),.int .i64 (.lit 0),.int .i64 (.lit 0)]] (.bool true)=true:=by kernel_rfl
noncomputable def T17:Nat->List NV->Option NV:=bA 67 [.agg [.int .i64 (.lit 23),.int .i64 (.lit 0),.int .i64 (.lit 0),.int .i64 (.lit 0),.int .i64 (.lit 0),.int .i64 (.lit 0),.int .i64 (.lit 0)]] (.bool true) T16
theorem ok17:bv Try.prog T17:=aY mixed Try.codeOk ok16 (FR.aZ.kept kept17)
theorem kept18:bO FR.code T17 2000 39 [.int .u32 (.lit 3556769793)] (.tup [.agg [.int .i64 (.lit 23),.int .i64 (.lit 0),.int .i64 (.lit 0),.int .i64 (.lit 0),.int .i64 (.lit 0),.int .i64 (.lit 0),.int .i64 (.lit 0)],.int .i64 (.lit 0)])=true:=by kernel_rfl
noncomputable def T18:Nat->List NV->Option NV:=bA 39 [.int .u32 (.lit 3556769793)] (.tup [.agg [.int .i64 (.lit 23),.int .i64 (.lit 0),.int .i64 (.lit 0),.int .i64 (.lit 0),.int .i64 (.lit 0),.int .i64 (.lit 0),.int .i64 (.lit 0)],.int .i64 (.lit 0)]) T17
theorem ok18:bv Try.prog T18:=aY mixed Try.codeOk ok17 (FR.aZ.kept kept18)
theorem kept19:bO FR.code T18 2000 27 [.agg [.int .i64 (.lit 22),.int .i64 (.lit 0),.int .i64 (.lit 0),.int .i64 (.lit 0),.int .i64 (.lit 0),.int .i64 (.lit 0),.int .i64 (.lit 0)]] (.tup [.int .u32 (.lit 3560964096),.int .i64 (.lit 0)])=true:=by kernel_rfl
noncomputable def T19:Nat->List NV->Option NV:=bA 27 [.agg [.int .i64 (.lit 22),.int .i64 (.lit 0),.int .i64 (.lit 0),.int .i64 (.lit 0),.int .i64 (.lit 0),.int .i64 (.lit 0),.int .i64 (.lit 0)]] (.tup [.int .u32 (.lit 3560964096),.int .i64 (.lit 0)]) T18
theorem ok19:bv Try.prog T19:=aY mixed Try.codeOk ok18 (FR.aZ.kept kept19)
theorem kept20:bO FR.code T19 2000 67 [.agg [.int .i64 (.lit 22),.int .i64 (.lit 0),.int .i64 (.lit 0),.int .i64 (.lit 0),.int .i64 (.lit 0),.int .i64 (.lit 0),.int .i64 (.lit 0)]] (.bool true)=true:=by kernel_rfl
noncomputable def T20:Nat->List NV->Option NV:=bA 67 [.agg [.int .i64 (.lit 22),.int .i64 (.lit 0),.int .i64 (.lit 0),.int .i64 (.lit 0),.int .i64 (.lit 0),.int .i64 (.lit 0),.int .i64 (.lit 0)]] (.bool true) T19
theorem ok20:bv Try.prog T20:=aY mixed Try.codeOk ok19 (FR.aZ.kept kept20)
theorem kept21:bO FR.code T20 2000 39 [.int .u32 (.lit 3560964096)] (.tup [.agg [.int .i64 (.lit 22),.int .i64 (.lit 0),.int .i64 (.lit 0),.int .i64 (.lit 0),.int .i64 (.lit 0),.int .i64 (.lit 0),.int .i64 (.lit 0)],.int .i64 (.lit 0)])=true:=by kernel_rfl
noncomputable def T21:Nat->List NV->Option NV:=bA 39 [.int .u32 (.lit 3560964096)] (.tup [.agg [.int .i64 (.lit 22),.int .i64 (.lit 0),.int .i64 (.lit 0),.int .i64 (.lit 0),.int .i64 (.lit 0),.int .i64 (.lit 0),.int .i64 (.lit 0)],.int .i64 (.lit 0)]) T20
theorem ok21:bv Try.prog T21:=aY mixed Try.codeOk ok20 (FR.aZ.kept kept21)
theorem tabOK:bv Try.prog FR.S0:=ok21
theorem kinds:sG Try.prog [3]=true:=by kernel_rfl
theorem laid:laidOutB Try.prog=true:=by kernel_rfl
theorem starts:I2 ((begin Try.prog (fun _ _=>0) default).world.heap[Try.prog.globals.size]?)=true:=by kernel_rfl
theorem read3:Try.prog.readableRec 3=true/\3<Try.prog.types.size:=⟨by kernel_rfl,of_decide_eq_true (by kernel_rfl)⟩
section
variable {H:Type} {enc:TypeId×Value->H} {P:Program}
theorem post_below {f:Func} {s:ChangeSpec} {apart fresh handsOn again:Bool} {W W':World} {args:Array Value} {v:Value} {ds gs:List (DataW H)} {before pa pv:List MemPlace}
 (hW:DataW.Whole enc P f.params.toList s.vars apart W args.toList ds gs before)
 (hres:∀(b:Nat) (sp:Nat->Bool) (hd:Bool),DataW.TrodAll enc P W' b sp hd f.resultTypes.toList (v.resultList f.resultTypes.size) (s.fn H (ds++gs)).results [])
 (hargs:∀sp:Nat->Bool,(∀p∈before,sp p.block=true)->DataW.TrodAll enc P W' 0 sp true f.params.toList args.toList (s.fn H (ds++gs)).args pa)
 (hvars:∀sp:Nat->Bool,(∀p∈before,sp p.block=true)->DataW.TrodVars enc P W' sp s.vars (s.fn H (ds++gs)).vars pv)
 (hps:before=pa++pv) (hb:Below W.heap.size W W')
 (hok:∀(j:Nat) (t:TypeId) (r:Value),f.resultTypes[j]? =some t->(v.resultList f.resultTypes.size)[j]? =some r->Value.okWide P W' .any 0 t r):
 s.post enc P f apart fresh handsOn again W args v W':=by
 have hlt:∀p∈before,p.block<W.heap.size:=fun p hp=>hW.lt p hp
 have hold:∀p∈before,(fun b=>decide (b<W.heap.size)) p.block=true:=fun p hp=>by simpa using hlt p hp
 refine ⟨ds,gs,before, [],pa,pv,hW,hres _ _ _,hargs _ hold,hvars _ hold,World.keptBut_mono (fun p hp=>⟨hp, ?_⟩) (hb.frame (·∈before)),fun _=> ?_⟩
 ·rw[hps,List.mem_append] at hp
  exact Or.inr hp
 ·obtain ⟨_,_,_,_,_,hz,hn⟩:=hW
  refine ⟨hok,_,_,([]++pa)++pv,⟨[]++pa,pv,trodAll_append (hargs _ (fun _ _=>rfl)) (hres _ _ _),hvars _ (fun _ _=>rfl),rfl, ?_, ?_⟩, ?_⟩
  ·intro b off hp
   have hin:MemPlace.cell b off∈before:=by rw[hps];simpa using hp
   rw[hb.frozen (hlt _ hin)]
   exact hz b off hin
  ·intro ha
   have:=hn ha
   rw[hps] at this
   simpa using this
  ·intro p hp _
   rw[hps]
   simpa using hp
end
set_option maxRecDepth 100000 in
theorem lifted (os:Os) (started:os.Started) (H:Type) (enc:TypeId×Value->H):
 ReturnsInHanded {} Try.checked os 4 .any (Rows.parmRecoversSpec.pre6 enc Try.prog Try.f4 Rows.parmRecoversRow.domain false) (Rows.parmRecoversSpec.post enc Try.prog Try.f4 false true false false):=by
 refine returnsInHanded_of_change_shaped (C:=Try.checked) own started (by kernel_rfl) Try.func4
  (ChangeSpec.witness6 (enc:=enc) (C:=Try.checked) false ⟨#[],#[.int .i64 0,.int .i64 0], []⟩ 8 (by kernel_rfl) (by kernel_rfl) (by kernel_rfl) (by kernel_rfl)) ?_
 intro W base args ds gs before hval0 hW hcnd _ hshape _
 have hval:∀(j:Nat) t v,Try.f4.params[j]? =some t->args[j]? =some v->Value.okWide Try.prog W .any base t v:=hval0
 have hW':=hW
 obtain ⟨p,q,hA0,hV,rfl,hfz,hnd⟩:=hW
 have hA:DataW.TrodAll enc Try.prog W 0 (fun _=>true) true Try.f4.params.toList args.toList ds p:=hA0
 rw[Try.params4] at hA hval
 have hlt:∀x∈p,x.block<W.heap.size:=fun x hx=>hW'.lt x (List.mem_append_left _ hx)
 obtain ⟨rfl,rfl⟩:=trodVars_none hV
 have hdl:ds.length=2:=og hA
 obtain ⟨d0,d1,rfl⟩:∃d0 d1,ds= [d0,d1]:=by
  match ds,hdl with
  | [d0,d1],_=>exact ⟨d0,d1,rfl⟩
 have hc:=tE mixed Try.codeOk tabOK kinds FR.nH (fun _=>rfl) (ts:= [3,3]) (fun t ht=>by
  simp only[List.mem_cons,List.not_mem_nil,or_false] at ht
  rcases ht with rfl|rfl
  ·simp
  ·simp
 ) FR.parmRecovers (oZ starts hshape) hA fun j t v h1 h2=>hval j t v (by simpa using h1) (by simpa using h2)
 rw[show args.toList.toArray=args from Array.toArray_toList] at hc
 simp only[List.append_nil] at hW'
 refine hc.mono fun e W' ⟨he,hg⟩=> ?_
 subst he
 refine ⟨_,rfl,post_below (pa:=p) (pv:= []) hW' (fun _ _ _=>(trodAll_cons_mk (shut_bool Try.underlying4 _) trodAll_mk0)) (fun sp hsp=> ?_) (fun _ _=>rfl) (List.append_nil _).symm hg (ok_one (by kernel_rfl) rfl (okWide_bool_mk Try.underlying4 _))⟩
 have hsp:∀x∈p,sp x.block=true:=hsp
 show DataW.TrodAll enc Try.prog W' 0 sp true Try.f4.params.toList args.toList [d0,d1] p
 rw[Try.params4]
 exact lI laid hg _ _ _ _ (fun t ht=>by
  simp only[List.mem_cons,List.not_mem_nil,or_false] at ht
  rcases ht with rfl|rfl
  ·exact read3
  ·exact read3
 ) hA hlt hsp
theorem over:Rows.parmRecoversRow.holds Try.pinned (OpenSpec.ofChange Rows.parmRecoversSpec):=
 OpenClaim.holds_of_wide 4 Try.f4 rfl rfl rfl rfl rfl rfl rfl ⟨rfl,rfl,rfl,rfl,rfl⟩ rfl rfl rfl rfl rfl (by kernel_rfl) Try.func4 facts
  (of_decide_eq_true (by kernel_rfl)) (by unfold Func.isWrapper;first|(rw[if_pos (by decide+kernel)];kernel_rfl)|(rw[if_neg (by decide+kernel)];exact ⟨rfl,rfl⟩))
  (fun os started H enc _=>lifted os started H enc)
theorem proved:Rows.ParmRecoversSaid:=
 over
#print axioms proved
end Go.Proofs.Ytbmkdfoffpeabaa.parmRecovers
