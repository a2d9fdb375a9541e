/- A machine that runs the given program with memory and order of evaluation taken apart, and what it shows of the law OrderKnown: part 3. -/
import Derived.Lib.Bytealg
import Derived.Below
import Derived.WideKeyArgs
import Derived.Carry
import Derived.ChangeArms
import Derived.HandedShaped
import Derived.Shelf.SlIterI.Nil
import Derived.Shelf.SlIterI.Sorted
import Derived.Shelf.SlSortCmp.Insertion
import Derived.Shelf.GgSortFunc.InsertionK
import Derived.Test.YtalbbbpbkfmmmaaProg
import Derived.KernelRfl
import Derived.Shelf.SlicesG.Cmp
import Derived.Shelf.SlLaysF0
import Derived.Shelf.SortM.Plain
import Derived.Test.YtalbbbpbkfmmmaaRows
import Derived.Test.YtalbbbpbkfmmmaaChecked
import Derived.Shelf.SlSortCmp.WholeK
import Derived.Shelf.SlSortCmp.NoneTotal
import Derived.Shelf.SortM.SortNone
import Derived.OpenShut
import Derived.ProofKit
import Derived.ChangeShapes
import Derived.Test.YtalbbbpbkfmmmaaOkB
set_option linter.unusedSimpArgs false
set_option linter.unusedVariables false
set_option linter.unusedSectionVars false
set_option linter.defProp false
namespace Nm
open Go
variable [Val]
omit [Val] in
theorem x1:Extern.allNextRows.lookup "math/bits.Add64" =none:=by kernel_rfl
omit [Val] in
theorem x2:Extern.allNextRows.lookup "" =none:=by kernel_rfl
omit [Val] in
theorem x3:Extern.allGenericRows.lookup "math/bits.Add64" =none:=by kernel_rfl
omit [Val] in
theorem x4:Extern.allTypedRows.lookup "math/bits.Add64" =none:=by kernel_rfl
omit [Val] in
theorem x5:Extern.allRows.lookup "math/bits.Add64" =some add64Entry:=by kernel_rfl
omit [Val] in
theorem y1:Extern.allNextRows.lookup "internal/bytealg.IndexByteString" =none:=by kernel_rfl
omit [Val] in
theorem y3:Extern.allGenericRows.lookup "internal/bytealg.IndexByteString" =none:=by kernel_rfl
omit [Val] in
theorem y4:Extern.allTypedRows.lookup "internal/bytealg.IndexByteString" =none:=by kernel_rfl
omit [Val] in
theorem y5:Extern.allRows.lookup "internal/bytealg.IndexByteString" =some Extern.BytealgIndexByte.indexByte:=by kernel_rfl
omit [Val] in
theorem x7:Extern.allNextRows.lookup "internal/bytealg.CountString" =none:=by kernel_rfl
omit [Val] in
theorem x9:Extern.allGenericRows.lookup "internal/bytealg.CountString" =none:=by kernel_rfl
omit [Val] in
theorem x8:Extern.allTypedRows.lookup "internal/bytealg.CountString" =none:=by kernel_rfl
omit [Val] in
theorem yb:Extern.allRows.lookup "internal/bytealg.CountString" =some Extern.BytealgCount.count:=by kernel_rfl
omit [Val] in
theorem tc (c:Nat) (hc:c<=255):∀(l:List UInt8) (n:Nat),qW c (l.map UInt8.toNat) n=n+Lib.countByte l c.toUInt8:=by
 intro l
 induction l with
 |nil=>intro n;rfl
 |cons x l ih=>
  intro n
  have e:qW c (List.map UInt8.toNat (x::l)) n=cond (Nat.beq x.toNat c) (ah (Nat.succ n) (qW c (l.map UInt8.toNat))) (qW c (l.map UInt8.toNat) n):=rfl
  rw[e,aa,ih,ih]
  unfold Lib.countByte
  rw[List.count_cons]
  have hb:(x==c.toUInt8)=Nat.beq x.toNat c:=by
   rw[Bool.eq_iff_iff]
   simp only[beq_iff_eq,Nat.beq_eq]
   constructor
   ·intro h;rw[h];simp;omega
   ·intro h;rw[←h];simp
  rw[hb]
  cases Nat.beq x.toNat c<;>simp<;>omega
omit [Val] in
theorem sm (c:Nat):∀(l:List Nat) (i:Nat),pc c l i=(l.findIdx? (fun x=>x==c)).map (·+i):=by
 intro l
 induction l with
 |nil=>intro i;rfl
 |cons x l ih=>
  intro i
  have e:pc c (x::l) i=cond (Nat.beq x c) (some i) (ah (Nat.succ i) (pc c l)):=rfl
  rw[e,aa,ih,List.findIdx?_cons]
  cases h:Nat.beq x c with
  |true=>have:=yi h;simp[this]
  |false=>
   have:=Nat.ne_of_beq_eq_false h
   simp only[cond_false]
   rw[ye (by simpa using this)]
   cases List.findIdx? (fun x=>x==c) l with
   |none=>rfl
   |some j=>simp;omega
omit [Val] in
theorem n4 (p:Nat->Bool):∀n,(List.range n).find? p=none↔∀i,i<n->p i=false:=by
 intro n;simp
omit [Val] in
theorem lG (s:ByteArray) (c:Nat) (hc:c<=255):firstIdx s c.toUInt8=match pc c (s.data.toList.map UInt8.toNat) 0 with|some i=>(i:Int)|none=>-1:=by
 rw[sm]
 have hsz:s.data.toList.length=s.size:=aI s
 have hml:(s.data.toList.map UInt8.toNat).length=s.size:=by rw[List.length_map,hsz]
 have hat:∀i (h:i<s.size),(s[i]! ==c.toUInt8)=(((s.data.toList.map UInt8.toNat)[i]'(by rw[hml];exact h))==c):=by
  intro i h
  have e:s[i]! =s.data.toList[i]'(by rw[hsz];exact h):=by
   rw[getElem!_pos s i h];simp[ByteArray.getElem_eq_getElem_data]
  rw[e,List.getElem_map]
  rw[Bool.eq_iff_iff]
  simp only[beq_iff_eq]
  constructor
  ·intro h;rw[h];simp;omega
  ·intro h;rw[←h];simp
 unfold firstIdx
 cases hf:(s.data.toList.map UInt8.toNat).findIdx? (fun x=>x==c) with
 |none=>
  have h1:(List.range s.size).find? (fun i=>s[i]! ==c.toUInt8)=none:=by
   rw[n4]
   intro i hi
   rw[hat i hi]
   rw[List.findIdx?_eq_none_iff] at hf
   exact hf _ (List.getElem_mem _)
  rw[h1];rfl
 |some j=>
  rw[List.findIdx?_eq_some_iff_getElem] at hf
  obtain ⟨hj,h1,h2⟩:=hf
  have hj':j<s.size:=by rw[←hml];exact hj
  have h3:(List.range s.size).find? (fun i=>s[i]! ==c.toUInt8)=some j:=by
   rw[List.find?_range_eq_some]
   refine ⟨?_,by simpa using hj',fun k hk=> ?_⟩
   ·rw[hat j hj'];exact h1
   ·rw[hat k (by omega)]
    simpa using h2 k hk
  rw[h3];simp
section
variable {P:Program} {S:bn} {B:Nat}
theorem oU {ι:ax} {fn:Func} {e:Ext} {f:Nat} (hf:P.funcs[f]? =some fn) (hb:fn.body=none) (he:om fn=some e) {args:List NV} {args':List Value} (ha:VRL ι args args') {v:NV} (hv:gj e args=some v) (w:World):
 ∃v',(callFunc f args'.toArray).run P w= .ok (.value v') w/\VR ι v v':=by
 unfold om at he
 obtain ⟨ho,he⟩:=am he
 have ho':fn.origin= "" :=by simpa using ho
 cases hn:(fn.name== "math/bits.Add64") with
 |true=>
  rw[hn] at he
  cases he
  have hname:fn.name= "math/bits.Add64" :=by simpa using hn
  have hnx:Extern.findNext fn=none:=by unfold Extern.findNext;rw[hname,ho'];simp only[x1,x2];rfl
  have hfi:Extern.find fn=some add64Entry:=by unfold Extern.find;rw[hname,ho'];simp only[x3,x4,x5];rfl
  have hcall:=run_callFunc_extern hf (by rw[hname];decide) (by rw[hb];rfl) hnx hfi args'.toArray w
  unfold gj at hv
  split at hv
  ·rename_i x y c hargs
   obtain ⟨hc1,hv⟩:=am hv
   rw[aa,aa] at hv
   cases hv
   cases ha with
   |cons _ _ _ _ h1 ha=>
    cases ha with
    |cons _ _ _ _ h2 ha=>
     cases ha with
     |cons _ _ _ _ h3 ha=>
      cases ha
      cases h1;cases h2;cases h3
      have hc:=Nat.le_of_ble_eq_true hc1
      refine ⟨_, ?_,.tup [_,_] [_,_] (.cons _ _ _ _ (.int .u64 _) (.cons _ _ _ _ (.int .u64 _) .nil))⟩
      have:=run_add64 (P:=P) (Int.ofNat x) (Int.ofNat y) (Int.ofNat c) (Int.natCast_nonneg _) (Int.natCast_nonneg _) (Int.natCast_nonneg _) (by show (c:Int)<=1;omega) w
      rw[hcall]
      show Result.andThen (Sem.run P (add64Entry #[.int .u64 (Int.ofNat x),.int .u64 (Int.ofNat y),.int .u64 (Int.ofNat c)]) w) _=_
      rw[this]
      rfl
  ·rename_i h;cases h
  ·rename_i h;cases h
  ·cases hv
 |false=>
  rw[hn] at he
  simp only[cond_false] at he
  cases hn2:(fn.name== "internal/bytealg.IndexByteString") with
  |true=>
   rw[hn2] at he
   cases he
   have hname:fn.name= "internal/bytealg.IndexByteString" :=by simpa using hn2
   have hnx:Extern.findNext fn=none:=by unfold Extern.findNext;rw[hname,ho'];simp only[y1,x2];rfl
   have hfi:Extern.find fn=some Extern.BytealgIndexByte.indexByte:=by unfold Extern.find;rw[hname,ho'];simp only[y3,y4,y5];rfl
   have hcall:=run_callFunc_extern hf (by rw[hname];decide) (by rw[hb];rfl) hnx hfi args'.toArray w
   unfold gj at hv
   split at hv
   ·rename_i h;cases h
   ·rename_i s c _
    obtain ⟨hc1,hv⟩:=am hv
    have hc:=Nat.le_of_ble_eq_true hc1
    cases ha with
    |cons _ _ _ _ h1 ha=>
     cases ha with
     |cons _ _ _ _ h2 ha=>
      cases ha
      cases h2
      cases h1 with
      |str l s' hs=>
       subst hs
       have hrun:=run_indexByte_string (P:=P) s' (Int.ofNat c) w
       refine ⟨.int .i64 (firstIdx s' c.toUInt8), ?_, ?_⟩
       ·rw[hcall]
        show Result.andThen (Sem.run P (Extern.BytealgIndexByte.indexByte #[.string s',.int .u8 (Int.ofNat c)]) w) _=_
        rw[hrun]
        rfl
       ·rw[lG s' c hc]
        cases hi:pc c (s'.data.toList.map UInt8.toNat) 0 with
        |none=>rw[hi] at hv;cases hv;exact .int .i64 _
        |some i=>rw[hi] at hv;cases hv;exact .int .i64 _
   ·rename_i h;cases h
   ·cases hv
  |false=>
   rw[hn2] at he
   simp only[cond_false] at he
   obtain ⟨hn3,he⟩:=am he
   cases he
   have hname:fn.name= "internal/bytealg.CountString" :=by simpa using hn3
   have hnx:Extern.findNext fn=none:=by unfold Extern.findNext;rw[hname,ho'];simp only[x7,x2];rfl
   have hfi:Extern.find fn=some Extern.BytealgCount.count:=by unfold Extern.find;rw[hname,ho'];simp only[x9,x8,yb];rfl
   have hcall:=run_callFunc_extern hf (by rw[hname];decide) (by rw[hb];rfl) hnx hfi args'.toArray w
   unfold gj at hv
   split at hv
   ·rename_i h;cases h
   ·rename_i h;cases h
   ·rename_i s c _
    obtain ⟨hc1,hv⟩:=am hv
    have hc:=Nat.le_of_ble_eq_true hc1
    cases hv
    cases ha with
    |cons _ _ _ _ h1 ha=>
     cases ha with
     |cons _ _ _ _ h2 ha=>
      cases ha
      cases h2
      cases h1 with
      |str l s' hs=>
       subst hs
       refine ⟨.int .i64 (Lib.countByte s'.data.toList c.toUInt8), ?_, ?_⟩
       ·rw[hcall]
        show Result.andThen (Sem.run P (Extern.BytealgCount.count #[.string s',.int .u8 (Int.ofNat c)]) w) _=_
        rw[Lib.run_countString]
        rfl
       ·rw[tc c hc,Nat.zero_add]
        exact .int .i64 _
   ·cases hv
def cJ (P:Program) (S:bn):Prop:=
 ∀(ι:ax) (B:Nat) (h:NH) (w:World) (f:Nat) (args:List NV) (args':List Value) (v:NV) (h':NH),S f args h=some (v,h')->Rel P ι B h w->B<=w.heap.size->VRL ι args args'->
  jF P ι B h w ((callFunc f args'.toArray).run P w) (.val v none h')
theorem rK:cJ P xX:=fun _ _ _ _ _ _ _ _ _ h=>by cases h
omit [Val] in
theorem o7 {f:Nat} {e:Ext} (h:an P f=some (.ext e)):∃fn,P.funcs[f]? =some fn/\fn.body=none/\om fn=some e:=by
 unfold an at h
 split at h
 ·rename_i fn hfn
  cases hn:(fn.name== "runtime.NumGoroutine") with
  |true=>rw[hn] at h;cases h
  |false=>
   rw[hn] at h
   simp only[cond_false] at h
   split at h
   ·split at h
    ·rw[aa] at h;cases h
    ·cases h
   ·rename_i hb
    split at h
    ·rename_i e' he;cases h;exact ⟨fn,hfn,hb,he⟩
    ·cases h
 ·cases h
omit [Val] in
theorem cI {fr:Frame} {w:World} {e:Ending} (hk:fr.kind= .normal) (h:fr.going P w e):fr.leaving P w e:=by
 cases e with
 |returned v=>exact ⟨h.1,h.2.1,hk,h.2.2⟩
 |panicked c=>exact h
 |outgrown=>trivial
theorem iw (hK:fa P) (hS:cJ P S) {n:Nat} (hO:dR P S n) (ι:ax) (B:Nat) (h:NH) (w:World) (f:Nat) (args:List NV) (args':List Value) (hR:Rel P ι B h w) (hB:B<=w.heap.size) (ha:VRL ι args args'):
 jF P ι B h w ((callFunc f args'.toArray).run P w) (bg P S (ev P S n) f args h):=by
 unfold bg
 cases hs:S f args h with
 |some v=>exact hS ι B h w f args args' v.1 v.2 hs hR hB ha
 |none=>
  dsimp only
  cases hcf:an P f with
  |none=>trivial
  |some x=>
   cases x with
   |ext e=>
    dsimp only
    cases hx:gj e args with
    |none=>trivial
    |some v=>
     intro c cs
     obtain ⟨fn,h1,h2,h3⟩:=o7 hcf
     obtain ⟨v',e1,e2⟩:=oU h1 h2 h3 ha hx w
     exact ⟨ι,v',w,e2,hR,hB,.refl _ _ _,.inl e1⟩
   |code nf=>
    dsimp only
    have hD:=gC hK hO 3 f args none h
    obtain ⟨fn,code,e1,e2,e3,_⟩:=ei hcf
    have hent:=gk (P:=P) e1 e2 e3 args'.toArray w
    cases hr:bB P (ev P S n) 3 f args none h with
    |fail=>trivial
    |val v x h'=>
     intro c cs
     obtain ⟨_,hF⟩:=hD (by rw[hr];simp)
     have hF:=hF B ι w args' .normal (c::cs) hR hB ha (fun b hb=>by unfold tryRecover;rw[hb])
     rw[hr] at hF
     obtain ⟨ι',v',w',cs',fr,f1,f2,f3,f4,f5,f6,f7,_,f8⟩:=hF
     obtain ⟨rfl,_⟩:=f5.none
     exact ⟨ι',v',w',f1,f2,f3,f4,.inr ⟨w,.inl ⟨f,args'.toArray,hent,Steps.trans f6 (.one (step_leave_returned (cI f7 f8)))⟩⟩⟩
    |pan v x h'=>
     intro c cs
     obtain ⟨_,hF⟩:=hD (by rw[hr];simp)
     have hF:=hF B ι w args' .normal (c::cs) hR hB ha (fun b hb=>by unfold tryRecover;rw[hb])
     rw[hr] at hF
     obtain ⟨ι',v',w',cs',fr,f1,f2,f3,f4,f5,f6,f7,_,f8⟩:=hF
     obtain ⟨rfl,_⟩:=f5.none
     exact ⟨ι',v',w',f1,f2,f3,f4,w,.inl ⟨f,args'.toArray,hent,Steps.trans f6 (.one (step_leave_panicked (cI f7 f8)))⟩⟩
noncomputable def kd:List D4->List NV->Tm->Tm
 |p::ps,v::vs,t=>kd ps vs (NT.put p v t)
 |_,_,t=>t
omit [Val] in
theorem gN {r:CR} (hr:r≠.fail) {K:Tm->CR}:∀{ps:List D4} {vs:List NV} {t:Tm},bR .fail ps vs t K=r->vs.length=ps.length/\K (kd ps vs t)=r:=by
 intro ps
 induction ps with
 |nil=>
  intro vs t h
  cases vs with
  |nil=>exact ⟨rfl,h⟩
  |cons v vs=>exact yd (show CR.fail=r from h).symm hr
 |cons p ps ih=>
  intro vs t h
  cases vs with
  |nil=>exact yd (show CR.fail=r from h).symm hr
  |cons v vs=>
   have e:bR .fail (p::ps) (v::vs) t K=NT.set p v t fun t=>bR .fail ps vs t K:=rfl
   rw[e,NT.set_eq] at h
   obtain ⟨h1,h2⟩:=ih h
   exact ⟨by simp[h1],h2⟩
theorem ta {ι:ax}:∀{ps:List Nat} {vs:List NV} {vs':List Value} {t:Tm} {a:Array Value},VRL ι vs vs'->TR ι t a->(∀q∈ps,q<a.size)->
 TR ι (kd (ps.map D4.of) vs t) ((ps.zip vs').foldl (fun tmps (t,a)=>tmps.setIfInBounds t a) a)/\((ps.zip vs').foldl (fun tmps (t,a)=>tmps.setIfInBounds t a) a).size=a.size:=by
 intro ps
 induction ps with
 |nil=>intro vs vs' t a _ hT _;cases vs<;>exact ⟨hT,rfl⟩
 |cons p ps ih=>
  intro vs vs' t a hv hT hp
  cases hv with
  |nil=>exact ⟨hT,rfl⟩
  |cons v v' vs vs' h1 h2=>
   have hT':=hT.put (hp p (by simp)) h1
   obtain ⟨q1,q2⟩:=ih h2 hT' (fun q hq=>by simp;exact hp q (by simp[hq]))
   exact ⟨q1,q2.trans (by simp)⟩
def wH (P:Program) (B:Nat) (ι:ax) (h:NH) (w:World) (fr0:Frame) (c:Frame) (cs:List Frame):CR->Prop
 | .fail=>True
 | .val v _ h'=>∃ι' v' w',VR ι' v v'/\Rel P ι' B h' w'/\B<=w'.heap.size/\Grow ι h w ι' h' w'/\Steps P (lone fr0 (c::cs) w) (lone (c.finish v') cs w')
 | .pan v _ h'=>∃ι' v' w',VR ι' v v'/\Rel P ι' B h' w'/\B<=w'.heap.size/\Grow ι h w ι' h' w'/\Steps P (lone fr0 (c::cs) w) (lone (c.raise [{v:=v',recovered:=false}]) cs w')
theorem gG {n:Nat} (hO:dR P S n) (ι:ax) (B:Nat) (h:NH) (w:World) (l:D4) (p:Pl) (args:List NV) (args':List Value) (hR:Rel P ι B h w) (hB:B<=w.heap.size) (ha:VRL ι args args') (hp:ι l=some p):
 jF P ι B h w ((Instr.yield p.b args'.toArray).run P w) (round (ev P S n) l args h):=by
 by_cases hne:round (ev P S n) l args h= .fail
 ·rw[hne];trivial
 generalize hrr:round (ev P S n) l args h=r at hne
 have hrr':=hrr
 unfold round at hrr'
 obtain ⟨ob,ho1,ho2⟩:=hR.obj _ _ hp
 rw[ho1] at hrr'
 cases ob with
 |loop st pd tm ps na nb=>
  cases st with
  |succ st=>exact yd hrr'.symm hne
  |zero=>
   obtain ⟨L,l1,l2,l3,l4,l5,l6,l7,⟨fn,bl,la,lb,l8,l9,l10,l11,_⟩,l12⟩:=ho2
   obtain ⟨hlen,hrr2⟩:=gN hne hrr'
   have hsz:args'.toArray.size=L.params.size:=by
    have:=ha.length
    rw[l5] at hlen
    simp at hlen ⊢;omega
   have hy:=run_yield (P:=P) l1 hsz
   obtain ⟨t1,t2⟩:=ta (ps:=L.params.toList) ha l4 l12
   have hz:(L.params.zip args'.toArray).foldl (fun tmps (t,a)=>tmps.setIfInBounds t a) L.tmps=(L.params.toList.zip args').foldl (fun tmps (t,a)=>tmps.setIfInBounds t a) L.tmps:=by
    rw[←Array.foldl_toList,Array.toList_zip]
   rw[hz] at hy
   rw[←l5] at t1
   generalize (L.params.toList.zip args').foldl (fun tmps (t,a)=>tmps.setIfInBounds t a) L.tmps=tmps at hy t1 t2
   let b:Frame:={(default:Frame) with fn:=L.fn,kind:= .normal,roundOf:=some p.b}
   have hfr:Frame.round p.b L.fn tmps L.assign L.body .normal=b.atR {tmps:=tmps,defers:= []} [.code L.assign,.beginRound,.code L.body]:=by
    simp[Frame.round,Frame.atR,b]
   cases hev:ev P S n (some l) na ⟨kd ps args tm, [],none,h⟩ with
   |fail=>rw[hev] at hrr2;exact yd hrr2.symm hne
   |mk o d=>
    rw[hev] at hrr2
    cases o with
    |norm=>
     dsimp only at hrr2
     cases hdd:d.dfs with
     |cons x xs=>rw[hdd] at hrr2;exact yd hrr2.symm hne
     |nil=>
      rw[hdd] at hrr2
      have hrb:bj (ev P S n) l nb d.t d.h=r:=hrr2
      have main:∀(c:Frame) (cs:List Frame),wH P B ι h w (Frame.round p.b L.fn tmps L.assign L.body .normal) c cs r:=by
       intro c cs
       have hctx:∀ι:ax,mi ι b.kind (c::cs) none:=fun ι b' hb'=>by unfold tryRecover;rw[hb']
       have hs:Sd P ι B (some l) [] none h b ([]:List Deferred) (c::cs) w:=⟨trivial,hctx ι,hR,hB,⟨p,hp,rfl⟩⟩
       have hgo:=hO L.assign na fn [] [] l6 l10 (some l) ⟨kd ps args tm, [],none,h⟩ .norm d hev (.code L.assign) (.inl rfl) B b [.beginRound,.code L.body] ι {tmps:=tmps,defers:= []} (c::cs) w l8 t1 hs (by rw[t2];exact l9)
       obtain ⟨ι1,a1,cs1,w1,g1,g2,g3,g4⟩:=hgo
       obtain ⟨rfl,hctx1⟩:=g3.ca.none
       have sd1:=g3.sd
       have hdef1:a1.defers= []:=by
        have:=sd1.df
        rw[hdd] at this
        cases hq:a1.defers with
        |nil=>rfl
        |cons d ds=>rw[hq] at this;exact this.elim
       have hp1:ι1 l=some p:=g3.gr.le _ _ hp
       obtain ⟨ob1,ho3,ho4⟩:=sd1.rel.obj _ _ hp1
       have hrb':=hrb
       unfold bj at hrb'
       rw[ho3] at hrb'
       cases ob1 with
       |loop st1 pd1 tm1 ps1 na1 nb1=>
        cases st1 with
        |succ st1=>exact yd hrb'.symm hne
        |zero=>
         replace hrb':d.h.set l (.loop 1 pd1 tm1 ps1 na1 nb1) (fun h=>match ev P S n (some l) nb ⟨d.t, [],none,h⟩ with
          | .mk o d=>(match o with
           | .pan v=>(match d.dfs with| []=>CR.pan v none d.h|_=> .fail)
           |o=>cP l o d.h)
          | .fail=> .fail)=r:=hrb'
         rw[NH.set_eq] at hrb'
         obtain ⟨L1,m1,m2,m3⟩:=ho4
         have hbr:=run_beginRound (P:=P) m1 m2
         have hlt1:=sd1.rel.lt _ _ hp1
         have hst1:SR 1 ({L1 with state:= .busy}:Loop).state:=rfl
         obtain ⟨u1,u2⟩:=sd1.rel.turn (w':=w1.putObj p.b (.loop {L1 with state:= .busy})) hp1 (by rw[ho3];simp) (.loop 1 pd1 tm1 ps1 na1 nb1)
          ⟨_,World.putObj_heap_same hlt1,hst1,m3⟩ (by simp) rfl rfl rfl (fun q hq=>World.putObj_heap_other hq)
         have hbeg:=stepR_beginRound (P:=P) (b:=b) (a:=a1) (k:= [.code L.body]) (cs:=c::cs) rfl hbr
         have hs2:Sd P ι1 B (some l) [] none (d.h.put l (.loop 1 pd1 tm1 ps1 na1 nb1)) b a1.defers (c::cs) (w1.putObj p.b (.loop {L1 with state:= .busy})):=
          ⟨by rw[hdef1];trivial,hctx ι1,u1,by simpa using sd1.base,⟨p,hp1,rfl⟩⟩
         generalize w1.putObj p.b (.loop {L1 with state:= .busy})=w2 at *
         generalize d.h.put l (.loop 1 pd1 tm1 ps1 na1 nb1)=h2 at *
         cases hev2:ev P S n (some l) nb ⟨d.t, [],none,h2⟩ with
         |fail=>rw[hev2] at hrb';exact yd hrb'.symm hne
         |mk o2 d2=>
          rw[hev2] at hrb'
          have hgo2:=hO L.body nb fn bl la l7 l11 (some l) ⟨d.t, [],none,h2⟩ o2 d2 hev2 (.code L.body) (.inl rfl) B b [] ι1 a1 (c::cs) w2 l8 g2 hs2 (by rw[g4,t2];exact l9)
          obtain ⟨ι3,a3,cs3,w3,e1,e2,e3,e4⟩:=hgo2
          obtain ⟨rfl,_⟩:=e3.ca.none
          have hp3:ι3 l=some p:=e3.gr.le _ _ hp1
          have hpre:Steps P (lone (Frame.round p.b L.fn tmps L.assign L.body .normal) (c::cs) w) (lone (b.atR a1 [.code L.body]) (c::cs) w2):=by
           rw[hfr];exact Steps.trans g1 (.one hbeg)
          have hgr:=(g3.gr.trans u2).trans e3.gr
          have fin:∀(jump:Option Code) (st':Nat) (pd':Jump),cP l o2 d2.h=r->(∀tm ps na nb,(match o2 with
           | .norm=>(d2.h.set l (.loop 0 .none tm ps na nb) fun h=>CR.val (.bool true) none h)
           | .ret=>d2.h.set l (.loop 2 .ret tm ps na nb) fun h=> .val (.bool false) none h
           | .exit id=>d2.h.set l (.loop 2 (.exit id) tm ps na nb) fun h=> .val (.bool false) none h
           | .pan _=> .fail)= .val (.bool jump.isNone) none (d2.h.put l (.loop st' pd' tm ps na nb)))->
           (SR st' (if jump.isNone then .ready else .done))->JR pd' jump->
           (∀(v:Value) (w4:World),(Instr.endRound p.b jump).run P w3= .ok v w4->Steps P (lone (b.atR a1 [.code L.body]) (c::cs) w2) (lone (c.finish v) cs w4))->
           wH P B ι h w (Frame.round p.b L.fn tmps L.assign L.body .normal) c cs r:=by
           intro jump st' pd' hre hval hSR hJR hsteps
           unfold cP at hre
           obtain ⟨ob3,ho5,ho6⟩:=e3.sd.rel.obj _ _ hp3
           rw[ho5] at hre
           cases ob3 with
           |loop st3 pd3 tm3 ps3 na3 nb3=>
            have hre':=(hval tm3 ps3 na3 nb3).symm.trans hre
            rw[←hre']
            obtain ⟨L3,k1,k2,k3,k4⟩:=ho6
            have hend:=run_endRound (P:=P) jump k1
            have hlt3:=e3.sd.rel.lt _ _ hp3
            obtain ⟨z1,z2⟩:=e3.sd.rel.turn (w':=w3.putObj p.b (.loop {L3 with state:=if jump.isNone then .ready else .done,pending:=jump})) hp3 (by rw[ho5];simp) (.loop st' pd' tm3 ps3 na3 nb3)
             ⟨_,World.putObj_heap_same hlt3,hSR,hJR,k4⟩ (by simp) rfl rfl rfl (fun q hq=>World.putObj_heap_other hq)
            exact ⟨ι3,.bool jump.isNone,_,.bool _,z1,by simpa using e3.sd.base,hgr.trans z2,hpre.trans (hsteps _ _ hend)⟩
           |_=>exact yd hre.symm hne
          cases o2 with
          |norm=>
           exact fin none 0 .none hrb' (fun tm ps na nb=>NH.set_eq _ _ _ _) rfl rfl fun v w4 he=>Steps.trans e1 (.one (stepR_round_end rfl rfl he))
          |ret=>
           obtain ⟨k0,e1⟩:=e1
           exact fin (some .ret) 2 .ret hrb' (fun tm ps na nb=>NH.set_eq _ _ _ _) rfl rfl fun v w4 he=>Steps.trans e1 (.one (stepR_round_ret rfl rfl he))
          |exit id=>
           obtain ⟨k0,e0,e1⟩:=e1
           exact fin (some (.exit id)) 2 (.exit id) hrb' (fun tm ps na nb=>NH.set_eq _ _ _ _) rfl rfl fun v w4 he=>Steps.trans e1 (.one (stepR_round_exit rfl rfl (by rw[e0];rfl) he))
          |pan v=>
           dsimp only at hrb'
           cases hd2:d2.dfs with
           |cons x xs=>rw[hd2] at hrb';exact yd hrb'.symm hne
           |nil=>
            rw[hd2] at hrb'
            rw[←show CR.pan v none d2.h=r from hrb']
            obtain ⟨td,v',f1,f2⟩:=e1
            have hdef3:a3.defers= []:=by
             have:=e3.sd.df
             rw[hd2] at this
             cases hq:a3.defers with
             |nil=>rfl
             |cons d ds=>rw[hq] at this;exact this.elim
            refine ⟨ι3,v',w3,f1,e3.sd.rel,e3.sd.base,hgr,hpre.trans (Steps.trans f2 (.one (step_leave_panicked ⟨rfl,hdef3,fn,l8⟩)))⟩
       |_=>exact yd hrb'.symm hne
      cases r with
      |fail=>trivial
      |val v x h'=>
       intro c cs
       obtain ⟨ι',v',w',q1,q2,q3,q4,q5⟩:=main c cs
       exact ⟨ι',v',w',q1,q2,q3,q4,.inr ⟨w,.inr ⟨p.b,L.fn,tmps,L.assign,L.body,hy,q5⟩⟩⟩
      |pan v x h'=>
       intro c cs
       obtain ⟨ι',v',w',q1,q2,q3,q4,q5⟩:=main c cs
       exact ⟨ι',v',w',q1,q2,q3,q4,w,.inr ⟨p.b,L.fn,tmps,L.assign,L.body,hy,q5⟩⟩
    |_=>exact yd hrr2.symm hne
 |_=>exact yd hrr'.symm hne
theorem mt (hM:P.follows .mixedOrders=true) (hK:fa P) (hS:cJ P S):∀n,dR P S n/\CallsOK P S (ev P S n):=by
 intro n
 induction n with
 |zero=>
  have h0:dR P S 0:=fun c nc fn bl la _ _ rnd d o d' h=>by cases h
  exact ⟨h0,⟨iw hK hS h0,gG h0⟩⟩
 |succ n ih=>
  have h1:dR P S (n+1):=o9 hM ih.1 ih.2
  exact ⟨h1,⟨iw hK hS h1,gG h1⟩⟩
end
end Nm
namespace Nm
open Go Go.RowKit
noncomputable def rm (n:Nat):NT NO:=Nat.rec .leaf (fun k t=>NT.put (D4.of k) .dead t) n
noncomputable def G0:NH:=⟨rm NG,D4.of NG⟩
theorem pg (n k:Nat):NT.get (D4.of k) (rm n)=if k<n then some .dead else none:=by
 induction n with
 |zero=>exact NT.get_leaf _
 |succ n ih=>
  show NT.get (D4.of k) (NT.put (D4.of n) .dead (rm n))=_
  by_cases e:k=n
  ·subst e;rw[NT.get_put_same,yf (Nat.lt_succ_self k)]
  ·rw[NT.get_put_ne (fun x=>e (D4.of_inj x)),ih]
   by_cases h:k<n
   ·rw[yf h,yf (by omega)]
   ·rw[ye h,ye (by omega)]
theorem rN (i:D4):G0.get i=if i.toNat<NG then some .dead else none:=by
 rw[←pg NG i.toNat,D4.of_toNat];rfl
def ι0:ax:=fun i=>if i.toNat<NG then some ⟨i.toNat,0,GN i.toNat⟩ else none
theorem qh {i:D4} {p:Pl} (h:ι0 i=some p):i.toNat<NG/\p=⟨i.toNat,0,GN i.toNat⟩:=by
 unfold ι0 at h
 split at h
 ·exact ⟨‹_›,(Option.some.inj h).symm⟩
 ·cases h
theorem wY:vc ι0:=fun g hg=>by unfold ι0;rw[D4.toNat_of,yf hg]
theorem d9 {i:D4} {p:Pl} (h:ι0 i=some p):G0.get i=some .dead:=by rw[rN,yf (qh h).1]
theorem bz:¬Live (some .dead):=fun h=>h.1 rfl
variable [Val]
theorem vb (P:Program) (w:World) (hw:NG<=w.heap.size):Rel P ι0 w.heap.size G0 w where
 obj:=fun i p h=>⟨.dead,d9 h,trivial⟩
 inj:=fun i j p q h _ _ hl _=>yd (d9 h▸hl) bz
 base:=fun i p h hl=>yd (d9 h▸hl) bz
 lt:=fun i p h=>by have:=qh h;rw[this.2];exact Nat.lt_of_lt_of_le this.1 hw
 fresh:=fun i o h=>by
  rw[rN] at h
  split at h
  ·show i.toNat<(D4.of NG).toNat;rw[D4.toNat_of];assumption
  ·cases h
 gl:=wY
theorem Rel.room {P:Program} {ι:ax} {B:Nat} {h:NH} {w:World} (r:Rel P ι B h w):NG<=w.heap.size:=by
 rcases Nat.eq_zero_or_pos NG with h0|h0
 ·rw[h0];exact Nat.zero_le _
 ·have h1:=r.gl (NG - 1) (by omega)
  have h2:=r.lt _ _ h1
  dsimp only at h2
  omega
noncomputable def kT (m:NH) (cf:Nat->Option NFn) (S:bn) (n f:Nat) (args:List NV):CR:=bB cf (ev cf S n) 3 f args none m
noncomputable def mF (cf:Nat->Option NFn) (S:bn) (n f:Nat) (args:List NV):CR:=kT G0 cf S n f args
noncomputable def mQ (r:CR):Bool:=
 match r with
 | .val (.bool b) _ _=>b
 |_=>false
noncomputable def aE (cf:Nat->Option NFn) (S:bn) (n f:Nat) (args:List NV):Bool:=mQ (mF cf S n f args)
theorem lZ {P:Program} {S:bn} (hM:P.follows .mixedOrders=true) (hP:P.check= .ok ()) (hS:cJ P S) {m:NH} {n f:Nat} {args:List NV} {v:NV} {x:Option NV} {h:NH} (hr:kT m P S n f args= .val v x h)
 {ι:ax} {w:World} (hR:Rel P ι w.heap.size m w) (hlive:∀i p,ι i=some p->¬Live (m.get i)) {args':List Value} (ha:VRL ι args args'):
 Calls P f args'.toArray w fun e w'=>(∃ι v',e= .returned v'/\VR ι v v'/\Rel P ι w.heap.size h w')/\Below w.heap.size w w':=by
 intro cs
 obtain ⟨hO,_⟩:=mt hM (lP hP) hS n
 have hD:=gC (lP hP) hO 3 f args none m
 obtain ⟨_,hF⟩:=hD (by rw[show bB P (ev P S n) 3 f args none m= .val v x h from hr];simp)
 have hF:=hF w.heap.size ι w args' .normal cs hR (Nat.le_refl _) ha (fun b hb=>by unfold tryRecover;rw[hb])
 rw[show bB P (ev P S n) 3 f args none m= .val v x h from hr] at hF
 obtain ⟨ι',v',w',cs',fr,f1,f2,f3,f4,f5,f6,f7,f8,f9⟩:=hF
 obtain ⟨rfl,_⟩:=f5.none
 refine ⟨.returned v',w',fr,⟨⟨ι',v',rfl,f1,f2⟩,⟨f4.os,f4.tape,f4.output,f4.size,fun k hk=>f4.frame k hk fun i p hi hl=>yd hl (hlive i p hi)⟩⟩,f6,f8,cI f7 f9⟩
theorem sb {P:Program} {S:bn} (hM:P.follows .mixedOrders=true) (hP:P.check= .ok ()) (hS:cJ P S) {n f:Nat} {args:List NV} {v:NV} {x:Option NV} {h:NH} (hr:mF P S n f args= .val v x h) {args':List Value} (ha:VRL ι0 args args') (w:World) (hw:NG<=w.heap.size):
 Calls P f args'.toArray w fun e w'=>(∃ι v',e= .returned v'/\VR ι v v'/\Rel P ι w.heap.size h w')/\Below w.heap.size w w':=
 lZ hM hP hS hr (vb P w hw) (fun i p hi=>by rw[d9 hi];exact bz) ha
theorem pw {P:Program} {S:bn} (hM:P.follows .mixedOrders=true) (hP:P.check= .ok ()) (hS:cJ P S) {m:NH} {n f:Nat} {args:List NV} (hr:mQ (kT m P S n f args)=true)
 {ι:ax} {w:World} (hR:Rel P ι w.heap.size m w) (hlive:∀i p,ι i=some p->¬Live (m.get i)) {args':List Value} (ha:VRL ι args args'):
 Calls P f args'.toArray w fun e w'=>e= .returned (.bool true)/\Below w.heap.size w w':=by
 unfold mQ at hr
 split at hr
 ·rename_i b x h hv
  subst hr
  refine (lZ hM hP hS hv hR hlive ha).mono ?_
  rintro e w' ⟨⟨ι,v',he,hvr,_⟩,hb⟩
  cases hvr
  exact ⟨he,hb⟩
 ·cases hr
theorem rf {P:Program} {S:bn} (hM:P.follows .mixedOrders=true) (hP:P.check= .ok ()) (hS:cJ P S) {n f:Nat} {args:List NV} (hr:aE P S n f args=true) {args':List Value} (ha:VRL ι0 args args') (w:World) (hw:NG<=w.heap.size):
 Calls P f args'.toArray w fun e w'=>e= .returned (.bool true)/\Below w.heap.size w w':=
 pw hM hP hS hr (vb P w hw) (fun i p hi=>by rw[d9 hi];exact bz) ha
end Nm
namespace Nm
open Go Go.RowKit
variable [Val]
mutual
def ce:NV->Bool
 | .bool _| .int _ _| .str _| .nilp| .nils| .nilm| .nilf| .nili=>true
 | .ifc _ v=>ce v
 | .agg l=>eH l
 | .tup l=>eH l
 |_=>false
def eH:List NV->Bool
 | []=>true
 |v::l=>ce v&&eH l
end
mutual
theorem VR.plain {ι ι':ax}:∀{v:NV} {v':Value},VR ι v v'->ce v=true->VR ι' v v'
 |_,_,.bool b,_=> .bool b
 |_,_,.int k n,_=> .int k n
 |_,_,.ige k a n h,_=> .ige k a n h
 |_,_,.ile k a n h,_=> .ile k a n h
 |_,_,.sym k c ts n h hn,_=> .sym k c ts n h hn
 |_,_,.str l s h,_=> .str l s h
 |_,_,.nilp,_=> .nilp
 |_,_,.ptr ..,h=>by simp[ce] at h
 |_,_,.nils,_=> .nils
 |_,_,.slc ..,h=>by simp[ce] at h
 |_,_,.nilm,_=> .nilm
 |_,_,.map ..,h=>by simp[ce] at h
 |_,_,.nilf,_=> .nilf
 |_,_,.fn ..,h=>by simp[ce] at h
 |_,_,.yld ..,h=>by simp[ce] at h
 |_,_,.nili,_=> .nili
 |_,_,.ifc t v v' h,k=> .ifc t v v' (VR.plain h (by simpa [ce] using k))
 |_,_,.agg l l' h h1,k=> .agg l l' (VRL.plain h (by simpa [ce] using k)) h1
 |_,_,.tup l l' h,k=> .tup l l' (VRL.plain h (by simpa [ce] using k))
theorem VRL.plain {ι ι':ax}:∀{l:List NV} {l':List Value},VRL ι l l'->eH l=true->VRL ι' l l'
 |_,_,.nil,_=> .nil
 |_,_,.cons v v' l l' h hl,k=> .cons v v' l l' (VR.plain h (by simp[eH] at k;exact k.1)) (VRL.plain hl (by simp[eH] at k;exact k.2))
end
noncomputable def we (f:Nat) (args:List NV) (v:NV) (S:bn):bn:=fun g l=>
 cond (Nat.beq g f) (cond (fx (cD 3) l args) (fun h=>some (v,h)) (S g l)) (S g l)
noncomputable def lY (cf:Nat->Option NFn) (S:bn) (n f:Nat) (args:List NV) (v:NV):Bool:=
 match mF cf S n f args with
 | .val u _ _=>cond (eH args) (cond (ce v) (cD 5 u v) false) false
 |_=>false
omit [Val] in
theorem lW {P:Program} {self:Option D4->NC->Dyn->Res} {d f:Nat} {args:List NV} {ctx:Option NV} {h:NH} (hn:bB P self d f args ctx h≠.fail):∃nf,an P f=some (.code nf):=by
 cases d with
 |zero=>exact yd rfl hn
 |succ d=>
  rw[eM] at hn
  cases hc:an P f with
  |none=>rw[hc] at hn;exact yd rfl hn
  |some x=>
   cases x with
   |code nf=>exact ⟨nf,rfl⟩
   |ext e=>rw[hc] at hn;exact yd rfl hn
theorem rY {P:Program} {S:bn} (hM:P.follows .mixedOrders=true) (hP:P.check= .ok ()) (hS:cJ P S) {n f:Nat} {args:List NV} {v:NV} (hr:lY P S n f args v=true):cJ P (we f args v S):=by
 intro ι B h w g l l' u hh hg hR hB hl
 have hg':cond (Nat.beq g f) (cond (fx (cD 3) l args) (fun h=>some (v,h)) (S g l)) (S g l) h=some (u,hh):=hg
 by_cases h1:Nat.beq g f=true/\fx (cD 3) l args=true
 ·obtain ⟨h2,h3⟩:=h1
  rw[h2,h3] at hg'
  cases hg'
  have:=yi h2
  subst this
  have:=fH (fm 3) h3
  subst this
  unfold lY at hr
  split at hr
  ·rename_i u x h0 hrun
   obtain ⟨p1,hr⟩:=bA hr
   obtain ⟨p2,hr⟩:=bA hr
   have:=fm _ _ _ hr
   subst this
   intro c cs
   have hcalls:=sb hM hP hS hrun (hl.plain p1) w hR.room
   obtain ⟨e,w',fr,⟨⟨ι1,v',he,hv,_⟩,hb⟩,hcomes,hfn,hleave⟩:=hcalls (c::cs)
   subst he
   obtain ⟨nf,hnf⟩:=lW (show bB P (ev P S n) 3 g l none G0≠.fail by rw[show bB P (ev P S n) 3 g l none G0=_ from hrun];simp)
   obtain ⟨fn,code,e1,e2,e3,_⟩:=ei hnf
   refine ⟨ι,v',w',hv.plain p2,⟨fun i p hi=> ?_,hR.inj,hR.base,fun i p hi=>Nat.lt_of_lt_of_le (hR.lt i p hi) hb.size,hR.fresh,hR.gl⟩,Nat.le_trans hB hb.size, ?_,.inr ⟨w,.inl ⟨g,l'.toArray,gk e1 e2 e3 _ w,Steps.trans hcomes (.one (step_leave_returned hleave))⟩⟩⟩
   ·obtain ⟨o,o1,o2⟩:=hR.obj i p hi
    exact ⟨o,o1,o2.mono (ax.le_refl _) (hb.block _ (hR.lt i p hi))⟩
   ·exact ⟨ax.le_refl _,Nat.le_refl _,fun _ _ x=> .inl x,fun i p x y=> .inr ⟨i,p,x,y,rfl⟩,fun _ _ _=>rfl,hb.size,hb.os,hb.tape,hb.output,fun b hb' _=>hb.block b hb'⟩
  ·cases hr
 ·have:S g l h=some (u,hh):=by
   cases h2:Nat.beq g f with
   |false=>rw[h2] at hg';exact hg'
   |true=>
    rw[h2] at hg'
    cases h3:fx (cD 3) l args with
    |false=>rw[h3] at hg';exact hg'
    |true=>exact yd ⟨h2,h3⟩ h1
  exact hS ι B h w g l l' u hh this hR hB hl
noncomputable def ay (P:Program) (k:Nat) (nf:NFun) (f:Nat):Option NFn:=cond (Nat.beq f k) (some (.code nf)) (an P f)
noncomputable def az (m:Nat) (a b:Nat->Option NFn) (f:Nat):Option NFn:=cond (Nat.ble f m) (a f) (b f)
def dn (P:Program) (cf:Nat->Option NFn):Prop:=∀f,cf f=an P f
omit [Val] in
theorem af {P:Program} {k:Nat} {nf:NFun} (h:an P k=some (.code nf)):dn P (ay P k nf):=fun f=>by
 unfold ay
 cases hb:Nat.beq f k with
 |false=>rfl
 |true=>rw[yi hb];exact h.symm
omit [Val] in
theorem ag {P:Program} {m:Nat} {a b:Nat->Option NFn} (ha:dn P a) (hb:dn P b):dn P (az m a b):=fun f=>by
 unfold az
 cases Nat.ble f m with
 |false=>exact hb f
 |true=>exact ha f
omit [Val] in
theorem dn.run {P:Program} {cf:Nat->Option NFn} (h:dn P cf) {S:bn} {n f:Nat} {args:List NV} (hr:aE cf S n f args=true):aE P S n f args=true:=by
 have e:cf=an P:=funext h
 rw[e] at hr;exact hr
omit [Val] in
theorem dn.kept {P:Program} {cf:Nat->Option NFn} (h:dn P cf) {S:bn} {n f:Nat} {args:List NV} {v:NV} (hr:lY cf S n f args v=true):lY P S n f args v=true:=by
 have e:cf=an P:=funext h
 rw[e] at hr;exact hr
end Nm
namespace Nm
open Go Go.RowKit
noncomputable section
end
end Nm
namespace Nm
open Go Go.RowKit
def Le (a b:Option D4->NC->Dyn->Res):Prop:=∀r c d o d',a r c d= .mk o d'->b r c d= .mk o d'
section
variable {P:Program} {S:bn} {a b:Option D4->NC->Dyn->Res}
theorem dN {F G:Nat->List NV->Option NV->NH->CR} (h:∀f l p m r,F f l p m=r->r≠.fail->G f l p m=r) {K:Option NV->NH->CR}:∀(l:List Dfr) (p:Option NV) (m:NH) (r:CR),unwind F K l p m=r->r≠.fail->unwind G K l p m=r:=by
 intro l
 induction l with
 |nil=>exact fun p m r e _=>e
 |cons c l ih=>
  intro p m r e hr
  rw[gH] at e ⊢
  cases c with
  |mark id=>
   dsimp only at e ⊢
   split at e
   ·exact ih _ _ _ e hr
   ·exact yd e.symm hr
  |call f cap=>
   dsimp only at e ⊢
   cases hf:F f cap p m with
   |fail=>rw[hf] at e;exact yd e.symm hr
   |pan v x m'=>rw[hf] at e;exact yd e.symm hr
   |val v x m'=>
    rw[hf] at e
    rw[h f cap p m _ hf (by simp)]
    exact ih _ _ _ e hr
theorem mI (h:Le a b):∀(d f:Nat) (l:List NV) (p:Option NV) (m:NH) (r:CR),bB P a d f l p m=r->r≠.fail->bB P b d f l p m=r:=by
 intro d
 induction d with
 |zero=>intro f l p m r e hr;exact yd e.symm hr
 |succ d ih=>
  intro f l p m r e hr
  rw[eM] at e ⊢
  cases hc:an P f with
  |none=>rw[hc] at e;exact yd e.symm hr
  |some x=>
   cases x with
   |ext x=>rw[hc] at e;exact yd e.symm hr
   |code nf=>
    rw[hc] at e
    dsimp only at e ⊢
    cases ha:a none nf.body ⟨dp l 0 .leaf, [],p,m⟩ with
    |fail=>rw[ha] at e;exact yd e.symm hr
    |mk o d'=>
     rw[ha] at e
     rw[h _ _ _ _ _ ha]
     cases o with
     |norm=>exact dN (fun f l p m r=>ih f l p m r) _ _ _ _ e hr
     |ret=>exact dN (fun f l p m r=>ih f l p m r) _ _ _ _ e hr
     |pan v=>exact dN (fun f l p m r=>ih f l p m r) _ _ _ _ e hr
     |exit id=>exact yd e.symm hr
theorem bK (h:Le a b) {f:Nat} {l:List NV} {m:NH} {r:CR} (e:bg P S a f l m=r) (hr:r≠.fail):bg P S b f l m=r:=by
 unfold bg at e ⊢
 cases hs:S f l m with
 |some v=>rw[hs] at e;exact e
 |none=>
  rw[hs] at e
  dsimp only at e ⊢
  cases hc:an P f with
  |none=>rw[hc] at e;exact e
  |some x=>
   rw[hc] at e
   cases x with
   |ext x=>exact e
   |code nf=>exact mI h _ _ _ _ _ _ e hr
theorem iU (h:Le a b) {l:D4} {bd:NC} {t:Tm} {m:NH} {r:CR} (e:bj a l bd t m=r) (hr:r≠.fail):bj b l bd t m=r:=by
 unfold bj at e ⊢
 split at e
 ·rename_i p tm ps assign body hm
  rw[NH.set_eq] at e ⊢
  cases ha:a (some l) bd ⟨t, [],none,m.put l (.loop 1 p tm ps assign body)⟩ with
  |fail=>rw[ha] at e;exact yd e.symm hr
  |mk o d=>rw[ha] at e;rw[h _ _ _ _ _ ha];exact e
 ·exact yd e.symm hr
theorem nZ (h:Le a b) {l:D4} {args:List NV} {m:NH} {r:CR} (e:round a l args m=r) (hr:r≠.fail):round b l args m=r:=by
 unfold round at e ⊢
 split at e
 ·rename_i x tm ps assign body hm
  obtain ⟨h1,h2⟩:=gN hr e
  have key:∀K:Tm->CR,bR .fail ps args tm K=K (kd ps args tm):=by
   clear e h2 hm
   intro K
   induction ps generalizing args tm with
   |nil=>cases args with
    |nil=>rfl
    |cons=>simp at h1
   |cons q ps ih=>
    cases args with
    |nil=>simp at h1
    |cons v vs=>
     have e:bR .fail (q::ps) (v::vs) tm K=NT.set q v tm fun t=>bR .fail ps vs t K:=rfl
     rw[e,NT.set_eq]
     exact ih _ (by simpa using h1)
  rw[key]
  cases ha:a (some l) assign ⟨kd ps args tm, [],none,m⟩ with
  |fail=>rw[ha] at h2;exact yd h2.symm hr
  |mk o d=>
   rw[ha] at h2
   rw[h _ _ _ _ _ ha]
   cases o with
   |norm=>
    dsimp only at h2 ⊢
    split at h2
    ·exact iU h h2 hr
    ·exact yd h2.symm hr
   |_=>exact yd h2.symm hr
 ·exact yd e.symm hr
theorem iJ (h:Le a b) {rnd:Option D4} {dfs:List Dfr} {ctx:Option NV} {m:NH} {x:NR} {r:OpO} (e:bU P S a rnd dfs ctx m x=r) (hr:r≠.fail):bU P S b rnd dfs ctx m x=r:=by
 cases x with
 |call f l=>
  have e':p9 dfs ctx (bg P S a f l m)=r:=e
  have hn:bg P S a f l m≠.fail:=fun hh=>by rw[hh] at e';exact hr e'.symm
  show p9 dfs ctx (bg P S b f l m)=r
  rw[bK h rfl hn];exact e'
 |yld l args=>
  have e':p9 dfs ctx (round a l args m)=r:=e
  have hn:round a l args m≠.fail:=fun hh=>by rw[hh] at e';exact hr e'.symm
  show p9 dfs ctx (round b l args m)=r
  rw[nZ h rfl hn];exact e'
 |_=>exact e
theorem qF {dst:Option D4} {K L:Dyn->Res} (hk:∀d o d',K d= .mk o d'->L d= .mk o d') {t:Tm} {dfs:List Dfr} {ctx:Option NV} {x:OpO} {o:Out} {d':Dyn} (e:qL dst K t dfs ctx x= .mk o d'):qL dst L t dfs ctx x= .mk o d':=by
 cases x with
 |fail=>cases e
 |next v dfs ctx h=>exact hk _ _ _ e
 |pan v h=>exact e
theorem uR {dst:Option D4} {K:Dyn->Res} {t:Tm} {dfs:List Dfr} {ctx:Option NV} {x:OpO} {o:Out} {d':Dyn} (e:qL dst K t dfs ctx x= .mk o d'):x≠.fail:=by
 rintro rfl;cases e
theorem gL (h:Le a b) {rnd:Option D4}:∀(l:List NOper) (d:Dyn) (o:Out) (d':Dyn),bJ P S a rnd l d= .mk o d'->bJ P S b rnd l d= .mk o d':=by
 intro l
 induction l with
 |nil=>exact fun d o d' e=>e
 |cons x l ih=>
  rintro ⟨t,dfs,ctx,m⟩ o d' e
  rw[bM] at e ⊢
  cases hg:aq t x.guard with
  |none=>rw[hg] at e;cases e
  |some on=>
   rw[hg] at e
   cases on with
   |false=>exact ih _ _ _ e
   |true=>
    dsimp only at e ⊢
    rw[iJ h rfl (uR e)]
    exact qF ih e
theorem jD (h:Le a b) {rnd:Option D4}:∀(l:List NOper) (hs:List (Nat×NH)) (rs:List (Nat×(NH->NR)×NV)) (d:Dyn) (o:Out) (d':Dyn),aZ P S a rnd l hs rs d= .mk o d'->aZ P S b rnd l hs rs d= .mk o d':=by
 intro l
 induction l with
 |nil=>exact fun hs rs d o d' e=>e
 |cons x l ih=>
  rintro hs rs ⟨t,dfs,ctx,m⟩ o d' e
  rw[bt] at e ⊢
  cases hg:aq t x.guard with
  |none=>rw[hg] at e;cases e
  |some on=>
   rw[hg] at e
   cases on with
   |false=>exact ih _ _ _ _ _ e
   |true=>
    dsimp only at e ⊢
    cases hcl:aj x.op with
    |pure=>
     rw[hcl] at e
     dsimp only at e ⊢
     cases hop:ab x.op t m<;>rw[hop] at e<;>first|exact ih _ _ _ _ _ e|cases e
    |alloc=>
     rw[hcl] at e
     dsimp only at e ⊢
     cases ha:ahead x.pre hs with
     |false=>rw[ha] at e;cases e
     |true=>
      rw[ha] at e
      simp only[cond_true] at e ⊢
      cases hop:ab x.op t m<;>rw[hop] at e<;>first|exact ih _ _ _ _ _ e|cases e
    |read=>
     rw[hcl] at e
     dsimp only at e ⊢
     cases hop:ab x.op t m with
     |val v=>
      rw[hop] at e
      dsimp only at e ⊢
      cases hst:cL x.pre (ab x.op t) v hs with
      |false=>rw[hst] at e;cases e
      |true=>rw[hst] at e;exact ih _ _ _ _ _ e
     |_=>rw[hop] at e;cases e
    |eff=>
     rw[hcl] at e
     dsimp only at e ⊢
     cases ha:ahead x.pre hs with
     |false=>rw[ha] at e;cases e
     |true=>
      rw[ha] at e
      simp only[cond_true] at e ⊢
      have hk:∀d o d',cond (a8 x.pre d.h rs) (aZ P S a rnd l ((x.idx,m)::hs) rs d) .fail= .mk o d'->cond (a8 x.pre d.h rs) (aZ P S b rnd l ((x.idx,m)::hs) rs d) .fail= .mk o d':=by
       intro d o d' e
       cases hs':a8 x.pre d.h rs with
       |false=>rw[hs'] at e;cases e
       |true=>rw[hs'] at e;exact ih _ _ _ _ _ e
      have hne:bU P S a rnd dfs ctx m (ab x.op t m)≠.fail:=by
       intro hh
       rw[hh] at e
       cases e
      rw[iJ h rfl hne]
      cases hoo:bU P S a rnd dfs ctx m (ab x.op t m) with
      |fail=>exact yd hoo hne
      |pan v m'=>rw[hoo] at e;exact e
      |next v dfs1 ctx1 m'=>
       rw[hoo] at e
       have e':cg (bP x.idx l) (cond (a8 x.pre m' rs) (aZ P S a rnd l ((x.idx,m)::hs) rs ⟨aK x.dst v t,dfs1,ctx1,m'⟩) .fail)= .mk o d':=e
       show cg (bP x.idx l) (cond (a8 x.pre m' rs) (aZ P S b rnd l ((x.idx,m)::hs) rs ⟨aK x.dst v t,dfs1,ctx1,m'⟩) .fail)= .mk o d'
       cases hin:cond (a8 x.pre m' rs) (aZ P S a rnd l ((x.idx,m)::hs) rs ⟨aK x.dst v t,dfs1,ctx1,m'⟩) .fail with
       |fail=>rw[hin] at e';cases e'
       |mk o2 d2=>
        have:=hk ⟨aK x.dst v t,dfs1,ctx1,m'⟩ o2 d2 hin
        rw[hin] at e'
        rw[show cond (a8 x.pre m' rs) (aZ P S b rnd l ((x.idx,m)::hs) rs ⟨aK x.dst v t,dfs1,ctx1,m'⟩) .fail= .mk o2 d2 from this]
        exact e'
theorem fI (h:Le a b) {f:Nat} {cap:List NV} {ps:List D4} {x y:NC} {t:Tm} {dfs:List Dfr} {ctx:Option NV} {m:NH} {o:Out} {d':Dyn} (e:bm P S a f cap ps x y t dfs ctx m= .mk o d'):bm P S b f cap ps x y t dfs ctx m= .mk o d':=by
 unfold bm at e ⊢
 rw[NH.new_eq] at e ⊢
 cases hc:bg P S a f (.yld m.next::cap) (m.add (.loop 0 .none t ps x y)) with
 |fail=>rw[hc] at e;cases e
 |val v c m'=>rw[hc] at e;rw[bK h hc (by simp)];exact e
 |pan v c m'=>rw[hc] at e;rw[bK h hc (by simp)];exact e
theorem mM (h:Le a b):Le (iW P S a) (iW P S b):=by
 intro r c d o d' e
 cases c with
 |skip=>exact e
 |reg l=>exact gL h _ _ _ _ e
 |regD l=>
  have e':(match aZ P S a r l [] [] d with| .mk (.pan v) d=>Res.mk (.pan v) ⟨jP l d.t,d.dfs,d.ctx,d.h⟩|r=>r)= .mk o d':=e
  show (match aZ P S b r l [] [] d with| .mk (.pan v) d=>Res.mk (.pan v) ⟨jP l d.t,d.dfs,d.ctx,d.h⟩|r=>r)= .mk o d'
  cases hr:aZ P S a r l [] [] d with
  |fail=>rw[hr] at e';cases e'
  |mk o2 d2=>rw[hr] at e';rw[jD h _ _ _ _ _ _ hr];exact e'
 |seq x y=>
  have e':(match a r x d with| .mk o d=>(match o with| .norm=>a r y d|o=> .mk o d)| .fail=> .fail)=Res.mk o d':=(nt (cf:=P) (S:=S)).symm.trans e
  refine (nt (cf:=P) (S:=S)).trans ?_
  show (match b r x d with| .mk o d=>(match o with| .norm=>b r y d|o=> .mk o d)| .fail=> .fail)=Res.mk o d'
  cases hx:a r x d with
  |fail=>rw[hx] at e';cases e'
  |mk o2 d2=>
   rw[hx] at e'
   rw[h _ _ _ _ _ hx]
   cases o2 with
   |norm=>exact h _ _ _ _ _ e'
   |_=>exact e'
 |cond g x y=>
  have e':(match ρ d.t g with|some (.bool c)=>(Bool.rec (a r y d) (a r x d) c:Res)|_=> .fail)=Res.mk o d':=(kj (cf:=P) (S:=S)).symm.trans e
  refine (kj (cf:=P) (S:=S)).trans ?_
  show (match ρ d.t g with|some (.bool c)=>(Bool.rec (b r y d) (b r x d) c:Res)|_=> .fail)=Res.mk o d'
  cases hg:ρ d.t g with
  |none=>rw[hg] at e';cases e'
  |some v=>
   rw[hg] at e'
   cases v with
   |bool q=>cases q<;>exact h _ _ _ _ _ e'
   |_=>cases e'
 |block id x=>
  have e':(match a r x d with| .mk o d=>(match o with| .exit i=>cond (Nat.beq i id) (.mk .norm d) (.mk (.exit i) d)|o=> .mk o d)| .fail=> .fail)=Res.mk o d':=(iq (cf:=P) (S:=S)).symm.trans e
  refine (iq (cf:=P) (S:=S)).trans ?_
  show (match b r x d with| .mk o d=>(match o with| .exit i=>cond (Nat.beq i id) (.mk .norm d) (.mk (.exit i) d)|o=> .mk o d)| .fail=> .fail)=Res.mk o d'
  cases hx:a r x d with
  |fail=>rw[hx] at e';cases e'
  |mk o2 d2=>rw[hx] at e';rw[h _ _ _ _ _ hx];exact e'
 |loop x=>
  have e':(match a r x d with| .mk o d=>(match o with| .norm=>a r (.loop x) d|o=> .mk o d)| .fail=> .fail)=Res.mk o d':=(jX (cf:=P) (S:=S)).symm.trans e
  refine (jX (cf:=P) (S:=S)).trans ?_
  show (match b r x d with| .mk o d=>(match o with| .norm=>b r (.loop x) d|o=> .mk o d)| .fail=> .fail)=Res.mk o d'
  cases hx:a r x d with
  |fail=>rw[hx] at e';cases e'
  |mk o2 d2=>
   rw[hx] at e'
   rw[h _ _ _ _ _ hx]
   cases o2 with
   |norm=>exact h _ _ _ _ _ e'
   |_=>exact e'
 |rangeFunc f ps x y=>
  obtain ⟨t,dfs,ctx,m⟩:=d
  have e':(match ρ t f with
   |some (.fn f cap)=>(match (generalizing:=false) r with
    |none=>m.new (.defd true) fun q m=>bm P S a f cap ps x y t (.mark q::dfs) ctx m
    |some l=>(match m.get l with
     |some (.loop ..)=>bm P S a f cap ps x y t dfs ctx m
     |_=> .fail))
   |_=> .fail)=Res.mk o d':=e
  show (match ρ t f with
   |some (.fn f cap)=>(match (generalizing:=false) r with
    |none=>m.new (.defd true) fun q m=>bm P S b f cap ps x y t (.mark q::dfs) ctx m
    |some l=>(match m.get l with
     |some (.loop ..)=>bm P S b f cap ps x y t dfs ctx m
     |_=> .fail))
   |_=> .fail)=Res.mk o d'
  cases hf:ρ t f with
  |none=>rw[hf] at e';cases e'
  |some v=>
   rw[hf] at e'
   cases v with
   |fn f cap=>
    dsimp only at e' ⊢
    cases r with
    |none=>
     dsimp only at e' ⊢
     rw[NH.new_eq] at e' ⊢
     exact fI h e'
    |some l=>
     dsimp only at e' ⊢
     split at e'
     ·exact fI h e'
     ·cases e'
   |_=>cases e'
 |exit id=>exact e
 |ret=>exact e
theorem tE:∀n,Le (ev P S n) (ev P S (n+1)):=by
 intro n
 induction n with
 |zero=>intro r c d o d' e;cases e
 |succ n ih=>exact mM ih
theorem bG {n m:Nat} (hnm:n<=m):Le (ev P S n) (ev P S m):=by
 induction m with
 |zero=>
  have:n=0:=by omega
  subst this;exact fun _ _ _ _ _ e=>e
 |succ m ih=>
  by_cases h:n=m+1
  ·subst h;exact fun _ _ _ _ _ e=>e
  ·exact fun r c d o d' e=>tE m r c d o d' (ih (by omega) r c d o d' e)
end
def fR (P:Program) (S:bn) (r:Option D4) (c:NC) (d:Dyn) (o:Out) (d':Dyn):Prop:=∃n,ev P S n r c d= .mk o d'
def Call (P:Program) (S:bn) (f:Nat) (l:List NV) (m:NH) (x:CR):Prop:=x≠.fail/\∃n,bg P S (ev P S n) f l m=x
def pe (P:Program) (S:bn) (r:Option D4) (l:List NOper) (d:Dyn) (o:Out) (d':Dyn):Prop:=∃n,bJ P S (ev P S n) r l d= .mk o d'
section
variable {P:Program} {S:bn} {r:Option D4}
theorem fR.skip (d:Dyn):fR P S r .skip d .norm d:=⟨1,rfl⟩
theorem fR.ret (d:Dyn):fR P S r .ret d .ret d:=⟨1,rfl⟩
theorem fR.exit (id:Nat) (d:Dyn):fR P S r (.exit id) d (.exit id) d:=⟨1,rfl⟩
theorem fR.seq {x y:NC} {d d1 d2:Dyn} {o:Out} (hx:fR P S r x d .norm d1) (hy:fR P S r y d1 o d2):fR P S r (.seq x y) d o d2:=by
 obtain ⟨n,hn⟩:=hx
 obtain ⟨m,hm⟩:=hy
 refine ⟨max n m+1, ?_⟩
 refine qR.trans ?_
 show (match ev P S (max n m) r x d with| .mk o d=>(match o with| .norm=>ev P S (max n m) r y d|o=> .mk o d)| .fail=> .fail)=Res.mk o d2
 rw[bG (Nat.le_max_left n m) _ _ _ _ _ hn]
 exact bG (Nat.le_max_right n m) _ _ _ _ _ hm
theorem fR.cond {g:NOpd} {q:Bool} {x y:NC} {d d1:Dyn} {o:Out} (hg:ρ d.t g=some (.bool q)) (h:fR P S r (if q then x else y) d o d1):fR P S r (.cond g x y) d o d1:=by
 obtain ⟨n,hn⟩:=h
 refine ⟨n+1, ?_⟩
 refine od.trans ?_
 show (match ρ d.t g with|some (.bool c)=>(Bool.rec (ev P S n r y d) (ev P S n r x d) c:Res)|_=> .fail)=Res.mk o d1
 rw[hg]
 cases q<;>exact hn
theorem fR.block {id:Nat} {x:NC} {d d1:Dyn} {o:Out} (h:fR P S r x d o d1):fR P S r (.block id x) d (match o with| .exit i=>_root_.cond (Nat.beq i id) .norm (.exit i)|o=>o) d1:=by
 obtain ⟨n,hn⟩:=h
 refine ⟨n+1, ?_⟩
 refine me.trans ?_
 show (match ev P S n r x d with| .mk o d=>(match o with| .exit i=>_root_.cond (Nat.beq i id) (Res.mk .norm d) (Res.mk (.exit i) d)|o=>Res.mk o d)| .fail=>Res.fail)=_
 rw[hn]
 cases o with
 |exit i=>dsimp only;cases Nat.beq i id<;>rfl
 |_=>rfl
theorem fR.loop {x:NC} {d d1 d2:Dyn} {o:Out} (hx:fR P S r x d .norm d1) (hy:fR P S r (.loop x) d1 o d2):fR P S r (.loop x) d o d2:=by
 obtain ⟨n,hn⟩:=hx
 obtain ⟨m,hm⟩:=hy
 refine ⟨max n m+1, ?_⟩
 refine kX.trans ?_
 show (match ev P S (max n m) r x d with| .mk o d=>(match o with| .norm=>ev P S (max n m) r (.loop x) d|o=> .mk o d)| .fail=> .fail)=Res.mk o d2
 rw[bG (Nat.le_max_left n m) _ _ _ _ _ hn]
 exact bG (Nat.le_max_right n m) _ _ _ _ _ hm
theorem fR.loop_out {x:NC} {d d1:Dyn} {o:Out} (hx:fR P S r x d o d1) (ho:o≠.norm):fR P S r (.loop x) d o d1:=by
 obtain ⟨n,hn⟩:=hx
 refine ⟨n+1, ?_⟩
 refine kX.trans ?_
 show (match ev P S n r x d with| .mk o d=>(match o with| .norm=>ev P S n r (.loop x) d|o=> .mk o d)| .fail=> .fail)=Res.mk o d1
 rw[hn]
 cases o<;>first|rfl|exact yd rfl ho
theorem pe.nil (d:Dyn):pe P S r [] d .norm d:=⟨0,rfl⟩
theorem pe.val {x:NOper} {l:List NOper} {t:Tm} {dfs:List Dfr} {ctx:Option NV} {m:NH} {o:Out} {d1:Dyn} {v:NV} (hg:aq t x.guard=some true) (hop:ab x.op t m= .val v)
 (h:pe P S r l ⟨aK x.dst v t,dfs,ctx,m⟩ o d1):pe P S r (x::l) ⟨t,dfs,ctx,m⟩ o d1:=by
 obtain ⟨n,hn⟩:=h
 refine ⟨n, ?_⟩
 rw[bM,hg,hop]
 exact hn
theorem pe.mem {x:NOper} {l:List NOper} {t:Tm} {dfs:List Dfr} {ctx:Option NV} {m m':NH} {o:Out} {d1:Dyn} {v:NV} (hg:aq t x.guard=some true) (hop:ab x.op t m= .mem v m')
 (h:pe P S r l ⟨aK x.dst v t,dfs,ctx,m'⟩ o d1):pe P S r (x::l) ⟨t,dfs,ctx,m⟩ o d1:=by
 obtain ⟨n,hn⟩:=h
 refine ⟨n, ?_⟩
 rw[bM,hg,hop]
 exact hn
theorem pe.call {x:NOper} {l:List NOper} {t:Tm} {dfs:List Dfr} {ctx:Option NV} {m m':NH} {o:Out} {d1:Dyn} {f:Nat} {args:List NV} {v:NV} {c:Option NV} (hg:aq t x.guard=some true) (hop:ab x.op t m= .call f args)
 (hc:Call P S f args m (.val v c m')) (h:pe P S r l ⟨aK x.dst v t,dfs,ctx,m'⟩ o d1):pe P S r (x::l) ⟨t,dfs,ctx,m⟩ o d1:=by
 obtain ⟨n,hn⟩:=h
 obtain ⟨hne,k,hk⟩:=hc
 refine ⟨max n k, ?_⟩
 rw[bM,hg,hop]
 show qL x.dst (bJ P S (ev P S (max n k)) r l) t dfs ctx (p9 dfs ctx (bg P S (ev P S (max n k)) f args m))=_
 rw[bK (bG (Nat.le_max_right n k)) hk hne]
 exact gL (bG (Nat.le_max_left n k)) _ _ _ _ hn
variable [Val] in
end
end Nm
namespace Nm
open Go Go.RowKit
noncomputable def eG:List (D4×NV)->Tm->Tm
 | [],t=>t
 |p::l,t=>NT.put p.1 p.2 (eG l t)
theorem mU (k:D4):e8 k k=true:=by
 induction k with
 |e=>rfl
 |a d ih=>exact ih
 |b d ih=>exact ih
 |c d ih=>exact ih
 |f d ih=>exact ih
def bQ (P:Program) (S:bn) (r:Option D4) (l:List NOper) (hs:List (Nat×NH)) (rs:List (Nat×(NH->NR)×NV)) (d:Dyn) (o:Out) (d':Dyn):Prop:=∃n,aZ P S (ev P S n) r l hs rs d= .mk o d'
section
variable {P:Program} {S:bn} {r:Option D4} {x:NOper} {l:List NOper} {hs:List (Nat×NH)} {rs:List (Nat×(NH->NR)×NV)} {t:Tm} {dfs:List Dfr} {ctx:Option NV} {m m':NH} {o:Out} {d d1:Dyn} {v:NV}
theorem bQ.nil (d:Dyn):bQ P S r [] hs rs d .norm d:=⟨0,rfl⟩
theorem bQ.pure (hg:aq t x.guard=some true) (hc:aj x.op= .pure) (hop:ab x.op t m= .val v) (h:bQ P S r l hs rs ⟨aK x.dst v t,dfs,ctx,m⟩ o d1):bQ P S r (x::l) hs rs ⟨t,dfs,ctx,m⟩ o d1:=by
 obtain ⟨n,hn⟩:=h
 exact ⟨n,by rw[bt,hg];dsimp only;rw[hc];dsimp only;rw[hop];exact hn⟩
theorem bQ.alloc (hg:aq t x.guard=some true) (hc:aj x.op= .alloc) (ha:ahead x.pre hs=true) (hop:ab x.op t m= .mem v m') (h:bQ P S r l hs rs ⟨aK x.dst v t,dfs,ctx,m'⟩ o d1):bQ P S r (x::l) hs rs ⟨t,dfs,ctx,m⟩ o d1:=by
 obtain ⟨n,hn⟩:=h
 exact ⟨n,by rw[bt,hg];dsimp only;rw[hc];dsimp only;rw[ha,hop];exact hn⟩
theorem bQ.read (hg:aq t x.guard=some true) (hc:aj x.op= .read) (hop:ab x.op t m= .val v) (ha:cL x.pre (ab x.op t) v hs=true)
 (h:bQ P S r l hs ((x.idx,ab x.op t,v)::rs) ⟨aK x.dst v t,dfs,ctx,m⟩ o d1):bQ P S r (x::l) hs rs ⟨t,dfs,ctx,m⟩ o d1:=by
 obtain ⟨n,hn⟩:=h
 exact ⟨n,by rw[bt,hg];dsimp only;rw[hc];dsimp only;rw[hop];dsimp only;rw[ha];exact hn⟩
theorem bQ.eff (hg:aq t x.guard=some true) (hc:aj x.op= .eff) (ha:ahead x.pre hs=true) (hop:ab x.op t m= .mem v m') (hst:a8 x.pre m' rs=true)
 (h:bQ P S r l ((x.idx,m)::hs) rs ⟨aK x.dst v t,dfs,ctx,m'⟩ .norm d1):bQ P S r (x::l) hs rs ⟨t,dfs,ctx,m⟩ .norm d1:=by
 obtain ⟨n,hn⟩:=h
 refine ⟨n, ?_⟩
 rw[bt,hg];dsimp only;rw[hc];dsimp only;rw[ha,hop]
 show cg (bP x.idx l) (cond (a8 x.pre m' rs) (aZ P S (ev P S n) r l ((x.idx,m)::hs) rs ⟨aK x.dst v t,dfs,ctx,m'⟩) .fail)=_
 rw[hst]
 show cg (bP x.idx l) (aZ P S (ev P S n) r l ((x.idx,m)::hs) rs ⟨aK x.dst v t,dfs,ctx,m'⟩)=_
 rw[hn];rfl
theorem bQ.call {f:Nat} {args:List NV} {c:Option NV} (hg:aq t x.guard=some true) (hc:aj x.op= .eff) (ha:ahead x.pre hs=true) (hop:ab x.op t m= .call f args) (hcall:Call P S f args m (.val v c m')) (hst:a8 x.pre m' rs=true)
 (h:bQ P S r l ((x.idx,m)::hs) rs ⟨aK x.dst v t,dfs,ctx,m'⟩ .norm d1):bQ P S r (x::l) hs rs ⟨t,dfs,ctx,m⟩ .norm d1:=by
 obtain ⟨n,hn⟩:=h
 obtain ⟨hne,k,hk⟩:=hcall
 refine ⟨max n k, ?_⟩
 rw[bt,hg];dsimp only;rw[hc];dsimp only;rw[ha,hop]
 show cg (bP x.idx l) (qL x.dst (fun d=>cond (a8 x.pre d.h rs) (aZ P S (ev P S (max n k)) r l ((x.idx,m)::hs) rs d) .fail) t dfs ctx (p9 dfs ctx (bg P S (ev P S (max n k)) f args m)))=_
 rw[bK (bG (Nat.le_max_right n k)) hk hne]
 show cg (bP x.idx l) (cond (a8 x.pre m' rs) (aZ P S (ev P S (max n k)) r l ((x.idx,m)::hs) rs ⟨aK x.dst v t,dfs,ctx,m'⟩) .fail)=_
 rw[hst]
 show cg (bP x.idx l) (aZ P S (ev P S (max n k)) r l ((x.idx,m)::hs) rs ⟨aK x.dst v t,dfs,ctx,m'⟩)=_
 rw[jD (bG (Nat.le_max_left n k)) _ _ _ _ _ _ hn];rfl
end
def xA (P:Program) (S:bn) (l:D4) (args:List NV) (m:NH) (x:CR):Prop:=x≠.fail/\∃n,round (ev P S n) l args m=x
section
variable {P:Program} {S:bn} {r:Option D4} {x:NOper} {l:List NOper} {hs:List (Nat×NH)} {rs:List (Nat×(NH->NR)×NV)} {t:Tm} {dfs:List Dfr} {ctx:Option NV} {m m':NH} {o:Out} {d1:Dyn} {v:NV} {q:D4} {args:List NV} {c:Option NV}
end
section
variable {P:Program} {S:bn} {r:Option D4} {x:NOper} {l:List NOper} {hs:List (Nat×NH)} {rs:List (Nat×(NH->NR)×NV)} {L:List (D4×NV)} {t:Tm} {dfs:List Dfr} {ctx:Option NV} {m m':NH} {o:Out} {d1:Dyn} {v:NV} {k:D4}
theorem bQ.p (hd:x.dst=some k) (hg:aq (eG L t) x.guard=some true) (hc:aj x.op= .pure) (hop:ab x.op (eG L t) m= .val v) (h:bQ P S r l hs rs ⟨eG ((k,v)::L) t,dfs,ctx,m⟩ o d1):bQ P S r (x::l) hs rs ⟨eG L t,dfs,ctx,m⟩ o d1:=
 bQ.pure hg hc hop (by rw[hd];exact h)
theorem bQ.rd (hd:x.dst=some k) (hg:aq (eG L t) x.guard=some true) (hc:aj x.op= .read) (hop:ab x.op (eG L t) m= .val v) (ha:cL x.pre (ab x.op (eG L t)) v hs=true)
 (h:bQ P S r l hs ((x.idx,ab x.op (eG L t),v)::rs) ⟨eG ((k,v)::L) t,dfs,ctx,m⟩ o d1):bQ P S r (x::l) hs rs ⟨eG L t,dfs,ctx,m⟩ o d1:=
 bQ.read hg hc hop ha (by rw[hd];exact h)
theorem bQ.c {f:Nat} {args:List NV} {c:Option NV} (hd:x.dst=some k) (hg:aq (eG L t) x.guard=some true) (hc:aj x.op= .eff) (ha:ahead x.pre hs=true) (hop:ab x.op (eG L t) m= .call f args) (hcall:Call P S f args m (.val v c m')) (hst:a8 x.pre m' rs=true)
 (h:bQ P S r l ((x.idx,m)::hs) rs ⟨eG ((k,v)::L) t,dfs,ctx,m'⟩ .norm d1):bQ P S r (x::l) hs rs ⟨eG L t,dfs,ctx,m⟩ .norm d1:=
 bQ.call hg hc ha hop hcall hst (by rw[hd];exact h)
end
section
variable {t:Tm} {m:NH}
end
end Nm
namespace Nm
open Go Go.RowKit
section
variable {P:Program} {S:bn} {r:Option D4}
theorem pe.pan {x:NOper} {l:List NOper} {t:Tm} {dfs:List Dfr} {ctx:Option NV} {m:NH} {v:NV} (hg:aq t x.guard=some true) (hop:ab x.op t m= .pan v):pe P S r (x::l) ⟨t,dfs,ctx,m⟩ (.pan v) ⟨t,dfs,ctx,m⟩:=by
 refine ⟨0, ?_⟩
 rw[bM,hg,hop];rfl
end
structure PE where
 p:Program
 E:NV->NH->Prop
instance:Coe Program PE:=⟨fun P=>⟨P,fun _ _=>False⟩⟩
def WF (P:PE) (S:bn) (f:Nat) (args:List NV) (m:NH) (K:NV->NH->Prop):Prop:=(∃v c m',Call P.p S f args m (.val v c m')/\K v m')∨∃v c m',Call P.p S f args m (.pan v c m')/\P.E v m'
def qE (P:PE) (Q:Out->Dyn->Prop) (o:Out) (d:Dyn):Prop:=match o with| .pan v=>d.dfs= []/\P.E v d.h|o=>Q o d
section
variable (P:PE) (S:bn) (r:Option D4)
def W (c:NC) (d:Dyn) (Q:Out->Dyn->Prop):Prop:=∃o d',fR P.p S r c d o d'/\qE P Q o d'
end
section
variable {P:PE} {S:bn} {r:Option D4}
theorem WF.ret' {P:Program} {f:Nat} {args:List NV} {m:NH} {K:NV->NH->Prop} (h:WF P S f args m K):∃v c m',Call P S f args m (.val v c m')/\K v m':=by
 rcases h with h|⟨_,_,_,_,h⟩
 ·exact h
 ·exact h.elim
theorem W.loop {c:NC} {Q:Out->Dyn->Prop} (I:Nat->Dyn->Prop) (h:∀k d,I k d->W P S r c d (fun o d'=>match o with| .norm=>∃j,j<k/\I j d'|o=>Q o d')):∀k d,I k d->W P S r (.loop c) d Q:=by
 intro k
 induction k using Nat.strongRecOn with
 |ind k ih=>
  intro d hd
  obtain ⟨o,d',h1,h2⟩:=h k d hd
  cases o with
  |norm=>
   obtain ⟨j,hj,hI⟩:=h2
   obtain ⟨o,d2,h3,h4⟩:=ih j hj d' hI
   exact ⟨o,d2,fR.loop h1 h3,h4⟩
  |_=>exact ⟨_,_,fR.loop_out h1 (by simp),h2⟩
theorem W.mono {c:NC} {d:Dyn} {Q Q':Out->Dyn->Prop} (h:W P S r c d Q) (hq:∀o d,Q o d->Q' o d):W P S r c d Q':=by
 obtain ⟨o,d',h1,h2⟩:=h
 refine ⟨o,d',h1, ?_⟩
 cases o with
 |pan v=>exact h2
 |_=>exact hq _ _ h2
end
end Nm
namespace Nm
open Go Go.RowKit
section
variable {P:PE} {S:bn} {r:Option D4} {dst:Option D4} {op:NOp} {pre idx:Nat} {l:List NOper} {hs:List (Nat×NH)} {rs:List (Nat×(NH->NR)×NV)}
 {L:List (D4×NV)} {t:Tm} {dfs:List Dfr} {ctx:Option NV} {m m':NH} {v:NV} {k k':D4} {d:Dyn} {Q:Out->Dyn->Prop} {K:Dyn->Prop} {A B:Prop}
section
variable {f:NH->NR}
end
end
section
variable {t:Tm} {m:NH}
end
end Nm
namespace Nm
open Go Go.RowKit
section
variable {P:Program} {S:bn} {L:List (D4×NV)} {t:Tm} {ctx:Option NV} {m:NH} {K:NV->NH->Prop} {k k1 k2 k3:D4}
end
end Nm
namespace Nm
open Go Go.RowKit
def na (m:NH) (j:Nat):D4:=D4.of (m.next.toNat+j)
def ko (m:NH) (id:D4):Prop:=id.toNat<m.next.toNat
instance (m:NH) (id:D4):Decidable (ko m id):=inferInstanceAs (Decidable (_<_))
inductive AK where
 |n (j:Nat)
 |o (id:D4)
noncomputable def xB (m:NH):List (AK×NO)->NT NO
 | []=>m.m
 |(.n j,x)::l=>NT.put (na m j) x (xB m l)
 |(.o id,x)::l=>if ko m id then NT.put id x (xB m l) else xB m l
noncomputable def hp (l:List (AK×NO)) (k:Nat) (m:NH):NH:=⟨xB m l,na m k⟩
theorem sc (m:NH):na m 0=m.next:=D4.of_toNat _
theorem vw (m:NH):hp [] 0 m=m:=by
 show NH.mk m.m (na m 0)=m
 rw[sc]
section
variable {m:NH} {l:List (AK×NO)} {k j:Nat} {o:NO} {id:D4}
end
structure Chg (S:List D4) (m m':NH):Prop where
 next:m.next.toNat<=m'.next.toNat
 get:∀{id},ko m id->id∉S->m'.get id=m.get id
theorem Chg.old {S:List D4} {m m':NH} {id:D4} (h:Chg S m m') (ho:ko m id):ko m' id:=Nat.lt_of_lt_of_le ho h.next
theorem Chg.refl (m:NH):Chg [] m m:=⟨Nat.le_refl _,fun _ _=>rfl⟩
theorem Chg.trans {S T:List D4} {a b c:NH} (h:Chg S a b) (h':Chg T b c) (hs:∀id,id∈T->ko a id->id∈S):Chg S a c:=
 ⟨Nat.le_trans h.1 h'.1,fun {id} ho hi=>(h'.2 (h.old ho) fun q=>hi (hs id q ho)).trans (h.2 ho hi)⟩
def wB (P:Program) (S:bn) (f:Nat) (args:List NV) (m:NH) (v:NV) (m':NH):Prop:=∃c,Call P S f args m (.val v c m')
section
variable {P:Program} {S:bn} {f:Nat} {args:List NV} {m:NH}
theorem WF.ret {K:NV->NH->Prop} (h:WF P S f args m K):∃v m',wB P S f args m v m'/\K v m':=by
 obtain ⟨v,c,m',hc,hk⟩:=WF.ret' h;exact ⟨v,m',⟨c,hc⟩,hk⟩
theorem Call.det {x y:CR} (h:Call P S f args m x) (h':Call P S f args m y):x=y:=by
 obtain ⟨hn,n,e⟩:=h
 obtain ⟨hn',k,e'⟩:=h'
 rw[←bK (bG (Nat.le_max_left n k)) e hn,bK (bG (Nat.le_max_right n k)) e' hn']
theorem wB.wf {E:NV->NH->Prop} {v:NV} {m':NH} (h:wB P S f args m v m') {K:NV->NH->Prop}:WF ⟨P,E⟩ S f args m K=K v (hp [] 0 m'):=by
 rw[vw]
 apply propext
 constructor
 ·rintro (⟨u,c,n,hc,hk⟩|⟨u,c,n,hc,hk⟩)
  ·obtain ⟨c',h'⟩:=h
   have:=Call.det hc h'
   injection this with a _ b
   rw[←a,←b];exact hk
  ·obtain ⟨c',h'⟩:=h
   exact yd (Call.det hc h') (by simp)
 ·intro hk
  obtain ⟨c,h⟩:=h
  exact Or.inl ⟨v,c,m',h,hk⟩
def xS (P:Program) (S:bn) (f:Nat) (args:List NV) (m:NH) (v:NV) (m':NH):Prop:=∃c,Call P S f args m (.pan v c m')
theorem xS.wf {E:NV->NH->Prop} {v:NV} {m':NH} (h:xS P S f args m v m') {K:NV->NH->Prop}:WF ⟨P,E⟩ S f args m K=E v m':=by
 apply propext
 constructor
 ·rintro (⟨u,c,n,hc,hk⟩|⟨u,c,n,hc,hk⟩)
  ·obtain ⟨c',h'⟩:=h
   exact yd (Call.det hc h') (by simp)
  ·obtain ⟨c',h'⟩:=h
   have:=Call.det hc h'
   injection this with a _ b
   rw[←a,←b];exact hk
 ·intro hk
  obtain ⟨c,h⟩:=h
  exact Or.inr ⟨v,c,m',h,hk⟩
end
section
variable {t:Tm} {m:NH}
end
end Nm
namespace Nm
open Go Go.RowKit
section
variable {P:Program} {S:bn}
theorem xA.of {l:D4} {args:List NV} {m:NH} {p p1:Jump} {tm tm1:NT NV} {ps ps1:List D4} {a b a1 b1:NC} {d1 d2:Dyn} {o:Out} {x:CR}
 (hm:m.get l=some (.loop 0 p tm ps a b)) (hlen:args.length=ps.length) (ha:fR P S (some l) a ⟨kd ps args tm, [],none,m⟩ .norm d1) (hd1:d1.dfs= [])
 (hm1:d1.h.get l=some (.loop 0 p1 tm1 ps1 a1 b1)) (hb:fR P S (some l) b ⟨d1.t, [],none,d1.h.put l (.loop 1 p1 tm1 ps1 a1 b1)⟩ o d2) (ho:∀v,o≠.pan v) (hr:cP l o d2.h=x) (hne:x≠.fail):xA P S l args m x:=by
 obtain ⟨n,hn⟩:=ha
 obtain ⟨k,hk⟩:=hb
 refine ⟨hne,max n k, ?_⟩
 have key:∀(ps:List D4) (args:List NV) (tm:Tm) (K:Tm->CR),args.length=ps.length->bR .fail ps args tm K=K (kd ps args tm):=by
  intro ps
  induction ps with
  |nil=>intro args tm K h;cases args with
   |nil=>rfl
   |cons=>simp at h
  |cons q ps ih=>
   intro args tm K h
   cases args with
   |nil=>simp at h
   |cons v vs=>
    have e:bR .fail (q::ps) (v::vs) tm K=NT.set q v tm fun t=>bR .fail ps vs t K:=rfl
    rw[e,NT.set_eq]
    exact ih _ _ _ (by simpa using h)
 unfold round
 rw[hm]
 show bR .fail ps args tm (fun t=>match ev P S (max n k) (some l) a ⟨t, [],none,m⟩ with
  | .mk .norm d=>(match d.dfs with| []=>bj (ev P S (max n k)) l b d.t d.h|_=> .fail)
  |_=> .fail)=x
 rw[key _ _ _ _ hlen,bG (Nat.le_max_left n k) _ _ _ _ _ hn]
 show (match d1.dfs with| []=>bj (ev P S (max n k)) l b d1.t d1.h|_=> .fail)=x
 rw[hd1]
 show bj (ev P S (max n k)) l b d1.t d1.h=x
 unfold bj
 rw[hm1]
 show (d1.h.set l (.loop 1 p1 tm1 ps1 a1 b1) fun h=>(match ev P S (max n k) (some l) b ⟨d1.t, [],none,h⟩ with
  | .mk o d=>(match o with
   | .pan v=>(match d.dfs with| []=>CR.pan v none d.h|_=> .fail)
   |o=>cP l o d.h)
  | .fail=> .fail))=x
 rw[NH.set_eq,bG (Nat.le_max_right n k) _ _ _ _ _ hk]
 cases o with
 |pan v=>exact yd rfl (ho v)
 |_=>exact hr
end
end Nm
namespace Nm
open Go Go.RowKit
section
variable {t:Tm} {m:NH}
end
end Nm
namespace Nm
open Go Go.RowKit
section
variable {t:Tm} {m:NH}
end
end Nm
namespace Nm
open Go Go.RowKit
section
variable {t:Tm} {m:NH}
end
end Nm
namespace Nm
open Go Go.RowKit
section
variable {P:PE} {S:bn} {r:Option D4} {dst:Option D4} {op:NOp} {pre idx:Nat} {l:List NOper} {hs:List (Nat×NH)} {rs:List (Nat×(NH->NR)×NV)}
 {L:List (D4×NV)} {t:Tm} {dfs:List Dfr} {ctx:Option NV} {m m':NH} {v:NV} {k k' g:D4} {d:Dyn} {Q:Out->Dyn->Prop} {K:Dyn->Prop} {A B:Dyn->Prop} {b q:Bool}
end
theorem db (d:D4):e8 d d=true:=mU d
theorem qI (l:List Nat):rj l l=true:=by
 induction l with
 |nil=>rfl
 |cons x l ih=>show cond (Nat.beq x x) (rj l l) false=true;rw[Nat.beq_refl];exact ih
theorem mB (l:List ST):jy l l=true:=by
 induction l with
 |nil=>rfl
 |cons x l ih=>
  obtain ⟨m,i,lo,hi⟩:=x
  show cond (Nat.beq m m) (cond (Nat.beq i i) (cond (Nat.beq lo lo) (cond (Nat.beq hi hi) (jy l l) false) false) false) false=true
  simp[ih]
def uF (v:NV):Prop:=match v with| .agg _| .tup _| .fn _ _| .ifc _ _| .int _ (.ge _)| .int _ (.le _)=>False|_=>True
theorem pQ {n:Nat} {v:NV} (h:uF v):cD (n+1) v v=true:=by
 show oh (cD n) v v=true
 have hi:∀z:Int,eK z z=true:=fun z=>by rw[aT];simp
 cases v with
 |bool b=>cases b<;>rfl
 |int k x=>cases x with
  |lit z=>show cond (eq k k) (eK z z) false=true;rw[hi];cases k<;>rfl
  |sym c ts=>show cond (eq k k) (cond (eK c c) (jy ts ts) false) false=true;rw[hi,mB];cases k<;>rfl
  |ge z=>exact h.elim
  |le z=>exact h.elim
 |str s=>exact qI s
 |ptr id o=>show cond (e8 id id) (Nat.beq o o) false=true;rw[db];simp
 |slc id o n e k=>show cond (e8 id id) (cond (Nat.beq o o) (cond (Nat.beq n n) (cond (Nat.beq e e) (Nat.beq k k) false) false) false) false=true;rw[db];simp
 |map id=>exact db id
 |yld id=>exact db id
 |agg l=>exact h.elim
 |tup l=>exact h.elim
 |fn f c=>exact h.elim
 |ifc t v=>exact h.elim
 |_=>rfl
end Nm
namespace Nm
open Go Go.RowKit
section
variable {m:NH}
end
section
variable {t:Tm} {m:NH}
end
end Nm
namespace Nm
open Go Go.RowKit
section
variable {t:Tm} {m:NH}
end
end Nm
namespace Nm
open Go Go.RowKit
def ids:NV->List D4
 | .slc id _ _ _ _=> [id]
 |_=> []
def Sl (m:NH) (v:NV) (e:Nat) (C:List (List NV)):Prop:=(∀x∈C,x.length=e)/\((v= .nils/\C= [])∨
 ∃id off kc w c,v= .slc id off C.length e kc/\m.get id=some (.cells w c)/\ko m id/\off+C.length*e<=c.length/\(c.drop off).take (C.length*e)=C.flatten)
def vQ (B m:NH) (v:NV) (e:Nat) (C:List (List NV)):Prop:=(∀x∈C,x.length=e)/\((v= .nils/\C= [])∨
 ∃id off kc c,v= .slc id off C.length e kc/\¬ko B id/\m.get id=some (.cells true c)/\ko m id/\off+C.length*e<=c.length/\off+kc*e<=c.length/\(c.drop off).take (C.length*e)=C.flatten)
theorem rb {e:Nat} {C:List (List NV)} (h:∀x∈C,x.length=e):C.flatten.length=C.length*e:=by
 induction C with
 |nil=>simp
 |cons a C ih=>
  rw[List.flatten_cons,List.length_append,h a (List.mem_cons_self ..),ih fun x hx=>h x (List.mem_cons_of_mem _ hx),List.length_cons,Nat.succ_mul]
  omega
section
variable {m:NH} {v:NV} {e:Nat} {C:List (List NV)}
theorem Sl.one (h:Sl m v e C):cellsOf v=some [v]:=by
 obtain ⟨_,⟨rfl,rfl⟩|⟨id,off,kc,w,c,rfl,_⟩⟩:=h<;>rfl
theorem Sl.old (h:Sl m v e C):∀id∈ids v,ko m id:=by
 obtain ⟨h0,⟨rfl,rfl⟩|⟨id,off,kc,w,c,rfl,h1,h2,h3,h4⟩⟩:=h
 ·intro id hid;simp[ids] at hid
 ·intro i hi;simp[ids] at hi;rw[hi];exact h2
theorem vQ.new {B m:NH} (h:vQ B m v e C):∀id∈ids v,¬ko B id:=by
 obtain ⟨h0,⟨rfl,rfl⟩|⟨id,off,kc,c,rfl,hb,h1,h2,h3,h4⟩⟩:=h
 ·intro id hid;simp[ids] at hid
 ·intro i hi;simp[ids] at hi;rw[hi];exact hb
theorem vQ.nil {B m:NH}:vQ B m .nils e []:=⟨fun x hx=>by simp at hx,Or.inl ⟨rfl,rfl⟩⟩
theorem Sl.nil:Sl m .nils e []:=⟨fun x hx=>by simp at hx,Or.inl ⟨rfl,rfl⟩⟩
theorem vQ.of {B m:NH} {id:D4} {n k:Nat} {c:List NV} (h:∀x∈C,x.length=e) (hb:¬ko B id) (hg:m.get id=some (.cells true c)) (ho:ko m id) (hc:c=C.flatten) (hn:n=C.length) (hk:k=C.length):vQ B m (.slc id 0 n e k) e C:=by
 subst hn hk hc
 have hl:=rb h
 exact ⟨h,Or.inr ⟨id,0,_,_,rfl,hb,hg,ho,by omega,by omega,by rw[List.drop_zero,←hl,List.take_length]⟩⟩
theorem ko.next_ne {m:NH} {i:D4} (h:ko m i):i≠m.next:=by
 intro e;rw[e] at h;exact Nat.lt_irrefl _ h
theorem Chg.add (m:NH) (o:NO):Chg [] m (m.add o):=
 ⟨by show m.next.toNat<=m.next.nxt.toNat;rw[D4.toNat_nxt];omega,fun {i} ho _=>NH.get_add_ne m o ho.next_ne⟩
theorem lV (m:NH) (o:NO):ko (m.add o) m.next:=by
 show m.next.toNat<m.next.nxt.toNat;rw[D4.toNat_nxt];omega
theorem Sl.flat (h:Sl m v e C):uF v:=by
 obtain ⟨_,⟨rfl,rfl⟩|⟨id,off,kc,w,c,rfl,_⟩⟩:=h<;>trivial
theorem Sl.same (h:Sl m v e C) {n:Nat}:cD (n+1) v v=true:=pQ h.flat
end
end Nm
namespace Nm
open Go Go.RowKit
section
variable {L:List (D4×NV)} {t:Tm} {ctx:Option NV} {m:NH} {K:NV->NH->Prop}
end
end Nm
namespace Nm
open Go Go.RowKit
def xO (P:Program) (S:bn) (q:D4) (args:List NV) (m:NH) (v:NV) (m':NH):Prop:=∃c,xA P S q args m (.val v c m')
def WY (P:Program) (S:bn) (q:D4) (args:List NV) (m:NH) (K:NV->NH->Prop):Prop:=∃v c m',xA P S q args m (.val v c m')/\K v m'
section
variable {P:Program} {S:bn} {f:Nat} {q:D4} {args:List NV} {m:NH}
section
variable {K:NV->NH->Prop} {st:Nat} {p:Jump} {tm:NT NV} {ps:List D4} {a b:NC} {i:Nat}
end
theorem WY.ret {K:NV->NH->Prop} (h:WY P S q args m K):∃v m',xO P S q args m v m'/\K v m':=by
 obtain ⟨v,c,m',hc,hk⟩:=h;exact ⟨v,m',⟨c,hc⟩,hk⟩
def ly (ks:List D4) (t t':Tm):Prop:=∀k,k∉ks->NT.get k t'=NT.get k t
theorem ly.refl (ks:List D4) (t:Tm):ly ks t t:=fun _ _=>rfl
theorem ly.get {ks:List D4} {t t':Tm} (h:ly ks t t') {k:D4} {v:Option NV} (g:NT.get k t=v) (hk:k∉ks):NT.get k t'=v:=(h k hk).trans g
theorem ly.trans {ks ls:List D4} {a b c:Tm} (h:ly ks a b) (h':ly ls b c) (hs:∀k∈ls,k∈ks):ly ks a c:=fun k hk=>(h' k fun q=>hk (hs k q)).trans (h k hk)
end
end Nm
namespace Nm
open Go Go.RowKit
section
variable (P:PE) (S:bn) (r:Option D4)
end
section
variable {P:PE} {S:bn} {r:Option D4} {dst:Option D4} {op:NOp} {pre idx:Nat} {l:List NOper} {hs:List (Nat×NH)} {rs:List (Nat×(NH->NR)×NV)}
 {L:List (D4×NV)} {t:Tm} {dfs:List Dfr} {ctx:Option NV} {m m':NH} {v:NV} {k g:D4} {d:Dyn} {Q:Out->Dyn->Prop} {K:Dyn->Prop} {b:Bool}
section
variable {f:NH->NR}
end
end
end Nm
namespace Nm
open Go Go.RowKit
section
variable {t:Tm} {m:NH}
end
end Nm
namespace Nm
open Go Go.RowKit
section
variable {t:Tm} {m:NH}
end
end Nm
namespace Nm
open Go Go.RowKit
section
variable {P:Program} {S:bn}
end
section
variable {P:PE} {S:bn} {dst:D4} {L:List (D4×NV)} {t:Tm} {dfs:List Dfr} {ctx:Option NV} {l:List NOper} {K:Dyn->Prop} {B m:NH} {v:NV} {e:Nat} {C:List (List NV)} {x:D4} {w:Bool} {cs:List NV} {kc bytes:Nat}
end
section
variable {P:Program} {S:bn} {f:Nat} {args:List NV} {m:NH} {K:NV->NH->Prop}
variable {E:NV->NH->Prop}
end
section
variable {P:PE} {S:bn} {r:Option D4} {a b:NC} {d:Dyn} {Q:Out->Dyn->Prop}
end
section
variable {P:Program} {S:bn} {q:D4} {args:List NV} {m:NH} {K:NV->NH->Prop}
end
section
variable {P:Program} {S:bn} {f:Nat} {q:D4} {args:List NV} {m:NH}
end
end Nm
namespace Nm
open Go Go.RowKit
section
variable [Val]
def Ro (P:Program) (W:World) (ι:ax) (m:NH):Prop:=Rel P ι W.heap.size m W/\∀i p,ι i=some p->¬Live (m.get i)
def ext (ι:ax) (i:D4) (p:Pl):ax:=fun j=>if j.toNat=i.toNat then some p else ι j
theorem Ro.addE {P:Program} {W:World} {ι:ax} {m:NH} (h:Ro P W ι m) {b o:Nat} {c:List NV} {cur:Array Value} {T:TypeId} {fz:Nat×Nat} (hb:W.heap[b]? =some (.cells cur T fz)) (hn:o+c.length<=cur.size)
 (hc:∀i v,c[i]? =some v->∃v',cur[o+i]? =some v'/\VR ι v v'/\v'.oneCell'=true):
 ∃ι',Ro P W ι' (m.add (.cells false c))/\ι.le ι'/\Chg [] m (m.add (.cells false c))/\ι' m.next=some ⟨b,o,cur.size⟩/\(m.add (.cells false c)).get m.next=some (.cells false c)/\ko (m.add (.cells false c)) m.next:=by
 obtain ⟨hR,hL⟩:=h
 have hold:∀i p,ι i=some p->ko m i:=fun i p hi=>by
  obtain ⟨x,hx,_⟩:=hR.obj i p hi
  exact hR.fresh i x hx
 have hext:∀i p,ι i=some p->ext ι m.next ⟨b,o,cur.size⟩ i=some p:=fun i p hi=>by
  unfold ext;rw[ye (Nat.ne_of_lt (hold i p hi))];exact hi
 have hle:ι.le (ext ι m.next ⟨b,o,cur.size⟩):=hext
 have hinv:∀i p,ext ι m.next ⟨b,o,cur.size⟩ i=some p->(i=m.next/\p=⟨b,o,cur.size⟩)∨(ι i=some p/\i≠m.next):=fun i p hi=>by
  unfold ext at hi
  by_cases e:i.toNat=m.next.toNat
  ·rw[yf e] at hi;injection hi with hi;exact Or.inl ⟨D4.toNat_inj e,hi.symm⟩
  ·rw[ye e] at hi;exact Or.inr ⟨hi,fun q=>e (by rw[q])⟩
 have hnl:∀i p,ext ι m.next ⟨b,o,cur.size⟩ i=some p->¬Live ((m.add (.cells false c)).get i):=fun i p hi=>by
  rcases hinv i p hi with ⟨rfl,_⟩|⟨hi,hne⟩
  ·rw[NH.get_add_same];exact fun q=>q.2 c rfl
  ·rw[NH.get_add_ne _ _ hne];exact hL i p hi
 refine ⟨ext ι m.next ⟨b,o,cur.size⟩,⟨⟨?_, ?_, ?_, ?_, ?_,hR.gl.mono hle⟩,hnl⟩,hle,Chg.add m _,by unfold ext;rw[yf rfl],NH.get_add_same m _,lV m _⟩
 ·intro i p hi
  rcases hinv i p hi with ⟨rfl,rfl⟩|⟨hi,hne⟩
  ·refine ⟨.cells false c,NH.get_add_same m _, ?_⟩
   show ∃(cur':Array Value) (T:TypeId) (fz:Nat×Nat),W.heap[b]? =some (.cells cur' T fz)/\(false=true->fz=(0,0))/\cur'.size=cur.size/\o+c.length<=cur.size/\∀i v,c[i]? =some v->∃v',cur'[o+i]? =some v'/\VR (ext ι m.next ⟨b,o,cur.size⟩) v v'/\v'.oneCell'=true
   refine ⟨cur,T,fz,hb,fun q=>Bool.noConfusion q,rfl,hn,fun i v hv=> ?_⟩
   obtain ⟨v',h1,h2,h3⟩:=hc i v hv
   exact ⟨v',h1,h2.mono hle,h3⟩
  ·obtain ⟨x,h1,h2⟩:=hR.obj i p hi
   exact ⟨x,(NH.get_add_ne m _ hne).trans h1,h2.mono hle rfl⟩
 ·intro i j p q hi hj hne hl _
  exact yd hl (hnl i p hi)
 ·intro i p hi hl;exact yd hl (hnl i p hi)
 ·intro i p hi
  rcases hinv i p hi with ⟨rfl,rfl⟩|⟨hi,_⟩
  ·exact (Array.getElem?_eq_some_iff.mp hb).1
  ·exact hR.lt i p hi
 ·intro i x hx
  by_cases e:i=m.next
  ·subst e;exact lV m _
  ·rw[NH.get_add_ne _ _ e] at hx
   exact (Chg.add m (.cells false c)).old (hR.fresh i x hx)
theorem Ro.add {P:Program} {W:World} {ι:ax} {m:NH} (h:Ro P W ι m) {b o:Nat} {c:List NV} {cur:Array Value} {T:TypeId} {fz:Nat×Nat} (hb:W.heap[b]? =some (.cells cur T fz)) (hn:o+c.length<=cur.size)
 (hc:∀i v,c[i]? =some v->∃v',cur[o+i]? =some v'/\VR ι v v'/\v'.oneCell'=true):
 ∃ι' m',Ro P W ι' m'/\ι.le ι'/\Chg [] m m'/\ι' m.next=some ⟨b,o,cur.size⟩/\m'.get m.next=some (.cells false c)/\ko m' m.next:=by
 obtain ⟨ι',h⟩:=h.addE hb hn hc
 exact ⟨ι',_,h⟩
theorem Ro.nil (P:Program) (W:World) (hw:NG<=W.heap.size):Ro P W ι0 G0:=⟨vb P W hw,fun i p h=>by rw[d9 h];exact bz⟩
theorem VRL.append {ι:ax} {a:List NV} {a':List Value} {b:List NV} {b':List Value} (h:VRL ι a a') (k:VRL ι b b'):VRL ι (a++b) (a'++b'):=by
 induction a generalizing a' with
 |nil=>cases h;exact k
 |cons v l ih=>cases h with
  |cons _ v' _ l' h hl=>exact .cons _ _ _ _ h (ih hl)
def Cs (W:World) (ι:ax) (a:Addr) (l:List NV):Prop:=∀(j:Nat) (v:NV),l[j]? =some v->∃v',W.cell? (a.add j)=some v'/\VR ι v v'/\v'.oneCell'=true
theorem Cs.mono {W:World} {ι ι':ax} (hι:ι.le ι') {a:Addr} {l:List NV} (h:Cs W ι a l):Cs W ι' a l:=fun j v hv=>let ⟨v',h1,h2,h3⟩:=h j v hv;⟨v',h1,h2.mono hι,h3⟩
omit [Val] in
theorem trodAll_stays {P:Program} (hl:laidOutB P=true) {W W':World} (hb:Below W.heap.size W W') {H:Type} {enc:TypeId×Value->H} {sp:Nat->Bool}:∀(ts:List TypeId) (args:List Value) (ds:List (DataW H)) (ps:List MemPlace),(∀t∈ts,P.readableRec t=true/\t<P.types.size)->
 DataW.TrodAll enc P W 0 (fun _=>true) true ts args ds ps->(∀p∈ps,p.block<W.heap.size)->(∀p∈ps,sp p.block=true)->DataW.TrodAll enc P W' 0 sp true ts args ds ps:=by
 intro ts
 induction ts with
 |nil=>
  intro args ds ps _ h _ _
  cases args with
  |nil=>cases ds with
   |nil=>exact h
   |cons=>cases h
  |cons=>cases h
 |cons t ts ih=>
  intro args ds ps hr h hlt hsp
  cases args with
  |nil=>cases h
  |cons v args=>
   cases ds with
   |nil=>cases h
   |cons d ds=>
    obtain ⟨p,q,hd,hq,rfl⟩:=h
    exact ⟨p,q,WideElems.Trod_stays hl (hr t (List.mem_cons_self ..)).1 (hr t (List.mem_cons_self ..)).2 hd (fun x hx=>hb.same (hlt x (List.mem_append_left _ hx))) (fun x hx=>hsp x (List.mem_append_left _ hx)),
     ih args ds q (fun t ht=>hr t (List.mem_cons_of_mem _ ht)) hq (fun x hx=>hlt x (List.mem_append_right _ hx)) (fun x hx=>hsp x (List.mem_append_right _ hx)),rfl⟩
omit [Val] in
theorem wB.kept {P:Program} {S:bn} {f:Nat} {args:List NV} {v:NV} (h:S f args=fun h=>some (v,h)) (m:NH):wB P S f args m v m:=by
 refine ⟨none,by simp,0, ?_⟩
 unfold bg;rw[h]
omit [Val] in
theorem trodAll_len {P:Program} {W:World} {base:Nat} {sp:Nat->Bool} {hd:Bool} {H:Type} {enc:TypeId×Value->H}:∀{ts:List TypeId} {vs:List Value} {ds:List (DataW H)} {ps:List MemPlace},DataW.TrodAll enc P W base sp hd ts vs ds ps->ds.length=ts.length:=by
 intro ts
 induction ts with
 |nil=>intro vs ds ps h;cases vs<;>cases ds<;>first|rfl|cases h
 |cons t ts ih=>
  intro vs ds ps h
  cases vs with
  |nil=>cases h
  |cons v vs=>cases ds with
   |nil=>cases h
   |cons d ds=>obtain ⟨_,_,_,h,_⟩:=h;simp[ih h]
end
end Nm
namespace Nm
open Go Go.RowKit
namespace C
abbrev t (a:D4):NOpd:= .tmp a
abbrev k (z:Int):NOpd:= .const (.int .i64 (.lit z))
abbrev ku (z:Int):NOpd:= .const (.int .u64 (.lit z))
abbrev kt:NOpd:= .const (.bool true)
abbrev kf:NOpd:= .const (.bool false)
abbrev kn:NOpd:= .const .nils
abbrev F (n:Nat):NOpd:= .const (.fn n [])
abbrev o (d:D4) (p:NOp) (i:Nat):NOper:=⟨some d,p,none,0,i⟩
abbrev O (d:D4) (p:NOp) (q i:Nat):NOper:=⟨some d,p,none,q,i⟩
abbrev G (d:D4) (p:NOp) (g:D4) (b:Bool) (i:Nat):NOper:=⟨some d,p,some (g,b),0,i⟩
abbrev m (d s:D4) (i:Nat):NOper:=⟨some d,.move (.tmp s),none,0,i⟩
abbrev f (n:Nat) (d s:D4) (i:Nat):NOper:=⟨some d,.fieldAddr n (.tmp s),none,0,i⟩
abbrev l (d s:D4) (i:Nat):NOper:=⟨some d,.load1 (.tmp s),none,0,i⟩
abbrev L (d s:D4) (i:Nat):NOper:=⟨some d,.lenSlc (.tmp s),none,0,i⟩
abbrev n (d s:D4) (i:Nat):NOper:=⟨some d,.nilCheck (.tmp s),none,0,i⟩
abbrev x (d s:D4) (j i:Nat):NOper:=⟨some d,.extract (.tmp s) j,none,0,i⟩
abbrev q (p:NOp) (i:Nat):NOper:=⟨none,p,none,0,i⟩
abbrev b (d:D4) (p:BinOp) (a c:NOpd) (i:Nat):NOper:=⟨some d,.bin .num p a c,none,0,i⟩
end C
end Nm
namespace Nm
open Go Go.RowKit
noncomputable def ra (f:Nat) (F:List NV->NH->Option (NV×NH)) (S:bn):bn:=fun g=>cond (Nat.beq g f) F (S g)
section
variable [Val]
def cX (P:Program) (f:Nat) (F:List NV->NH->Option (NV×NH)):Prop:=
 ∀(ι:ax) (B:Nat) (h:NH) (w:World) (args:List NV) (args':List Value) (v:NV) (h':NH),F args h=some (v,h')->Rel P ι B h w->B<=w.heap.size->VRL ι args args'->
  jF P ι B h w ((callFunc f args'.toArray).run P w) (.val v none h')
theorem kB {P:Program} {S:bn} {f:Nat} {F:List NV->NH->Option (NV×NH)} (hS:cJ P S) (hF:cX P f F):cJ P (ra f F S):=by
 intro ι B h w g args args' v h' hg hR hB hl
 unfold ra at hg
 cases hb:Nat.beq g f with
 |true=>
  rw[hb] at hg
  obtain rfl:=yi hb
  exact hF ι B h w args args' v h' hg hR hB hl
 |false=>
  rw[hb] at hg
  exact hS ι B h w g args args' v h' hg hR hB hl
theorem cX.of {P:Program} {f:Nat} {F:List NV->NH->Option (NV×NH)} (hen:∀args w,(callFunc f args).run P w= .ok (.enter f args) w)
 (H:∀(ι:ax) (B:Nat) (h:NH) (w:World) (args:List NV) (args':List Value) (v:NV) (h':NH),F args h=some (v,h')->Rel P ι B h w->B<=w.heap.size->VRL ι args args'->
  Calls P f args'.toArray w fun e w'=>∃ι' v',e= .returned v'/\VR ι' v v'/\Rel P ι' B h' w'/\B<=w'.heap.size/\Grow ι h w ι' h' w'):cX P f F:=by
 intro ι B h w args args' v h' hF hR hB hl c0 cs
 obtain ⟨e,w',fr,⟨ι',v',he,hv,hR',hB',hG⟩,hcomes,hfn,hleave⟩:=H ι B h w args args' v h' hF hR hB hl (c0::cs)
 subst he
 exact ⟨ι',v',w',hv,hR',hB',hG,.inr ⟨w,.inl ⟨f,args'.toArray,hen _ w,Steps.trans hcomes (.one (step_leave_returned hleave))⟩⟩⟩
theorem Rel.below {P:Program} {ι:ax} {B:Nat} {h:NH} {w w':World} (hR:Rel P ι B h w) (hb:Below w.heap.size w w'):Rel P ι B h w':=
 ⟨fun i p hi=>by
  obtain ⟨o,o1,o2⟩:=hR.obj i p hi
  exact ⟨o,o1,o2.mono (ax.le_refl _) (hb.block _ (hR.lt i p hi))⟩,hR.inj,hR.base,fun i p hi=>Nat.lt_of_lt_of_le (hR.lt i p hi) hb.size,hR.fresh,hR.gl⟩
omit [Val] in
theorem Grow.below {ι:ax} {h:NH} {w w':World} (hb:Below w.heap.size w w'):Grow ι h w ι h w':=
 ⟨ax.le_refl _,Nat.le_refl _,fun _ _ x=> .inl x,fun i p x y=> .inr ⟨i,p,x,y,rfl⟩,fun _ _ _=>rfl,hb.size,hb.os,hb.tape,hb.output,fun b hb' _=>hb.block b hb'⟩
theorem Rel.madeC {P:Program} {ι:ax} {B:Nat} {h:NH} {w w':World} (hR:Rel P ι B h w) (hb:Below w.heap.size w w') {N:Nat} (hN:w.heap.size<=N) {cur:Array Value} {T:TypeId} {fz:Nat×Nat} (hc:w'.heap[N]? =some (.cells cur T fz)) {o:Nat} {c:List NV} (hlen:o+c.length<=cur.size) (hcs:∀(ι2:ax) (i:Nat) (v:NV),c[i]? =some v->∃v',cur[o+i]? =some v'/\VR ι2 v v'/\v'.oneCell'=true):
 ∃ι',ι' h.next=some ⟨N,o,cur.size⟩/\Rel P ι' B (h.add (.cells false c)) w'/\Grow ι h w ι' (h.add (.cells false c)) w':=by
 have hR':=hR.below hb
 have hn:ι h.next=none:=by
  cases hi:ι h.next with
  |none=>rfl
  |some q=>obtain ⟨o,h1,_⟩:=hR.obj _ _ hi;exact yd (hR.fresh _ _ h1) (Nat.lt_irrefl _)
 have hle:ι.le (ext ι h.next ⟨N,o,cur.size⟩):=fun i p hi=>by
  unfold ext
  by_cases e:i.toNat=h.next.toNat
  ·rw[D4.toNat_inj e,hn] at hi;cases hi
  ·rw[ye e];exact hi
 have hinv:∀i p,ext ι h.next ⟨N,o,cur.size⟩ i=some p->(i=h.next/\p=⟨N,o,cur.size⟩)∨(ι i=some p/\i≠h.next):=fun i p hi=>by
  unfold ext at hi
  by_cases e:i.toNat=h.next.toNat
  ·rw[yf e] at hi;injection hi with hi;exact Or.inl ⟨D4.toNat_inj e,hi.symm⟩
  ·rw[ye e] at hi;exact Or.inr ⟨hi,fun q=>e (by rw[q])⟩
 have hget:∀i,i≠h.next->(h.add (.cells false c)).get i=h.get i:=fun i e=>NH.get_add_ne _ _ e
 have hnl:¬Live ((h.add (.cells false c)).get h.next):=by rw[NH.get_add_same];exact fun q=>q.2 c rfl
 refine ⟨ext ι h.next ⟨N,o,cur.size⟩,by unfold ext;rw[yf rfl],⟨fun i p hi=> ?_,fun i j p q hi hj hij d1 d2=> ?_,fun i p hi d=> ?_,fun i p hi=> ?_,fun i o ho=> ?_,hR.gl.mono hle⟩,hle, ?_,fun i p hi=> ?_,fun i p hi d=> ?_,fun i hi hl=> ?_,hb.size,hb.os,hb.tape,hb.output,fun b hb' _=>hb.block b hb'⟩
 ·rcases hinv i p hi with ⟨rfl,rfl⟩|⟨hi,hne⟩
  ·refine ⟨_,NH.get_add_same _ _,cur,T,fz,hc,fun q=>Bool.noConfusion q,rfl,hlen,fun i v hv=>hcs _ i v hv⟩
  ·obtain ⟨o,o1,o2⟩:=hR'.obj i p hi
   exact ⟨o,by rw[hget i hne];exact o1,o2.mono hle rfl⟩
 ·rcases hinv i p hi with ⟨rfl,rfl⟩|⟨hi,hne⟩
  ·exact yd d1 hnl
  ·rw[hget i hne] at d1
   rcases hinv j q hj with ⟨rfl,rfl⟩|⟨hj,hne'⟩
   ·have:=hR.lt i p hi;show p.b≠N;omega
   ·rw[hget j hne'] at d2
    exact hR.inj i j p q hi hj hij d1 d2
 ·rcases hinv i p hi with ⟨rfl,rfl⟩|⟨hi,hne⟩
  ·exact yd d hnl
  ·rw[hget i hne] at d;exact hR.base i p hi d
 ·rcases hinv i p hi with ⟨rfl,rfl⟩|⟨hi,_⟩
  ·exact (Array.getElem?_eq_some_iff.1 hc).1
  ·exact hR'.lt i p hi
 ·show i.toNat<h.next.nxt.toNat
  rw[D4.toNat_nxt]
  by_cases e:i=h.next
  ·subst e;omega
  ·rw[hget i e] at ho;have:=hR.fresh i o ho;omega
 ·show h.next.toNat<=h.next.nxt.toNat
  rw[D4.toNat_nxt];omega
 ·rcases hinv i p hi with ⟨rfl,_⟩|⟨hi,_⟩
  ·exact .inr (Nat.le_refl _)
  ·exact .inl hi
 ·rcases hinv i p hi with ⟨rfl,_⟩|⟨hi,hne⟩
  ·exact yd d hnl
  ·rw[hget i hne] at d;exact .inr ⟨i,p,hi,d,rfl⟩
 ·exact hget i fun e=>by rw[e] at hl;exact Nat.lt_irrefl _ hl
end
end Nm
namespace Nm
open Go Go.RowKit Go.Proofs Go.Shelf
noncomputable section
def kq (z:Int) (l:List Int):List Int:=List.rec [z] (fun a l ih=>cond (eo z a) (z::a::l) (a::ih)) l
def gM (l:List Int):List Int:=List.rec [] (fun a _ ih=>kq a ih) l
def lO (l:List (NV×NV)):Option (List Int):=List.rec (some []) (fun e _ ih=>match e.1 with
 | .int .i64 (.lit z)=>cond (eo (.negSucc 9223372036854775807) z) (cond (eo z (.ofNat 9223372036854775807)) (match ih with|some r=>some (z::r)|none=>none) none) none
 |_=>none) l
def oz (g:Nat) (l:List NV) (h:NH):Option (NV×NH):=
 match l with
 | [.map id]=>h.new (.iter [(.map id,.tup [])] none) fun b h=>some (.fn g [.ptr b 0],h)
 |_=>none
def pC (r:List Int):List NV:=r.map fun z=> .int .i64 (.lit z)
def gV (g:Nat) (l:List NV) (h:NH):Option (NV×NH):=
 match l with
 | [.fn g' [.ptr b 0]]=>cond (Nat.beq g' g) (match h.get b with
  |some (.iter [(.map id,.tup [])] none)=>(match h.get id with
   |some (.map es)=>(match lO es with
    |some ks=>cw es fun n=>cond (Nat.ble n 1000000) (match gM ks with
     | []=>some (.nils,h)
     |a::r=>h.new (.cells false (pC (a::r))) fun b h=>some (.slc b 0 n 1 n,h)) none
    |none=>none)
   |_=>none)
  |_=>none) none
 |_=>none
end
theorem jH (z a:Int) (l:List Int):kq z (a::l)=if z<=a then z::a::l else a::kq z l:=by
 have e:kq z (a::l)=cond (eo z a) (z::a::l) (a::kq z l):=rfl
 rw[e,a7]
 by_cases h:z<=a<;>simp[h]
theorem jR (z:Int):∀l:List Int,(kq z l).Perm (z::l):=by
 intro l
 induction l with
 |nil=>exact List.Perm.refl _
 |cons a l ih=>
  rw[jH]
  split
  ·exact List.Perm.refl _
  ·exact (List.Perm.cons a ih).trans (List.Perm.swap z a l)
theorem ij (a:Int) (l:List Int):gM (a::l)=kq a (gM l):=rfl
theorem eX:∀l:List Int,(gM l).Perm l:=by
 intro l
 induction l with
 |nil=>exact List.Perm.refl _
 |cons a l ih=>rw[ij];exact (jR a _).trans (List.Perm.cons a ih)
theorem lM (z:Int):∀l:List Int,l.Pairwise (·<=·)->(kq z l).Pairwise (·<=·):=by
 intro l
 induction l with
 |nil=>intro _;simp[kq]
 |cons a l ih=>
  intro h
  rw[jH]
  obtain ⟨h1,h2⟩:=List.pairwise_cons.1 h
  split
  ·rename_i hz
   refine List.pairwise_cons.2 ⟨fun x hx=> ?_,h⟩
   rcases List.mem_cons.1 hx with rfl|hx
   ·exact hz
   ·exact Int.le_trans hz (h1 x hx)
  ·rename_i hz
   refine List.pairwise_cons.2 ⟨fun x hx=> ?_,ih h2⟩
   rcases List.mem_cons.1 ((jR z l).mem_iff.1 hx) with rfl|hx
   ·omega
   ·exact h1 x hx
theorem kP:∀l:List Int,(gM l).Pairwise (·<=·):=by
 intro l
 induction l with
 |nil=>exact List.Pairwise.nil
 |cons a l ih=>rw[ij];exact lM a _ ih
theorem ma {l ss:List Int} (h:ss.Perm l):ss.mergeSort (fun x y=>decide (x<=y))=gM l:=by
 have tr:∀a b c:Int,decide (a<=b)=true->decide (b<=c)=true->decide (a<=c)=true:=fun a b c h1 h2=>by simp at h1 h2 ⊢;omega
 have to:∀a b:Int,(decide (a<=b)||decide (b<=a))=true:=fun a b=>by simp;omega
 refine List.Perm.eq_of_pairwise (le:=fun a b=>a<=b) (fun a b _ _ h1 h2=>Int.le_antisymm h1 h2) ((List.pairwise_mergeSort tr to ss).imp fun h=>by simpa using h) (kP l) (((List.mergeSort_perm ss _).trans h).trans (eX l).symm)
section
variable [Val]
theorem tJ {P:Program} {ρ:Ren} (L:SlLaysZI.n7 P ρ) {f g:Nat} (hf:ρ.f 7=f) (hg:ρ.f 10=g):cX P f (oz g):=by
 subst hf;subst hg
 refine cX.of (L.f7.enters rfl) fun ι B h w args args' v h' hF hR hB hl=> ?_
 unfold oz at hF
 split at hF
 ·rename_i id
  rw[NH.new_eq] at hF
  cases hF
  cases hl with
  |cons _ _ _ _ hx hnil=>
   cases hnil
   cases hx with
   |map _ p hp=>
    have hc:=(callsIn_wide (n:=1)).1 (AnyZI.keys_in L Fence.wide 1 trivial rfl (some p.b) w)
    obtain ⟨ι',h1,hle,h3,h4⟩:=hR.alloc hB (.iter [(.map id,.tup [])] none) (.cells #[.map (some p.b)] (ρ.t 23)) ⟨w.heap.size,0,1⟩ rfl fun ι' hle=>by
     intro x e
     cases e
     exact ⟨rfl,_,_,_,bL w _,.map id p (hle _ _ hp)⟩
    refine hc.mono ?_
    rintro e w' ⟨rfl,rfl⟩
    exact ⟨ι',_,rfl,.fn _ _ [_] (.cons _ _ _ _ (.ptr _ 0 _ h1) .nil),h3,Nat.le_trans hB h4.size,h4⟩
 ·cases hF
theorem pM {ι:ax}:∀{l:List (NV×NV)} {es:List MapEntry} {ks:List Int},lO l=some ks->MR ι l es->es.map (·.key)=ks.map (fun z=>Value.int .i64 z)/\∀z∈ks,-9223372036854775808<=z/\z<=9223372036854775807:=by
 intro l
 induction l with
 |nil=>intro es ks h hm;cases h;cases es with|nil=>exact ⟨rfl,by simp⟩|cons=>exact hm.elim
 |cons a l ih=>
  intro es ks h hm
  cases es with
  |nil=>exact hm.elim
  |cons b es=>
   obtain ⟨m1,m2,m3⟩:=hm
   have e:lO (a::l)=(match a.1 with
    | .int .i64 (.lit z)=>cond (eo (.negSucc 9223372036854775807) z) (cond (eo z (.ofNat 9223372036854775807)) (match lO l with|some r=>some (z::r)|none=>none) none) none
    |_=>none):=rfl
   rw[e] at h
   split at h
   ·rename_i z hz
    obtain ⟨c2,h⟩:=am h
    obtain ⟨c3,h⟩:=am h
    rw[a7] at c2 c3
    have h0:-9223372036854775808<=z:=of_decide_eq_true c2
    have h1:z<=9223372036854775807:=of_decide_eq_true c3
    cases hk:lO l with
    |none=>rw[hk] at h;cases h
    |some r=>
     rw[hk] at h;cases h
     obtain ⟨q1,q2⟩:=ih hk m3
     rw[hz] at m1
     refine ⟨?_,fun x hx=> ?_⟩
     ·rw[List.map_cons,List.map_cons,q1]
      cases hb:b.key<;>rw[hb] at m1<;>cases m1
      rfl
     ·rcases List.mem_cons.1 hx with rfl|hx
      ·exact ⟨h0,h1⟩
      ·exact q2 x hx
   ·cases h
theorem pU {P:Program} {ρk ρs:Ren} (LK:SlLaysZI.n10 P ρk) (LS:SlLaysZI.n6 P ρs) (hsort:∀m,AnyZI.SortsIn P ρs Fence.wide m) (e9:∀args w,(callFunc (ρs.f 9) args).run P w= .ok (.enter (ρs.f 9) args) w) {f g:Nat} (hf:ρs.f 6=f) (hg:ρk.f 10=g)
 (en:∀args w,(callFunc f args).run P w= .ok (.enter f args) w):cX P f (gV g):=by
 subst hf;subst hg
 refine cX.of en fun ι B h w args args' v h' hF hR hB hl=> ?_
 unfold gV at hF
 split at hF
 ·rename_i g' b
  have hh:=am hF
  clear hF
  obtain ⟨c1,hF⟩:=hh
  have hgg:=yi c1
  clear c1
  subst hgg
  split at hF
  ·rename_i id hb
   split at hF
   ·rename_i es hid
    split at hF
    ·rename_i ks hks
     rw[aX] at hF
     obtain ⟨c2,hF⟩:=am hF
     have hlen:=Nat.le_of_ble_eq_true c2
     cases hl with
     |cons _ _ _ _ hx hnil=>
     cases hnil
     cases hx with
     |fn _ _ cap' hcap=>
     cases hcap with
     |cons _ _ _ _ hp0 hn0=>
     cases hn0
     cases hp0 with
     |ptr _ _ p hp=>
     obtain ⟨o,o1,o2⟩:=hR.obj _ _ hp
     rw[hb] at o1
     cases o1
     obtain ⟨z0,v0,T0,fz0,k1,k2⟩:=o2 _ rfl
     cases k2 with
     |map _ q hq=>
     obtain ⟨o',o1',o2'⟩:=hR.obj _ _ hq
     rw[hid] at o1'
     cases o1'
     obtain ⟨es',clock,m1,m2,m3⟩:=o2'
     obtain ⟨n1,n2⟩:=pM hks m2
     have hsz:es'.size<=1000000:=by have:=m2.length;simp at this;omega
     let R:Value->Option (DataW Unit×List MemPlace):=fun _=>some (.nil, [])
     have hkey:∀x∈es'.toList,∃z,z∈ks/\x.key= .int .i64 z:=fun x hx=>by
      have:x.key∈es'.toList.map (·.key):=List.mem_map_of_mem hx
      rw[n1] at this
      obtain ⟨z,hz,e⟩:=List.mem_map.1 this
      exact ⟨z,hz,e.symm⟩
     have hwf:∀z∈ks,(Lit.int .i64 z).wf=true:=fun z hz=>by
      obtain ⟨q1,q2⟩:=n2 z hz
      show (decide (IntKind.i64.min<=z)&&decide (z<=IntKind.i64.max))=true
      rw[yh (show IntKind.i64.min<=z from q1),yh (show z<=IntKind.i64.max from q2)]
      rfl
     have hrd:∀x∈es'.toList,∀z,x.key= .int .i64 z->WideElems.rd P (ρk.t 26) R x=some (.int .i64 z,.nil):=fun x hx z e=>by
      obtain ⟨z',hz',e'⟩:=hkey x hx
      rw[e] at e'
      cases e'
      unfold WideElems.rd
      rw[e,Maps.keyOf_int_mk LK.t26 (hwf z hz')]
      rfl
     have hfit:WideElems.Fit P (ρk.t 26) R es' clock:=⟨by unfold maxLen;omega,m3,fun x hx=>by
      obtain ⟨z,hz,e⟩:=hkey x hx
      exact ⟨_,hrd x hx z e⟩⟩
     have hown:w.ownsMap P (ρk.t 26) R q.b es'.size (.map ((es'.toList.map (WideElems.rg P (ρk.t 26) R)).foldr DataW.insert [])):=⟨es',clock,m1,hfit,Nat.le_refl _,rfl⟩
     have hperm:(intKeys (H:=Unit) (.map ((es'.toList.map (WideElems.rg P (ρk.t 26) R)).foldr DataW.insert []))).Perm ks:=by
      refine ((Go.WideShapes.sorted_perm _).map _).trans ?_
      rw[List.map_map]
      have e2:es'.toList.map ((fun p:Lit×DataW Unit=>Go.intOf p.1) ∘ WideElems.rg P (ρk.t 26) R)=ks:=by
       have e3:es'.toList.map ((fun p:Lit×DataW Unit=>Go.intOf p.1) ∘ WideElems.rg P (ρk.t 26) R)=(es'.toList.map (·.key)).map fun v=>match v with| .int _ z=>z|_=>0:=by
        rw[List.map_map]
        refine List.map_congr_left fun x hx=> ?_
        obtain ⟨z,hz,e⟩:=hkey x hx
        show Go.intOf (WideElems.rg P (ρk.t 26) R x).1=_
        unfold WideElems.rg
        rw[hrd x hx z e]
        simp[e,Go.intOf]
       rw[e3,n1,List.map_map]
       exact List.map_id ks
      rw[e2]
     have hcell:w.cell? ⟨p.b,0,none⟩=some (.map (some q.b)):=by unfold World.cell?;rw[k1];rfl
     have hnb:Maps.size (H:=Unit) (.map ((es'.toList.map (WideElems.rg P (ρk.t 26) R)).foldr DataW.insert []))=es'.size:=by rw[Maps.size_eq,length_sorted];simp
     have hseq:=AnyZI.keys_gives LK Fence.wide 2 trivial rfl (by omega) p.b q.b es'.size _ w (hR.lt _ _ hp) hcell hown
     have cS:=AnyZI.sorted_in LS Fence.wide 5 trivial trivial trivial trivial rfl (by omega) (hsort _) e9 (ρk.f 10) #[.pointer (some ⟨p.b,0,none⟩)] trivial (LK.f10.enters rfl) _ _ (by rw[hnb];unfold maxLen;omega) (by rw[hnb];omega) w hseq
     have hc:=(callsIn_wide (n:=5)).1 cS
     have hpt:(Value.pointer (some ⟨p.b,p.o+0,none⟩))= .pointer (some ⟨p.b,0,none⟩):=by rw[z0]
     rw[hpt]
     refine hc.mono ?_
     rintro e w' ⟨vv,ss,rfl,hS,hrow,hnil,hbl⟩
     have hm:=ma (hS.trans hperm)
     rw[hm] at hrow
     have hsl:ss.length=(gM ks).length:=by rw[(eX ks).length_eq];exact (hS.trans hperm).length_eq
     obtain ⟨r1,r2⟩:=hrow
     cases hso:gM ks with
     |nil=>
      rw[hso] at hF hsl
      cases hF
      have hss:ss= []:=List.eq_nil_of_length_eq_zero hsl
      obtain rfl:=hnil.2 hss
      exact ⟨ι,_,rfl,.nils,hR.below hbl,Nat.le_trans hB hbl.size,.below hbl⟩
     |cons a r=>
      rw[hso] at hF hsl r2
      have hF':h.new (.cells false (pC (a::r))) (fun b h=>some (NV.slc b 0 es.length 1 es.length,h))=some (v,h'):=hF
      rw[NH.new_eq] at hF'
      cases hF'
      have hel:es.length=ss.length:=by
       have e1:=m2.length
       have e2:(es'.toList.map (·.key)).length=ks.length:=by rw[n1];simp
       have e3:=(eX ks).length_eq
       rw[hso] at e3
       simp at e1 e2 e3 hsl;omega
      rcases r2 with ⟨_,hz⟩|⟨gb,cap,cur,rfl,hbase,hgb,s1,s2,s3,s4⟩
      ·rw[hz] at hsl;simp at hsl
      ·have hcl:(pC (a::r)).length=ss.length:=by unfold pC;rw[List.length_map];exact hsl.symm
       obtain ⟨ι',q1,q2,q3⟩:=hR.madeC hbl hbase hgb (o:=0) (c:=pC (a::r)) (by rw[hcl,s3];omega) fun ι2 i v hi=>by
        unfold pC at hi
        rw[List.getElem?_map] at hi
        cases hai:(a::r)[i]? with
        |none=>rw[hai] at hi;cases hi
        |some z=>
         rw[hai] at hi
         cases hi
         refine ⟨.int .i64 z, ?_,.int _ _,rfl⟩
         have:(cur.toList.take (ss.length*1))[i]? =some (.int .i64 z):=by rw[s4,List.getElem?_map,hai];rfl
         rw[List.getElem?_take] at this
         split at this
         ·simpa using this
         ·cases this
       refine ⟨ι',_,rfl, ?_,q2,Nat.le_trans hB hbl.size,q3⟩
       rw[hel]
       exact .slc _ 0 _ 1 _ _ _ cap q1 s1 s1 s2 (by omega) fun _=>⟨rfl,by simp[s3]⟩
    ·cases hF
   ·cases hF
  ·cases hF
 ·cases hF
end
end Nm
namespace Nm
open Go Go.RowKit Go.Proofs Go.Shelf
open Go.Sort (flatK get_flatK size_flatK HoldsK putRowK grow putCells mapBlock onCells ahead)
abbrev PI:=Int×Int
noncomputable section
def iR (n:Nat):List NV->Option (List PI):=Nat.rec (fun _=>some []) (fun _ ih c=>match c with
 | .int .i64 (.lit a):: .int .i64 (.lit b)::r=>(match ih r with|some l=>some ((a,b)::l)|none=>none)
 |_=>none) n
def nK (z:PI) (l:List PI):List PI:=List.rec [z] (fun a l ih=>cond (eo z.1 a.1) (z::a::l) (a::ih)) l
def dS (l:List PI):List PI:=List.rec [] (fun a _ ih=>nK a ih) l
def it (l:List PI):Bool:=List.rec true (fun a l ih=>match l with| []=>true|b::_=>cond (eo b.1 a.1) false ih) l
def dQ (l:List PI):List NV:=List.rec [] (fun a _ ih=> .int .i64 (.lit a.1):: .int .i64 (.lit a.2)::ih) l
def cN (g:Nat) (l:List NV) (h:NH):Option (NV×NH):=
 match l with
 | [.nils,.fn g' []]=>cond (Nat.beq g' g) (some (.tup [],h)) none
 | [.slc id off n 2 _,.fn g' []]=>cond (Nat.beq g' g) (cond (Nat.beq n 0) (some (.tup [],h)) (match h.get id with
  |some (.cells true c)=>(match iR n (c.drop off) with
   |some ps=>cond (Nat.ble n 1000000) (cond (it (dS ps)) (h.set id (.cells true (c.take off++(dQ (dS ps)++c.drop (off+n*2)))) fun h=>some (.tup [],h)) none) none
   |none=>none)
  |_=>none)) none
 |_=>none
end
theorem g6 (a:PI) (l:List PI):dQ (a::l)= .int .i64 (.lit a.1):: .int .i64 (.lit a.2)::dQ l:=rfl
theorem jK (l:List PI):(dQ l).length=l.length*2:=by
 induction l with
 |nil=>rfl
 |cons a l ih=>rw[g6];simp[ih];omega
theorem lc:∀(n:Nat) (l:List NV) (ps:List PI),iR n l=some ps->l.take (n*2)=dQ ps/\ps.length=n:=by
 intro n
 induction n with
 |zero=>intro l ps h;cases h;exact ⟨by simp[dQ],rfl⟩
 |succ n ih=>
  intro l ps h
  have e:iR (n+1) l=(match (generalizing:=false) l with
   | .int .i64 (.lit a):: .int .i64 (.lit b)::r=>(match iR n r with|some l=>some ((a,b)::l)|none=>none)
   |_=>none):=rfl
  rw[e] at h
  split at h
  ·rename_i a b r
   cases hp:iR n r with
   |none=>rw[hp] at h;cases h
   |some l'=>
    rw[hp] at h;cases h
    obtain ⟨h1,h2⟩:=ih r l' hp
    refine ⟨?_,by simp[h2]⟩
    rw[show (n+1)*2=n*2+1+1 by omega,List.take_succ_cons,List.take_succ_cons,h1];rfl
  ·cases h
theorem jG:∀(l:List PI) (t:Nat) (v:NV),(dQ l)[t]? =some v->∃x,l[t / 2]? =some x/\v= .int .i64 (.lit (if t % 2=0 then x.1 else x.2)):=by
 intro l
 induction l with
 |nil=>intro t v h;simp[dQ] at h
 |cons a l ih=>
  intro t v h
  rw[g6] at h
  match t,h with
  |0,h=>simp at h;exact ⟨a,rfl,by simp[h]⟩
  |1,h=>simp at h;exact ⟨a,rfl,by simp[h]⟩
  |t+2,h=>
   simp only[List.getElem?_cons_succ] at h
   obtain ⟨x,h1,h2⟩:=ih t v h
   refine ⟨x, ?_, ?_⟩
   ·rw[show (t+2) / 2=t / 2+1 by omega];simpa using h1
   ·rw[show (t+2) % 2=t % 2 by omega];exact h2
theorem oF (z a:PI) (l:List PI):nK z (a::l)=if z.1<=a.1 then z::a::l else a::nK z l:=by
 have e:nK z (a::l)=cond (eo z.1 a.1) (z::a::l) (a::nK z l):=rfl
 rw[e,a7]
 by_cases h:z.1<=a.1<;>simp[h]
theorem oR (z:PI):∀l:List PI,(nK z l).Perm (z::l):=by
 intro l
 induction l with
 |nil=>exact List.Perm.refl _
 |cons a l ih=>
  rw[oF]
  split
  ·exact List.Perm.refl _
  ·exact (List.Perm.cons a ih).trans (List.Perm.swap z a l)
theorem mm (a:PI) (l:List PI):dS (a::l)=nK a (dS l):=rfl
theorem iG:∀l:List PI,(dS l).Perm l:=by
 intro l
 induction l with
 |nil=>exact List.Perm.refl _
 |cons a l ih=>rw[mm];exact (oR a _).trans (List.Perm.cons a ih)
theorem nd:∀l:List PI,it l=true->l.Pairwise fun x y=>x.1<y.1:=by
 intro l
 induction l with
 |nil=>intro _;exact List.Pairwise.nil
 |cons a l ih=>
  intro h
  have e:it (a::l)=(match (generalizing:=false) l with| []=>true|b::_=>cond (eo b.1 a.1) false (it l)):=rfl
  rw[e] at h
  cases l with
  |nil=>exact List.pairwise_singleton _ _
  |cons b l=>
   dsimp only at h
   rw[a7] at h
   by_cases hab:b.1<=a.1
   ·rw[yh hab] at h;cases h
   ·rw[yg hab] at h
    have hp:=ih h
    refine List.pairwise_cons.2 ⟨fun x hx=> ?_,hp⟩
    rcases List.mem_cons.1 hx with rfl|hx
    ·omega
    ·have:=(List.pairwise_cons.1 hp).1 x hx;omega
theorem fO (x y:PI):ltOf (fun x y:PI=>Lib.compareInt x.1 y.1) x y=decide (x.1<y.1):=by
 unfold ltOf Lib.compareInt
 by_cases h1:x.1<y.1
 ·simp[h1]
 ·by_cases h2:y.1<x.1<;>simp[h1,h2]
theorem po:Go.Sort.SWO (ltOf fun x y:PI=>Lib.compareInt x.1 y.1) where
 irrefl x:=by rw[fO];simp
 trans x y z h1 h2:=by rw[fO] at *;simp at *;omega
 ntrans x y z h1 h2:=by rw[fO] at *;simp at *;omega
theorem ml {ps:List PI} (hr:it (dS ps)=true) {d':Array PI} (hp:Go.Sort.PermIn 0 ps.toArray.size ps.toArray d') (hs:Go.Sort.SortedIn (ltOf fun x y:PI=>Lib.compareInt x.1 y.1) 0 ps.toArray.size d'):d'.toList=dS ps:=by
 obtain ⟨h1,_,h3⟩:=hp
 have hperm:d'.toList.Perm ps:=by
  have e1:d'.extract 0 ps.toArray.size=d':=by rw[←h1];simp
  have e2:ps.toArray.extract 0 ps.toArray.size=ps.toArray:=by simp
  rw[e1,e2] at h3
  simpa using h3
 have hri:=nd _ hr
 refine List.Perm.eq_of_pairwise (le:=fun a b=>a.1<=b.1) (fun a b ha hb h1 h2=> ?_) ?_ (hri.imp fun h=>Int.le_of_lt h) (hperm.trans (iG ps).symm)
 ·have ha':a∈dS ps:=(hperm.trans (iG ps).symm).mem_iff.1 ha
  have e:a.1=b.1:=Int.le_antisymm h1 h2
  obtain ⟨i,hi,rfl⟩:=List.getElem_of_mem ha'
  obtain ⟨j,hj,rfl⟩:=List.getElem_of_mem hb
  rcases Nat.lt_trichotomy i j with q|q|q
  ·have:=(List.pairwise_iff_getElem.1 hri) i j hi hj q;omega
  ·subst q;rfl
  ·have:=(List.pairwise_iff_getElem.1 hri) j i hj hi q;omega
 ·refine List.pairwise_iff_getElem.2 fun i j hi hj hij=> ?_
  have:=hs i j (Nat.zero_le _) hij (by rw[←h1];simpa using hj)
  rw[fO] at this
  simp at hi hj
  rw[getElem!_pos d' i hi,getElem!_pos d' j hj] at this
  simp at this
  simpa using this
theorem lB (w:World) (os:Array Obj):Below w.heap.size w (grow w os):=
 ⟨rfl,rfl,rfl,by simp[grow],fun i hi=>by
  show (w.heap++os)[i]? =_
  rw[Array.getElem?_append_left hi]⟩
def eV (x:PI):List Value:= [.int .i64 x.1,.int .i64 x.2]
theorem jO (d:Array PI) (t:Nat) (x:PI) (hx:d.toList[t / 2]? =some x):(flatK eV 2 d)[t]! = .int .i64 (if t % 2=0 then x.1 else x.2):=by
 have hx':d[t / 2]? =some x:=by simpa using hx
 obtain ⟨h1,h2⟩:=Array.getElem?_eq_some_iff.1 hx'
 rw[get_flatK eV 2 d t (by omega),getElem!_pos d _ h1,h2]
 have:t % 2=0∨t % 2=1:=by omega
 rcases this with e|e<;>rw[e]<;>rfl
section
variable [Val]
theorem lp {P:Program} {f g:Nat} (en:∀args w,(callFunc f args).run P w= .ok (.enter f args) w)
 (hC:∀(blk off cap:Nat) (d:Array PI) (w:World),HoldsK eV 2 w blk off d->blk<w.heap.size->d.size<4611686018427387904->Calls P f #[.slice (some ⟨blk,off,none⟩) d.size cap,.func (.func g) #[] #[]] w fun e w'=>e= .returned (.tuple #[])/\∃d' n os,Go.Sort.PermIn 0 d.size d d'/\Go.Sort.SortedIn (ltOf fun x y:PI=>Lib.compareInt x.1 y.1) 0 d.size d'/\w'=sortWorldK eV 2 w blk off n d' os)
 (hN:∀(p:Option Addr) (cap:Nat) (fv:Value) (w:World),Calls P f #[.slice p 0 cap,fv] w fun e w'=>e= .returned (.tuple #[])/\w'=w):cX P f (cN g):=by
 refine cX.of en fun ι B h w args args' v h' hF hR hB hl=> ?_
 have hsame:Grow ι h w ι h w:= .below (Below.refl _ _)
 unfold cN at hF
 split at hF
 ·rename_i g'
  obtain ⟨c1,hF⟩:=am hF
  cases hF
  cases hl with
  |cons _ _ _ _ hx hnil=>
  cases hx
  cases hnil with
  |cons _ y _ _ hy hnil=>
  cases hnil
  refine (hN none 0 y w).mono ?_
  rintro e w' ⟨rfl,rfl⟩
  exact ⟨ι,_,rfl,.tup _ [] .nil,hR,hB,hsame⟩
 ·rename_i id off n kc g'
  have hh:=am hF
  clear hF
  obtain ⟨c1,hF⟩:=hh
  have hgg:=yi c1
  clear c1
  subst hgg
  cases hl with
  |cons _ _ _ _ hx hnil=>
  cases hnil with
  |cons _ y _ _ hy hnil=>
  cases hnil
  cases hx with
  |slc _ _ _ _ _ p a cap hp hlc hkc hm he ha=>
  cases hn0:Nat.beq n 0 with
  |true=>
   rw[hn0] at hF
   cases hF
   obtain rfl:=yi hn0
   refine (hN (some a) cap y w).mono ?_
   rintro e w' ⟨rfl,rfl⟩
   exact ⟨ι,_,rfl,.tup _ [] .nil,hR,hB,hsame⟩
  |false=>
   rw[hn0,cond_false] at hF
   have hn1:n≠0:=Nat.ne_of_beq_eq_false hn0
   split at hF
   ·rename_i c hid
    split at hF
    ·rename_i ps hps
     have hh:=am hF
     clear hF
     obtain ⟨c2,hF⟩:=hh
     have hh:=am hF
     clear hF
     obtain ⟨c3,hF⟩:=hh
     have hlen:=Nat.le_of_ble_eq_true c2
     rw[NH.set_eq] at hF
     cases hF
     obtain ⟨t1,t2⟩:=lc _ _ _ hps
     obtain ⟨ha1,ha2⟩:=ha (by omega)
     subst ha1
     obtain ⟨o,o1,o2⟩:=hR.obj _ _ hp
     rw[hid] at o1
     cases o1
     obtain ⟨cur,T,fz,k1,k2,k3,k4,k5⟩:=o2
     have hfz:=k2 rfl
     subst hfz
     cases hy with
     |fn _ _ cap' hcap=>
     cases hcap
     have hpl:ps.toArray.size=n:=by simpa using t2
     have hcl:off+n*2<=c.length:=by
      have e1:=congrArg List.length t1
      rw[jK,t2,List.length_take,List.length_drop] at e1
      omega
     have hrow:∀t,t<n*2->∃x,ps[t / 2]? =some x/\cur[p.o+off+t]? =some (.int .i64 (if t % 2=0 then x.1 else x.2)):=fun t ht=>by
      have e1:(dQ ps)[t]? =c[off+t]? :=by rw[←t1,List.getElem?_take,yf ht,List.getElem?_drop]
      have e2:c[off+t]? =some c[off+t]:=List.getElem?_eq_getElem (by omega)
      obtain ⟨x,x1,x2⟩:=jG ps t _ (e1.trans e2)
      obtain ⟨v',y1,y2,_⟩:=k5 _ _ e2
      rw[x2] at y2
      cases y2
      exact ⟨x,x1,by rw[←Nat.add_assoc] at y1;exact y1⟩
     have hH:HoldsK eV 2 w p.b (p.o+off) ps.toArray:=fun j hj=>by
      rw[size_flatK,hpl] at hj
      obtain ⟨x,x1,x2⟩:=hrow j hj
      refine ⟨?_, ?_⟩
      ·unfold World.cell?
       rw[k1]
       show cur[p.o+off+j]? =_
       rw[x2,jO ps.toArray j x (by simpa using x1)];rfl
      ·unfold World.frozen?
       rw[k1];simp
     have hc:=hC p.b (p.o+off) cap ps.toArray w hH (hR.lt _ _ hp) (by omega)
     rw[hpl] at hc
     refine hc.mono ?_
     rintro e w' ⟨rfl,d',m,os,hpm,hst,rfl⟩
     have hd:=ml c3 (by rw[hpl];exact hpm) (by rw[hpl];exact hst)
     have hds:d'.size=n:=hpm.1.trans hpl
     have hsl:(dS ps).length=n:=by rw[←hd];simpa using hds
     have hfl:(dQ (dS ps)).length=n*2:=by rw[jK,hsl]
     have hh1:∀b,(putRowK eV 2 (Go.Sort.ahead w m) p.b (p.o+off) d').heap[b]? =if p.b=b then (w.heap[b]?).map (onCells (putCells _root_.id (p.o+off) (flatK eV 2 d'))) else w.heap[b]? :=fun b=>by
      unfold putRowK Go.Sort.putRow mapBlock
      show ((w.heap.modify p.b _))[b]? =_
      rw[Array.getElem?_modify]
     have hput:∀j,(putCells _root_.id (p.o+off) (flatK eV 2 d') cur)[j]? =(cur[j]?).map fun x=>if p.o+off<=j/\j<p.o+off+n*2 then (flatK eV 2 d')[j - (p.o+off)]! else x:=fun j=>by
      unfold putCells
      rw[Array.getElem?_mapIdx,size_flatK,hds];rfl
     obtain ⟨q1,q2⟩:=hR.turn (w':=putRowK eV 2 (Go.Sort.ahead w m) p.b (p.o+off) d') hp (by rw[hid];simp) (.cells true (c.take off++(dQ (dS ps)++c.drop (off+n*2)))) (by
      refine ⟨putCells _root_.id (p.o+off) (flatK eV 2 d') cur,T,(0,0), ?_,fun _=>rfl, ?_, ?_,fun i v hi=> ?_⟩
      ·rw[hh1,yf rfl,k1];rfl
      ·rw[←k3];simp[putCells]
      ·simp only[List.length_append,List.length_take,List.length_drop,hfl];omega
      ·rw[hput]
       by_cases h1:i<off
       ·rw[List.getElem?_append_left (by rw[List.length_take];omega),List.getElem?_take,yf h1] at hi
        obtain ⟨v',y1,y2,y3⟩:=k5 _ _ hi
        exact ⟨v',by rw[y1,Option.map_some,ye (by omega)],y2,y3⟩
       ·rw[List.getElem?_append_right (by rw[List.length_take];omega),List.length_take,Nat.min_eq_left (by omega)] at hi
        by_cases h2:i<off+n*2
        ·rw[List.getElem?_append_left (by omega)] at hi
         obtain ⟨x,x1,rfl⟩:=jG _ _ _ hi
         obtain ⟨x0,_,z2⟩:=hrow (i - off) (by omega)
         rw[show p.o+off+(i - off)=p.o+i by omega] at z2
         refine ⟨.int .i64 (if (i - off) % 2=0 then x.1 else x.2), ?_,.int _ _,rfl⟩
         rw[z2,Option.map_some,yf (by omega),show p.o+i - (p.o+off)=i - off by omega,jO d' (i - off) x (by rw[hd];exact x1)]
        ·rw[List.getElem?_append_right (by omega),hfl,List.getElem?_drop] at hi
         rw[show off+n*2+(i - off - n*2)=i by omega] at hi
         obtain ⟨v',y1,y2,y3⟩:=k5 _ _ hi
         exact ⟨v',by rw[y1,Option.map_some,ye (by omega)],y2,y3⟩) (by unfold putRowK;rw[Go.Sort.size_putRow];rfl) rfl rfl rfl (fun b hb=>by rw[hh1,ye fun e=>hb e.symm])
     have hbl:=lB (putRowK eV 2 (Go.Sort.ahead w m) p.b (p.o+off) d') os
     exact ⟨ι,_,rfl,.tup _ [] .nil,q1.below hbl,Nat.le_trans hB (Nat.le_trans q2.size hbl.size),q2.trans (.below hbl)⟩
    ·cases hF
   ·cases hF
 ·cases hF
end
end Nm
namespace OD
open Go Nm Go.Proofs
open Nm.D4 (e)
open Nm.NC (reg regD)
open Nm.C
noncomputable def vK:NC:=(((reg [m e.a.a.c e.a.b 0,m e.a.a.f e 1,L e.a.b.a e.a.a.f 2,m e.a.b.b e.a 3,L e.a.b.c e.a.b.b 4,b e.a.b.f .add (t e.a.b.a) (t e.a.b.c) 5,b e.a.c.a .lss (t e.a.a.c) (t e.a.b.f) 6]).seq (NC.cond (t e.a.c.a) NC.skip (NC.exit 0))).seq ((NC.block 1 ((reg [o e.a.c.f (.build [.int .i64 (.lit 0),.int .i64 (.lit 0),.int .i64 (.lit 0),.int .u64 (.lit 0)] []) 0,o e.a.c (.alloc [.int .i64 (.lit 0),.int .i64 (.lit 0),.int .i64 (.lit 0),.int .u64 (.lit 0)] 26) 1,q (.store 4 (t e.a.c) (t e.a.c.f)) 2]).seq (((reg [m e.a.f.a e.a.b 0,m e.a.f.b e 1,L e.a.f.c e.a.f.b 2,b e.a.f.f .lss (t e.a.f.a) (t e.a.f.c) 3]).seq (NC.cond (t e.a.f.f) (reg [m e.b.a.a e 0,m e.b.a.b e.a.b 1,o e.b.a.c (.indexSlc 4 (t e.b.a.a) (t e.b.a.b)) 2,o e.b.a.f (.loadN 4 (t e.b.a.c)) 3,q (.store 4 (t e.a.c) (t e.b.a.f)) 4]) (reg [m e.b.b.a e.a 0,m e.b.b.b e.a.b 1,m e.b.b.c e 2,L e.b.b.f e.b.b.c 3,b e.b.c.a .sub (t e.b.b.b) (t e.b.b.f) 4,o e.b.c.b (.indexSlc 4 (t e.b.b.a) (t e.b.c.a)) 5,o e.b.c.c (.loadN 4 (t e.b.c.b)) 6,q (.store 4 (t e.a.c) (t e.b.c.c)) 7]))).seq ((reg [f 1 e.b.c.f e.a.c 0,l e.b.f.a e.b.c.f 1,b e.b.f.b .lss (t e.b.f.a) (k 0) 2,m e.b.f.c e.b.f.b 3,G e.b.f.f (.fieldAddr 1 (t e.a.c)) e.b.f.c false 4,G e.c.a.a (.load1 (t e.b.f.f)) e.b.f.c false 5,G e.c.a.b (.bin .num .gtr (t e.c.a.a) (k 63)) e.b.f.c false 6,o e.c.a.c (.pick (t e.b.f.c) kt (t e.c.a.b)) 7]).seq (NC.cond (t e.c.a.c) ((reg [o e.f (.move kt) 0]).seq NC.ret) NC.skip))))).seq (reg [m e.a.c.b e.a.b 0,b e.a.c.c .add (t e.a.c.b) (k 1) 1,m e.a.b e.a.c.c 2])))
noncomputable def xY:NFun:=⟨(reg [o e.f (.move kf) 0]).seq ((reg [o e.b.a (.call (F 6) []) 0,m e.a.a e.b.a 1]).seq (((reg [m e.b.b e.a.a 0,o e.b.c (.un .not (t e.b.b)) 1,m e.b.f e.b.c 2,G e.c.a (.move (t e)) e.b.f false 3,G e.c.b (.lenSlc (t e.c.a)) e.b.f false 4,G e.c.c (.bin .num .gtr (t e.c.b) (k 150)) e.b.f false 5,o e.c.f (.pick (t e.b.f) kt (t e.c.c)) 6,m e.f.a e.c.f 7,G e.f.b (.move (t e.a)) e.f.a false 8,G e.f.c (.lenSlc (t e.f.b)) e.f.a false 9,G e.f.f (.bin .num .gtr (t e.f.c) (k 150)) e.f.a false 10,o e.a.a.a (.pick (t e.f.a) kt (t e.f.f)) 11]).seq (NC.cond (t e.a.a.a) ((reg [m e.a.a.b e.a.a 0,m e.f e.a.a.b 1]).seq NC.ret) NC.skip)).seq (((reg [o e.a.b (.move (k 0)) 0]).seq (NC.block 0 vK.loop)).seq ((reg [m e.c.a.f e 0,o e.c.b.a (.append 4 32 26 kn (t e.c.a.f)) 1,o e.c.b.b (.build [.int .i64 (.lit 0),.int .i64 (.lit 0),.int .i64 (.lit 0),.int .u64 (.lit 0)] [(0,1,k 8)]) 2,o e.c.b.c (.buildSlice [.int .i64 (.lit 0),.int .i64 (.lit 0),.int .i64 (.lit 0),.int .u64 (.lit 0)] 4 1 26 [(0,4,t e.c.b.b)]) 3,o e.c.b.f (.append 4 32 26 (t e.c.b.a) (t e.c.b.c)) 4,m e.c.c.a e.a 5,o e.c.c.b (.append 4 32 26 (t e.c.b.f) (t e.c.c.a)) 6,o e.c.c.c (.call (F 7) [t e.c.c.b]) 7,m e.a.f e.c.c.c 8]).seq ((reg [m e.c.c.f e.a.f 0,m e.c.f.a e 1,o e.c.f.b (.call (F 7) [t e.c.f.a]) 2,o e.c.f.c (.buildSlice [.int .i64 (.lit 0)] 1 1 3 [(0,1,k (-1))]) 3,o e.c.f.f (.append 1 8 3 (t e.c.f.b) (t e.c.f.c)) 4,m e.f.a.a e.a 5,o e.f.a.b (.call (F 7) [t e.f.a.a]) 6,o e.f.a.c (.append 1 8 3 (t e.c.f.f) (t e.f.a.b)) 7,o e.f.a.f (.call (F 8) [t e.c.c.f,t e.f.a.c]) 8,m e.f e.f.a.f 9]).seq NC.ret))))),73, [.tmp e.f]⟩
theorem uL:an Try.prog 3=some (.code xY):=by kernel_rfl
noncomputable def xZ:NFun:=⟨(reg [o e.b (.move kf) 0]).seq ((reg [o e.c.c (.call (F 6) []) 0,m e.c e.c.c 1]).seq ((reg [o e.c.f (.build [.int .i64 (.lit 0),.int .i64 (.lit 0),.int .i64 (.lit 0),.int .u64 (.lit 0)] [(0,1,k 1),(2,1,k 4096)]) 0,o e.f (.alloc [.int .i64 (.lit 0),.int .i64 (.lit 0),.int .i64 (.lit 0),.int .u64 (.lit 0)] 26) 1,q (.store 4 (t e.f) (t e.c.f)) 2]).seq ((reg [o e.f.a (.build [.int .i64 (.lit 0),.int .i64 (.lit 0),.int .i64 (.lit 0),.int .u64 (.lit 0)] [(0,1,k 2),(2,1,k 4096)]) 0,o e.a.a (.alloc [.int .i64 (.lit 0),.int .i64 (.lit 0),.int .i64 (.lit 0),.int .u64 (.lit 0)] 26) 1,q (.store 4 (t e.a.a) (t e.f.a)) 2]).seq ((reg [o e.f.b (.build [.int .i64 (.lit 0),.int .i64 (.lit 0),.int .i64 (.lit 0),.int .u64 (.lit 0)] [(0,1,k 3),(2,1,k 4096)]) 0,o e.a.b (.alloc [.int .i64 (.lit 0),.int .i64 (.lit 0),.int .i64 (.lit 0),.int .u64 (.lit 0)] 26) 1,q (.store 4 (t e.a.b) (t e.f.b)) 2]).seq ((reg [o e.f.c (.build [.int .i64 (.lit 0),.int .i64 (.lit 0),.int .i64 (.lit 0),.int .u64 (.lit 0)] [(0,1,k 6)]) 0,o e.a.c (.alloc [.int .i64 (.lit 0),.int .i64 (.lit 0),.int .i64 (.lit 0),.int .u64 (.lit 0)] 26) 1,q (.store 4 (t e.a.c) (t e.f.c)) 2]).seq ((reg [o e.f.f (.build [.int .i64 (.lit 0),.int .i64 (.lit 0),.int .i64 (.lit 0),.int .u64 (.lit 0)] [(0,1,k 7)]) 0,o e.a.f (.alloc [.int .i64 (.lit 0),.int .i64 (.lit 0),.int .i64 (.lit 0),.int .u64 (.lit 0)] 26) 1,q (.store 4 (t e.a.f) (t e.f.f)) 2]).seq ((reg [o e.a.a.a (.build [.int .i64 (.lit 0),.int .i64 (.lit 0),.int .i64 (.lit 0),.int .u64 (.lit 0)] [(0,1,k 8)]) 0,o e.b.a (.alloc [.int .i64 (.lit 0),.int .i64 (.lit 0),.int .i64 (.lit 0),.int .u64 (.lit 0)] 26) 1,q (.store 4 (t e.b.a) (t e.a.a.a)) 2]).seq ((reg [o e.a.a.b (.build [.int .i64 (.lit 0),.int .i64 (.lit 0),.int .i64 (.lit 0),.int .u64 (.lit 0)] [(0,1,k 4),(1,1,k 1)]) 0,o e.b.b (.alloc [.int .i64 (.lit 0),.int .i64 (.lit 0),.int .i64 (.lit 0),.int .u64 (.lit 0)] 26) 1,q (.store 4 (t e.b.b) (t e.a.a.b)) 2]).seq ((reg [o e.a.a.c (.build [.int .i64 (.lit 0),.int .i64 (.lit 0),.int .i64 (.lit 0),.int .u64 (.lit 0)] [(0,1,k 10)]) 0,o e.b.c (.alloc [.int .i64 (.lit 0),.int .i64 (.lit 0),.int .i64 (.lit 0),.int .u64 (.lit 0)] 26) 1,q (.store 4 (t e.b.c) (t e.a.a.c)) 2]).seq ((reg [o e.a.a.f (.build [.int .i64 (.lit 0),.int .i64 (.lit 0),.int .i64 (.lit 0),.int .u64 (.lit 0)] [(0,1,k 7),(2,1,k 1)]) 0,o e.b.f (.alloc [.int .i64 (.lit 0),.int .i64 (.lit 0),.int .i64 (.lit 0),.int .u64 (.lit 0)] 26) 1,q (.store 4 (t e.b.f) (t e.a.a.f)) 2]).seq ((reg [o e.a.b.a (.loadN 4 (t e.f)) 0,o e.a.b.b (.buildSlice [.int .i64 (.lit 0),.int .i64 (.lit 0),.int .i64 (.lit 0),.int .u64 (.lit 0)] 4 1 26 [(0,4,t e.a.b.a)]) 1,o e.a.b.c (.loadN 4 (t e.f)) 2,o e.a.b.f (.loadN 4 (t e.a.c)) 3,o e.a.c.a (.buildSlice [.int .i64 (.lit 0),.int .i64 (.lit 0),.int .i64 (.lit 0),.int .u64 (.lit 0),.int .i64 (.lit 0),.int .i64 (.lit 0),.int .i64 (.lit 0),.int .u64 (.lit 0)] 4 2 26 [(0,4,t e.a.b.c),(4,4,t e.a.b.f)]) 4,o e.a.c.b (.loadN 4 (t e.f)) 5,o e.a.c.c (.loadN 4 (t e.f)) 6,o e.a.c.f (.loadN 4 (t e.a.c)) 7,o e.a.f.a (.buildSlice [.int .i64 (.lit 0),.int .i64 (.lit 0),.int .i64 (.lit 0),.int .u64 (.lit 0),.int .i64 (.lit 0),.int .i64 (.lit 0),.int .i64 (.lit 0),.int .u64 (.lit 0),.int .i64 (.lit 0),.int .i64 (.lit 0),.int .i64 (.lit 0),.int .u64 (.lit 0)] 4 3 26 [(0,4,t e.a.c.b),(4,4,t e.a.c.c),(8,4,t e.a.c.f)]) 8,o e.a.f.b (.loadN 4 (t e.a.b)) 9,o e.a.f.c (.buildSlice [.int .i64 (.lit 0),.int .i64 (.lit 0),.int .i64 (.lit 0),.int .u64 (.lit 0)] 4 1 26 [(0,4,t e.a.f.b)]) 10,o e.a.f.f (.loadN 4 (t e.a.b)) 11,o e.b.a.a (.loadN 4 (t e.a.f)) 12,o e.b.a.b (.buildSlice [.int .i64 (.lit 0),.int .i64 (.lit 0),.int .i64 (.lit 0),.int .u64 (.lit 0),.int .i64 (.lit 0),.int .i64 (.lit 0),.int .i64 (.lit 0),.int .u64 (.lit 0)] 4 2 26 [(0,4,t e.a.f.f),(4,4,t e.b.a.a)]) 13,o e.b.a.c (.loadN 4 (t e.a.f)) 14,o e.b.a.f (.loadN 4 (t e.a.b)) 15,o e.b.b.a (.buildSlice [.int .i64 (.lit 0),.int .i64 (.lit 0),.int .i64 (.lit 0),.int .u64 (.lit 0),.int .i64 (.lit 0),.int .i64 (.lit 0),.int .i64 (.lit 0),.int .u64 (.lit 0)] 4 2 26 [(0,4,t e.b.a.c),(4,4,t e.b.a.f)]) 16,o e.b.b.b (.loadN 4 (t e.a.b)) 17,o e.b.b.c (.loadN 4 (t e.b.f)) 18,o e.b.b.f (.buildSlice [.int .i64 (.lit 0),.int .i64 (.lit 0),.int .i64 (.lit 0),.int .u64 (.lit 0),.int .i64 (.lit 0),.int .i64 (.lit 0),.int .i64 (.lit 0),.int .u64 (.lit 0)] 4 2 26 [(0,4,t e.b.b.b),(4,4,t e.b.b.c)]) 19,o e.b.c.a (.loadN 4 (t e.a.b)) 20,o e.b.c.b (.loadN 4 (t e.a.f)) 21,o e.b.c.c (.loadN 4 (t e.b.a)) 22,o e.b.c.f (.buildSlice [.int .i64 (.lit 0),.int .i64 (.lit 0),.int .i64 (.lit 0),.int .u64 (.lit 0),.int .i64 (.lit 0),.int .i64 (.lit 0),.int .i64 (.lit 0),.int .u64 (.lit 0),.int .i64 (.lit 0),.int .i64 (.lit 0),.int .i64 (.lit 0),.int .u64 (.lit 0)] 4 3 26 [(0,4,t e.b.c.a),(4,4,t e.b.c.b),(8,4,t e.b.c.c)]) 23,o e.b.f.a (.loadN 4 (t e.a.b)) 24,o e.b.f.b (.loadN 4 (t e.b.a)) 25,o e.b.f.c (.loadN 4 (t e.a.f)) 26,o e.b.f.f (.buildSlice [.int .i64 (.lit 0),.int .i64 (.lit 0),.int .i64 (.lit 0),.int .u64 (.lit 0),.int .i64 (.lit 0),.int .i64 (.lit 0),.int .i64 (.lit 0),.int .u64 (.lit 0),.int .i64 (.lit 0),.int .i64 (.lit 0),.int .i64 (.lit 0),.int .u64 (.lit 0)] 4 3 26 [(0,4,t e.b.f.a),(4,4,t e.b.f.b),(8,4,t e.b.f.c)]) 27,o e.c.a.a (.loadN 4 (t e.a.a)) 28,o e.c.a.b (.loadN 4 (t e.a.b)) 29,o e.c.a.c (.loadN 4 (t e.a.c)) 30,o e.c.a.f (.buildSlice [.int .i64 (.lit 0),.int .i64 (.lit 0),.int .i64 (.lit 0),.int .u64 (.lit 0),.int .i64 (.lit 0),.int .i64 (.lit 0),.int .i64 (.lit 0),.int .u64 (.lit 0),.int .i64 (.lit 0),.int .i64 (.lit 0),.int .i64 (.lit 0),.int .u64 (.lit 0)] 4 3 26 [(0,4,t e.c.a.a),(4,4,t e.c.a.b),(8,4,t e.c.a.c)]) 31,o e.c.b.a (.loadN 4 (t e.a.a)) 32,o e.c.b.b (.loadN 4 (t e.a.a)) 33,o e.c.b.c (.loadN 4 (t e.a.c)) 34,o e.c.b.f (.buildSlice [.int .i64 (.lit 0),.int .i64 (.lit 0),.int .i64 (.lit 0),.int .u64 (.lit 0),.int .i64 (.lit 0),.int .i64 (.lit 0),.int .i64 (.lit 0),.int .u64 (.lit 0),.int .i64 (.lit 0),.int .i64 (.lit 0),.int .i64 (.lit 0),.int .u64 (.lit 0)] 4 3 26 [(0,4,t e.c.b.a),(4,4,t e.c.b.b),(8,4,t e.c.b.c)]) 35,o e.c.c.a (.loadN 4 (t e.a.a)) 36,o e.c.c.b (.loadN 4 (t e.a.c)) 37,o e.c.c.c (.loadN 4 (t e.a.a)) 38,o e.c.c.f (.loadN 4 (t e.a.c)) 39,o e.c.f.a (.buildSlice [.int .i64 (.lit 0),.int .i64 (.lit 0),.int .i64 (.lit 0),.int .u64 (.lit 0),.int .i64 (.lit 0),.int .i64 (.lit 0),.int .i64 (.lit 0),.int .u64 (.lit 0),.int .i64 (.lit 0),.int .i64 (.lit 0),.int .i64 (.lit 0),.int .u64 (.lit 0),.int .i64 (.lit 0),.int .i64 (.lit 0),.int .i64 (.lit 0),.int .u64 (.lit 0)] 4 4 26 [(0,4,t e.c.c.a),(4,4,t e.c.c.b),(8,4,t e.c.c.c),(12,4,t e.c.c.f)]) 40,o e.c.f.b (.loadN 4 (t e.f)) 41,o e.c.f.c (.loadN 4 (t e.a.b)) 42,o e.c.f.f (.loadN 4 (t e.a.c)) 43,o e.f.a.a (.buildSlice [.int .i64 (.lit 0),.int .i64 (.lit 0),.int .i64 (.lit 0),.int .u64 (.lit 0),.int .i64 (.lit 0),.int .i64 (.lit 0),.int .i64 (.lit 0),.int .u64 (.lit 0),.int .i64 (.lit 0),.int .i64 (.lit 0),.int .i64 (.lit 0),.int .u64 (.lit 0)] 4 3 26 [(0,4,t e.c.f.b),(4,4,t e.c.f.c),(8,4,t e.c.f.f)]) 44,o e.f.a.b (.loadN 4 (t e.a.a)) 45,o e.f.a.c (.loadN 4 (t e.a.b)) 46,o e.f.a.f (.loadN 4 (t e.a.b)) 47,o e.f.b.a (.loadN 4 (t e.a.c)) 48,o e.f.b.b (.buildSlice [.int .i64 (.lit 0),.int .i64 (.lit 0),.int .i64 (.lit 0),.int .u64 (.lit 0),.int .i64 (.lit 0),.int .i64 (.lit 0),.int .i64 (.lit 0),.int .u64 (.lit 0),.int .i64 (.lit 0),.int .i64 (.lit 0),.int .i64 (.lit 0),.int .u64 (.lit 0),.int .i64 (.lit 0),.int .i64 (.lit 0),.int .i64 (.lit 0),.int .u64 (.lit 0)] 4 4 26 [(0,4,t e.f.a.b),(4,4,t e.f.a.c),(8,4,t e.f.a.f),(12,4,t e.f.b.a)]) 49,o e.f.b.c (.loadN 4 (t e.a.b)) 50,o e.f.b.f (.loadN 4 (t e.b.b)) 51,o e.f.c.a (.loadN 4 (t e.a.c)) 52,o e.f.c.b (.buildSlice [.int .i64 (.lit 0),.int .i64 (.lit 0),.int .i64 (.lit 0),.int .u64 (.lit 0),.int .i64 (.lit 0),.int .i64 (.lit 0),.int .i64 (.lit 0),.int .u64 (.lit 0),.int .i64 (.lit 0),.int .i64 (.lit 0),.int .i64 (.lit 0),.int .u64 (.lit 0)] 4 3 26 [(0,4,t e.f.b.c),(4,4,t e.f.b.f),(8,4,t e.f.c.a)]) 53,o e.f.c.c (.loadN 4 (t e.b.b)) 54,o e.f.c.f (.loadN 4 (t e.a.b)) 55,o e.f.f.a (.loadN 4 (t e.a.f)) 56,o e.f.f.b (.buildSlice [.int .i64 (.lit 0),.int .i64 (.lit 0),.int .i64 (.lit 0),.int .u64 (.lit 0),.int .i64 (.lit 0),.int .i64 (.lit 0),.int .i64 (.lit 0),.int .u64 (.lit 0),.int .i64 (.lit 0),.int .i64 (.lit 0),.int .i64 (.lit 0),.int .u64 (.lit 0)] 4 3 26 [(0,4,t e.f.c.c),(4,4,t e.f.c.f),(8,4,t e.f.f.a)]) 57,o e.f.f.c (.loadN 4 (t e.a.b)) 58,o e.f.f.f (.loadN 4 (t e.b.c)) 59,o e.a.a.a.a (.buildSlice [.int .i64 (.lit 0),.int .i64 (.lit 0),.int .i64 (.lit 0),.int .u64 (.lit 0),.int .i64 (.lit 0),.int .i64 (.lit 0),.int .i64 (.lit 0),.int .u64 (.lit 0)] 4 2 26 [(0,4,t e.f.f.c),(4,4,t e.f.f.f)]) 60,o e.a.a.a.b (.loadN 4 (t e.a.a)) 61,o e.a.a.a.c (.loadN 4 (t e.b.b)) 62,o e.a.a.a.f (.loadN 4 (t e.a.b)) 63,o e.a.a.b.a (.loadN 4 (t e.a.f)) 64,o e.a.a.b.b (.buildSlice [.int .i64 (.lit 0),.int .i64 (.lit 0),.int .i64 (.lit 0),.int .u64 (.lit 0),.int .i64 (.lit 0),.int .i64 (.lit 0),.int .i64 (.lit 0),.int .u64 (.lit 0),.int .i64 (.lit 0),.int .i64 (.lit 0),.int .i64 (.lit 0),.int .u64 (.lit 0),.int .i64 (.lit 0),.int .i64 (.lit 0),.int .i64 (.lit 0),.int .u64 (.lit 0)] 4 4 26 [(0,4,t e.a.a.a.b),(4,4,t e.a.a.a.c),(8,4,t e.a.a.a.f),(12,4,t e.a.a.b.a)]) 65,o e.a.a.b.c (.loadN 4 (t e.f)) 66,o e.a.a.b.f (.build [.int .i64 (.lit 0),.int .i64 (.lit 0),.int .i64 (.lit 0),.int .u64 (.lit 0)] [(0,1,k 9)]) 67,o e.a.a.c.a (.buildSlice [.int .i64 (.lit 0),.int .i64 (.lit 0),.int .i64 (.lit 0),.int .u64 (.lit 0),.int .i64 (.lit 0),.int .i64 (.lit 0),.int .i64 (.lit 0),.int .u64 (.lit 0)] 4 2 26 [(0,4,t e.a.a.b.c),(4,4,t e.a.a.b.f)]) 68,o e.a.a.c.b (.loadN 4 (t e.a.a)) 69,o e.a.a.c.c (.loadN 4 (t e.f)) 70,o e.a.a.c.f (.loadN 4 (t e.a.c)) 71,o e.a.a.f.a (.buildSlice [.int .i64 (.lit 0),.int .i64 (.lit 0),.int .i64 (.lit 0),.int .u64 (.lit 0),.int .i64 (.lit 0),.int .i64 (.lit 0),.int .i64 (.lit 0),.int .u64 (.lit 0),.int .i64 (.lit 0),.int .i64 (.lit 0),.int .i64 (.lit 0),.int .u64 (.lit 0)] 4 3 26 [(0,4,t e.a.a.c.b),(4,4,t e.a.a.c.c),(8,4,t e.a.a.c.f)]) 72,o e.a.a.f.b (.loadN 4 (t e.a.a)) 73,o e.a.a.f.c (.loadN 4 (t e.a.b)) 74,o e.a.a.f.f (.loadN 4 (t e.a.f)) 75,o e.a.b.a.a (.loadN 4 (t e.b.a)) 76,o e.a.b.a.b (.loadN 4 (t e.b.b)) 77,o e.a.b.a.c (.buildSlice [.int .i64 (.lit 0),.int .i64 (.lit 0),.int .i64 (.lit 0),.int .u64 (.lit 0),.int .i64 (.lit 0),.int .i64 (.lit 0),.int .i64 (.lit 0),.int .u64 (.lit 0),.int .i64 (.lit 0),.int .i64 (.lit 0),.int .i64 (.lit 0),.int .u64 (.lit 0),.int .i64 (.lit 0),.int .i64 (.lit 0),.int .i64 (.lit 0),.int .u64 (.lit 0),.int .i64 (.lit 0),.int .i64 (.lit 0),.int .i64 (.lit 0),.int .u64 (.lit 0)] 4 5 26 [(0,4,t e.a.a.f.b),(4,4,t e.a.a.f.c),(8,4,t e.a.a.f.f),(12,4,t e.a.b.a.a),(16,4,t e.a.b.a.b)]) 78,o e.a.b.a.f (.buildSlice [.nils,.nils,.nils,.nils,.nils,.nils,.nils,.nils,.nils,.nils,.nils,.nils,.nils,.nils,.nils,.nils,.nils,.nils,.nils,.nils,.nils] 1 21 22 [(0,1,t e.a.b.b),(1,1,t e.a.c.a),(2,1,t e.a.f.a),(3,1,t e.a.f.c),(4,1,t e.b.a.b),(5,1,t e.b.b.a),(6,1,t e.b.b.f),(7,1,t e.b.c.f),(8,1,t e.b.f.f),(9,1,t e.c.a.f),(10,1,t e.c.b.f),(11,1,t e.c.f.a),(12,1,t e.f.a.a),(13,1,t e.f.b.b),(14,1,t e.f.c.b),(15,1,t e.f.f.b),(16,1,t e.a.a.a.a),(17,1,t e.a.a.b.b),(18,1,t e.a.a.c.a),(19,1,t e.a.a.f.a),(20,1,t e.a.b.a.c)]) 79,m e.c.a e.a.b.a.f 80]).seq ((reg [o e.a.b.b.a (.buildSlice [.int .i64 (.lit 0)] 1 1 3 [(0,1,k 0)]) 0,o e.a.b.b.b (.buildSlice [.int .i64 (.lit 0),.int .i64 (.lit 0)] 1 2 3 [(0,1,k 0),(1,1,k 0)]) 1,o e.a.b.b.c (.buildSlice [.int .i64 (.lit 0)] 1 1 3 [(0,1,k 0)]) 2,o e.a.b.b.f (.buildSlice [.int .i64 (.lit 0),.int .i64 (.lit 0)] 1 2 3 [(0,1,k 0),(1,1,k (-1))]) 3,o e.a.b.c.a (.buildSlice [.int .i64 (.lit 0)] 1 1 3 [(0,1,k (-1))]) 4,o e.a.b.c.b (.buildSlice [.int .i64 (.lit 0)] 1 1 3 [(0,1,k 0)]) 5,o e.a.b.c.c (.buildSlice [.int .i64 (.lit 0)] 1 1 3 [(0,1,k 0)]) 6,o e.a.b.c.f (.buildSlice [.int .i64 (.lit 0),.int .i64 (.lit 0)] 1 2 3 [(0,1,k 0),(1,1,k 0)]) 7,o e.a.b.f.a (.buildSlice [.int .i64 (.lit 0),.int .i64 (.lit 0)] 1 2 3 [(0,1,k 0),(1,1,k 0)]) 8,o e.a.b.f.b (.buildSlice [.int .i64 (.lit 0),.int .i64 (.lit 0)] 1 2 3 [(0,1,k 0),(1,1,k 0)]) 9,o e.a.b.f.c (.buildSlice [.int .i64 (.lit 0),.int .i64 (.lit 0)] 1 2 3 [(0,1,k 0),(1,1,k 1)]) 10,o e.a.b.f.f (.buildSlice [.int .i64 (.lit 0),.int .i64 (.lit 0)] 1 2 3 [(0,1,k 1),(1,1,k 0)]) 11,o e.a.c.a.a (.buildSlice [.int .i64 (.lit 0)] 1 1 3 [(0,1,k 0)]) 12,o e.a.c.a.b (.buildSlice [.int .i64 (.lit 0),.int .i64 (.lit 0)] 1 2 3 [(0,1,k 1),(1,1,k 0)]) 13,o e.a.c.a.c (.buildSlice [.int .i64 (.lit 0)] 1 1 3 [(0,1,k 0)]) 14,o e.a.c.a.f (.buildSlice [.int .i64 (.lit 0),.int .i64 (.lit 0)] 1 2 3 [(0,1,k 0),(1,1,k 0)]) 15,o e.a.c.b.a (.buildSlice [.int .i64 (.lit 0),.int .i64 (.lit 0),.int .i64 (.lit 0)] 1 3 3 [(0,1,k 0),(1,1,k (-1)),(2,1,k 1)]) 16,o e.a.c.b.b (.buildSlice [.nils,.nils,.nils,.nils,.nils,.nils,.nils,.nils,.nils,.nils,.nils,.nils,.nils,.nils,.nils,.nils,.nils,.nils,.nils,.nils,.nils] 1 21 27 [(0,1,.const .nils),(1,1,t e.a.b.b.a),(2,1,t e.a.b.b.b),(3,1,.const .nils),(4,1,t e.a.b.b.c),(5,1,.const .nils),(6,1,.const .nils),(7,1,t e.a.b.b.f),(8,1,t e.a.b.c.a),(9,1,t e.a.b.c.b),(10,1,t e.a.b.c.c),(11,1,t e.a.b.c.f),(12,1,t e.a.b.f.a),(13,1,t e.a.b.f.b),(14,1,t e.a.b.f.c),(15,1,t e.a.b.f.f),(16,1,t e.a.c.a.a),(17,1,t e.a.c.a.b),(18,1,t e.a.c.a.c),(19,1,t e.a.c.a.f),(20,1,t e.a.c.b.a)]) 17,m e.c.b e.a.c.b.b 18]).seq (((reg [m e.a.c.b.c e.c 0,o e.a.c.b.f (.un .not (t e.a.c.b.c)) 1,m e.a.c.c.a e.a.c.b.f 2,G e.a.c.c.b (.move (t e)) e.a.c.c.a false 3,G e.a.c.c.c (.bin .num .lss (t e.a.c.c.b) (k 0)) e.a.c.c.a false 4,o e.a.c.c.f (.pick (t e.a.c.c.a) kt (t e.a.c.c.c)) 5,m e.a.c.f.a e.a.c.c.f 6,G e.a.c.f.b (.move (t e)) e.a.c.f.a false 7,G e.a.c.f.c (.move (t e.c.a)) e.a.c.f.a false 8,G e.a.c.f.f (.lenSlc (t e.a.c.f.c)) e.a.c.f.a false 9,G e.a.f.a.a (.bin .num .geq (t e.a.c.f.b) (t e.a.c.f.f)) e.a.c.f.a false 10,o e.a.f.a.b (.pick (t e.a.c.f.a) kt (t e.a.f.a.a)) 11]).seq (NC.cond (t e.a.f.a.b) ((reg [m e.a.f.a.c e.c 0,m e.b e.a.f.a.c 1]).seq NC.ret) NC.skip)).seq ((regD [m e.a.f.a.f e.c.a 0,m e.a.f.b.a e 1,O e.a.f.b.b (.indexSlc 1 (t e.a.f.a.f) (t e.a.f.b.a)) 3 2,O e.a.f.b.c (.load1 (t e.a.f.b.b)) 7 3,m e.a.f.c.a e.c.b 5,m e.a.f.c.b e 6,O e.a.f.c.c (.indexSlc 1 (t e.a.f.c.a) (t e.a.f.c.b)) 96 7,O e.a.f.c.f (.load1 (t e.a.f.c.c)) 224 8,O e.a.f.b.f (.call (F 7) [t e.a.f.b.c]) 15 4,O e.a.f.f.a (.call (F 8) [t e.a.f.b.f,t e.a.f.c.f]) 511 9,O e.b (.move (t e.a.f.f.a)) 1023 10]).seq NC.ret)))))))))))))),146, [.tmp e.b]⟩
theorem uI:an Try.prog 4=some (.code xZ):=by kernel_rfl
noncomputable def vL:NC:=(((reg [m e.f.a e.a.b 0,m e.f.b e 1,L e.f.c e.f.b 2,b e.f.f .lss (t e.f.a) (t e.f.c) 3]).seq (NC.cond (t e.f.f) NC.skip (NC.exit 0))).seq ((NC.block 1 ((reg [m e.a.a.c e 0,m e.a.a.f e.a.b 1,o e.a.b.a (.indexSlc 1 (t e.a.a.c) (t e.a.a.f)) 2,l e.a.b.b e.a.b.a 3,b e.a.b.c .and (t e.a.b.b) (k 3) 4,m e.a.c e.a.b.c 5]).seq ((reg [m e.a.b.f e.f 0,m e.a.c.a e.a.c 1,o e.a.c.b (.build [.int .i64 (.lit 0),.int .i64 (.lit 0),.int .i64 (.lit 0),.int .u64 (.lit 0)] [(0,1,k 4),(1,1,t e.a.c.a)]) 2,o e.a.c.c (.buildSlice [.int .i64 (.lit 0),.int .i64 (.lit 0),.int .i64 (.lit 0),.int .u64 (.lit 0)] 4 1 26 [(0,4,t e.a.c.b)]) 3,o e.a.c.f (.append 4 32 26 (t e.a.b.f) (t e.a.c.c)) 4,m e.f e.a.c.f 5]).seq (reg [m e.a.f.a e.a.a 0,m e.a.f.b e.a.c 1,o e.a.f.c (.buildSlice [.int .i64 (.lit 0)] 1 1 3 [(0,1,t e.a.f.b)]) 2,o e.a.f.f (.append 1 8 3 (t e.a.f.a) (t e.a.f.c)) 3,m e.a.a e.a.f.f 4])))).seq (reg [m e.a.a.a e.a.b 0,b e.a.a.b .add (t e.a.a.a) (k 1) 1,m e.a.b e.a.a.b 2])))
noncomputable def xR:NFun:=⟨(reg [o e.b (.move kf) 0]).seq ((reg [o e.a.f (.call (F 6) []) 0,m e.c e.a.f 1]).seq (((reg [m e.b.a e.c 0,o e.b.b (.un .not (t e.b.a)) 1,m e.b.c e.b.b 2,G e.b.f (.move (t e)) e.b.c false 3,G e.c.a (.lenSlc (t e.b.f)) e.b.c false 4,G e.c.b (.bin .num .gtr (t e.c.a) (k 200)) e.b.c false 5,o e.c.c (.pick (t e.b.c) kt (t e.c.b)) 6]).seq (NC.cond (t e.c.c) ((reg [m e.c.f e.c 0,m e.b e.c.f 1]).seq NC.ret) NC.skip)).seq ((reg [o e.f (.move kn) 0]).seq ((reg [o e.a.a (.move kn) 0]).seq (((reg [o e.a.b (.move (k 0)) 0]).seq (NC.block 0 vL.loop)).seq ((reg [m e.b.a.a e.f 0,o e.b.a.b (.call (F 7) [t e.b.a.a]) 1,m e.b.a.c e.a.a 2,o e.b.a.f (.call (F 8) [t e.b.a.b,t e.b.a.c]) 3,m e.b e.b.a.f 4]).seq NC.ret)))))),41, [.tmp e.b]⟩
theorem ve:an Try.prog 5=some (.code xR):=by kernel_rfl
noncomputable def xU:NFun:=⟨(reg [o e (.move kf) 0]).seq ((reg [o e.b (.build [.int .i64 (.lit 0),.int .i64 (.lit 0),.int .i64 (.lit 0),.int .u64 (.lit 0)] [(0,1,k 4),(1,1,k 2)]) 0,o e.c (.buildSlice [.int .i64 (.lit 0),.int .i64 (.lit 0),.int .i64 (.lit 0),.int .u64 (.lit 0)] 4 1 26 [(0,4,t e.b)]) 1,o e.f (.call (F 7) [t e.c]) 2,m e.a e.f 3]).seq ((reg [o e.a.a (.call (F 7) [.const .nils]) 0,L e.a.b e.a.a 1,b e.a.c .eql (t e.a.b) (k 0) 2,m e.a.f e.a.c 3,G e.b.a (.move (t e.a)) e.a.f true 4,G e.b.b (.lenSlc (t e.b.a)) e.a.f true 5,G e.b.c (.bin .num .eql (t e.b.b) (k 1)) e.a.f true 6,o e.b.f (.pick (t e.a.f) (t e.b.c) kf) 7,m e.c.a e.b.f 8,G e.c.b (.move (t e.a)) e.c.a true 9,G e.c.c (.indexSlc 1 (t e.c.b) (k 0)) e.c.a true 10,G e.c.f (.load1 (t e.c.c)) e.c.a true 11,G e.f.a (.bin .num .eql (t e.c.f) (k 2)) e.c.a true 12,o e.f.b (.pick (t e.c.a) (t e.f.a) kf) 13,m e e.f.b 14]).seq NC.ret)),19, [.tmp e]⟩
theorem uJ:an Try.prog 6=some (.code xU):=by kernel_rfl
noncomputable def vt:NC:=((reg [b e.b.c .lss (t e.b.b) (t e.b.a) 0]).seq ((NC.cond (t e.b.c) NC.skip (NC.exit 0)).seq ((NC.block 1 ((reg [m e.b.f e.b.b 0,o e.c.a (.indexSlc 4 (t e.a.f) (t e.b.b)) 1,o e.c.b (.loadN 4 (t e.c.a)) 2,o e.a.b (.alloc [.int .i64 (.lit 0),.int .i64 (.lit 0),.int .i64 (.lit 0),.int .u64 (.lit 0)] 26) 3,m e.a.a e.b.f 4,q (.store 4 (t e.a.b) (t e.c.b)) 5]).seq (((reg [f 0 e.c.c e.a.b 0,l e.c.f e.c.c 1,b e.f.a .neq (t e.c.f) (k 8) 2]).seq (NC.cond (t e.f.a) ((reg [m e.f.b e.f 0,m e.f.c e.a.a 1,o e.f.f (.loadN 4 (t e.a.b)) 2,o e.a.a.a (.call (F 10) [t e.f.b,t e.f.c,t e.f.f]) 3]).seq (NC.exit 1)) NC.skip)).seq ((reg [m e.a.a.b e.c 0,m e.a.a.c e.f 1,o e.a.a.f (.call (F 11) [t e.a.a.c]) 2,o e.a.b.a (.append 1 8 3 (t e.a.a.b) (t e.a.a.f)) 3,o e.a.b.b (.buildSlice [.int .i64 (.lit 0)] 1 1 3 [(0,1,k (-1))]) 4,o e.a.b.c (.append 1 8 3 (t e.a.b.a) (t e.a.b.b)) 5,m e.c e.a.b.c 6]).seq (reg [o e.a.b.f (.call (F 9) []) 0,m e.f e.a.b.f 1]))))).seq (reg [b e.a.c.a .add (t e.b.b) (k 1) 0,m e.b.b e.a.c.a 1]))))
noncomputable def xW:NFun:=⟨(reg [o e.b (.move kn) 0]).seq ((reg [o e.c (.move kn) 0]).seq ((reg [o e.a.c (.call (F 9) []) 0,m e.f e.a.c 1]).seq (((reg [m e.a.f e 0,L e.b.a e.a.f 1,o e.b.b (.move (k 0)) 2]).seq (NC.block 0 vt.loop)).seq ((reg [m e.a.c.b e.c 0,m e.a.c.c e.f 1,o e.a.c.f (.call (F 11) [t e.a.c.c]) 2,o e.a.f.a (.append 1 8 3 (t e.a.c.b) (t e.a.c.f)) 3,m e.b e.a.f.a 4]).seq NC.ret)))),34, [.tmp e.b]⟩
theorem vu:an Try.prog 7=some (.code xW):=by kernel_rfl
noncomputable def uU:NC:=(((reg [m e.b.c e.a.a 0,m e.b.f e 1,L e.c.a e.b.f 2,b e.c.b .lss (t e.b.c) (t e.c.a) 3]).seq (NC.cond (t e.c.b) NC.skip (NC.exit 0))).seq ((NC.block 1 ((regD [m e.f.a e 0,m e.f.b e.a.a 1,O e.f.c (.indexSlc 1 (t e.f.a) (t e.f.b)) 3 2,O e.f.f (.load1 (t e.f.c)) 7 3,m e.a.a.a e.a 4,m e.a.a.b e.a.a 5,O e.a.a.c (.indexSlc 1 (t e.a.a.a) (t e.a.a.b)) 48 6,O e.a.a.f (.load1 (t e.a.a.c)) 112 7,O e.a.b.a (.bin .num .neq (t e.f.f) (t e.a.a.f)) 255 8]).seq (NC.cond (t e.a.b.a) ((reg [o e.f (.move kf) 0]).seq NC.ret) NC.skip))).seq (reg [m e.c.c e.a.a 0,b e.c.f .add (t e.c.c) (k 1) 1,m e.a.a e.c.f 2])))
noncomputable def xT:NFun:=⟨(reg [o e.f (.move kf) 0]).seq (((reg [m e.a.b e 0,L e.a.c e.a.b 1,m e.a.f e.a 2,L e.b.a e.a.f 3,b e.b.b .neq (t e.a.c) (t e.b.a) 4]).seq (NC.cond (t e.b.b) ((reg [o e.f (.move kf) 0]).seq NC.ret) NC.skip)).seq (((reg [o e.a.a (.move (k 0)) 0]).seq (NC.block 0 uU.loop)).seq ((reg [o e.f (.move kt) 0]).seq NC.ret))),26, [.tmp e.f]⟩
theorem vd:an Try.prog 8=some (.code xT):=by kernel_rfl
noncomputable def xV:NFun:=⟨(reg [o e (.move (.const .nilp)) 0]).seq ((reg [o e.a (.mkMap) 0,o e.b (.mkMap) 1,o e.c (.build [.nilm,.nils,.nilm] [(0,1,t e.a),(2,1,t e.b)]) 2,o e.f (.box (t e.c) 43) 3,m e e.f 4]).seq NC.ret),5, [.tmp e]⟩
theorem vG:an Try.prog 9=some (.code xV):=by kernel_rfl
noncomputable def sZ:NC:=(reg [m e.a.b e.b.c.c 0])
noncomputable def tM:NC:=(NC.block 2 (reg [l e.b.c.f e.c 0,m e.b.f.a e.a.b 1,o e.b.f.b (.call (F 13) [t e.b.c.f,t e.b.f.a]) 2]))
noncomputable def wq:NFun:=⟨(reg [o e.c (.box (t e) 35) 0,o e.a.a (.box (t e.b) 26) 1]).seq ((reg [f 0 e.a.c e.a.a 0,l e.a.f e.a.c 1]).seq (NC.block 0 (((reg [b e.b.b .eql (t e.a.f) (k 1) 0,m e.b.a e.b.b 1]).seq (NC.cond (t e.b.a) NC.skip ((reg [b e.b.c .eql (t e.a.f) (k 2) 0,m e.b.a e.b.c 1]).seq (NC.cond (t e.b.a) NC.skip (reg [b e.b.f .eql (t e.a.f) (k 3) 0,m e.b.a e.b.f 1]))))).seq (NC.cond (t e.b.a) (reg [l e.c.a e.c 0,m e.c.b e.a 1,o e.c.c (.loadN 4 (t e.a.a)) 2,o e.c.f (.call (F 12) [t e.c.a,t e.c.b,t e.c.c]) 3]) ((reg [b e.f.b .eql (t e.a.f) (k 4) 0,m e.f.a e.f.b 1]).seq (NC.cond (t e.f.a) ((reg [l e.f.c e.c 0,f 1 e.f.f e.a.a 1,l e.a.a.a e.f.f 2,o e.a.a.b (.call (F 13) [t e.f.c,t e.a.a.a]) 3]).seq (regD [l e.a.a.c e.c 0,l e.a.a.f e.c 1,O e.a.b.a (.nilCheck (t e.a.a.f)) 2 2,O e.a.b.b (.fieldAddr 1 (t e.a.b.a)) 6 3,O e.a.b.c (.load1 (t e.a.b.b)) 14 4,m e.a.b.f e.a 5,f 1 e.a.c.a e.a.a 6,O e.a.c.b (.load1 (t e.a.c.a)) 64 7,O e.a.c.c (.build [.int .i64 (.lit 0),.int .i64 (.lit 0)] [(0,1,t e.a.b.f),(1,1,t e.a.c.b)]) 224 8,O e.a.c.f (.buildSlice [.int .i64 (.lit 0),.int .i64 (.lit 0)] 2 1 46 [(0,2,t e.a.c.c)]) 480 9,O e.a.f.a (.append 2 16 46 (t e.a.b.c) (t e.a.c.f)) 1022 10,O e.a.f.b (.nilCheck (t e.a.a.c)) 2047 11,O e.a.f.c (.fieldAddr 1 (t e.a.f.b)) 4095 12,⟨none,.store 1 (t e.a.f.c) (t e.a.f.a),none,8191,13⟩])) (((reg [b e.b.a.a .eql (t e.a.f) (k 6) 0,m e.a.f.f e.b.a.a 1]).seq (NC.cond (t e.a.f.f) NC.skip (reg [b e.b.a.b .eql (t e.a.f) (k 10) 0,m e.a.f.f e.b.a.b 1]))).seq (NC.cond (t e.a.f.f) (reg [l e.b.a.c e.c 0,f 1 e.b.a.f e.a.a 1,l e.b.b.a e.b.a.f 2,o e.b.b.b (.call (F 13) [t e.b.a.c,t e.b.b.a]) 3]) ((reg [b e.b.b.f .eql (t e.a.f) (k 9) 0,m e.b.b.c e.b.b.f 1]).seq (NC.cond (t e.b.b.c) ((reg [l e.b.c.a e.c 0,o e.b.c.b (.call (F 14) [t e.b.c.a]) 1]).seq (NC.block 1 (NC.rangeFunc (t e.b.c.b) [e.b.c.c] sZ tM))) ((reg [b e.b.f.f .eql (t e.a.f) (k 7) 0,m e.b.f.c e.b.f.f 1]).seq (NC.cond (t e.b.f.c) (regD [l e.c.a.a e.c 0,O e.c.a.b (.nilCheck (t e.c.a.a)) 1 1,O e.c.a.c (.fieldAddr 2 (t e.c.a.b)) 3 2,O e.c.a.f (.load1 (t e.c.a.c)) 7 3,f 2 e.c.b.a e.a.a 4,O e.c.b.b (.load1 (t e.c.b.a)) 16 5,m e.c.b.c e.a 6,O e.c.b.f (.bin .num .add (t e.c.b.c) (k 1)) 64 7,⟨none,.mapUpdate false (t e.c.a.f) (t e.c.b.b) (t e.c.b.f),none,255,8⟩]) NC.skip)))))))))))),61, []⟩
theorem uu:an Try.prog 10=some (.code wq):=by kernel_rfl
noncomputable def tQ:NC:=(reg [m e.c e.b.a 0])
noncomputable def tv:NC:=(NC.block 1 ((regD [l e.b.b e.a 0,l e.b.c e.a 1,O e.b.f (.nilCheck (t e.b.c)) 2 2,O e.c.a (.fieldAddr 0 (t e.b.f)) 6 3,O e.c.b (.load1 (t e.c.a)) 14 4,m e.c.c e.c 5,O e.c.f (.lookup false (.agg [.int .i64 (.lit 0),.int .i64 (.lit 0),.int .i64 (.lit 0),.int .u64 (.lit 0),.int .i64 (.lit 0),.bool false]) false (t e.c.b) (t e.c.c)) 62 6,O e.f.a (.call (F 15) [t e.b.b,t e.c.f]) 127 7]).seq (NC.cond (t e.f.a) (reg [l e.f.b e.a 0,m e.f.c e.c 1,o e.f.f (.call (F 13) [t e.f.b,t e.f.c]) 2]) NC.skip)))
noncomputable def sx:NC:=((reg [b e.a.c.f .lss (t e.a.c.c) (t e.a.c.b) 0]).seq ((NC.cond (t e.a.c.f) NC.skip (NC.exit 2)).seq ((NC.block 3 ((reg [o e.a.f.a (.indexSlc 2 (t e.a.c.a) (t e.a.c.c)) 0,o e.a.f.b (.loadN 2 (t e.a.f.a)) 1,o e.a.b (.alloc [.int .i64 (.lit 0),.int .i64 (.lit 0)] 46) 2,q (.store 2 (t e.a.b) (t e.a.f.b)) 3]).seq (reg [m e.a.f.c e.f 0,f 1 e.a.f.f e.a.b 1,l e.b.a.a e.a.f.f 2,o e.b.a.b (.buildSlice [.int .i64 (.lit 0)] 1 1 3 [(0,1,t e.b.a.a)]) 3,o e.b.a.c (.append 1 8 3 (t e.a.f.c) (t e.b.a.b)) 4,m e.f e.b.a.c 5]))).seq (reg [b e.b.a.f .add (t e.a.c.c) (k 1) 0,m e.a.c.c e.b.a.f 1]))))
noncomputable def wO:NFun:=⟨(reg [o e.a (.box (t e) 35) 0,o e.b (.move kn) 1]).seq (((reg [l e.a.c e.a 0,o e.a.f (.call (F 14) [t e.a.c]) 1]).seq (NC.block 0 (NC.rangeFunc (t e.a.f) [e.b.a] tQ tv))).seq ((reg [l e.a.a.a e.a 0,n e.a.a.b e.a.a.a 1,f 1 e.a.a.c e.a.a.b 2,l e.a.a.f e.a.a.c 3,o e.a.b.a (.call (F 16) [t e.a.a.f,.const (.fn 17 [])]) 4]).seq ((reg [o e.f (.move kn) 0]).seq (((reg [l e.a.b.b e.a 0,n e.a.b.c e.a.b.b 1,f 1 e.a.b.f e.a.b.c 2,l e.a.c.a e.a.b.f 3,L e.a.c.b e.a.c.a 4,o e.a.c.c (.move (k 0)) 5]).seq (NC.block 2 sx.loop)).seq ((reg [m e.b.b.a e.f 0,m e.b e.b.b.a 1]).seq NC.ret))))),42, [.tmp e.b]⟩
theorem uk:an Try.prog 11=some (.code wO):=by kernel_rfl
noncomputable def wl:NFun:=⟨(reg [o e.a.a (.box (t e.b) 26) 0]).seq (((reg [m e.a.b e 0,o e.a.c (.loadN 4 (t e.a.a)) 1,o e.a.f (.call (F 19) [t e.a.b,t e.a.c]) 2,o e.b.a (.un .not (t e.a.f)) 3]).seq (NC.cond (t e.b.a) (reg [m e.b.b e 0,f 1 e.b.c e.a.a 1,l e.b.f e.b.c 2,o e.c.a (.call (F 13) [t e.b.b,t e.b.f]) 3]) NC.skip)).seq (regD [m e.c.b e 0,O e.c.c (.nilCheck (t e.c.b)) 1 1,O e.c.f (.fieldAddr 0 (t e.c.c)) 3 2,O e.f.a (.load1 (t e.c.f)) 7 3,f 1 e.f.b e.a.a 4,O e.f.c (.load1 (t e.f.b)) 16 5,o e.f.f (.loadN 4 (t e.a.a)) 6,m e.a.a.a e.a 7,f 0 e.a.a.b e.a.a 8,O e.a.a.c (.load1 (t e.a.a.b)) 256 9,O e.a.a.f (.bin .num .eql (t e.a.a.c) (k 2)) 768 10,O e.a.b.a (.build [.int .i64 (.lit 0),.int .i64 (.lit 0),.int .i64 (.lit 0),.int .u64 (.lit 0),.int .i64 (.lit 0),.bool false] [(0,4,t e.f.f),(4,1,t e.a.a.a),(5,1,t e.a.a.f)]) 1984 11,⟨none,.mapUpdate false (t e.f.a) (t e.f.c) (t e.a.b.a),none,4095,12⟩])),26, []⟩
theorem tA:an Try.prog 12=some (.code wl):=by kernel_rfl
noncomputable def wD:NFun:=⟨(reg [m e.a.c e 0,n e.a.f e.a.c 1,f 0 e.b.a e.a.f 2,l e.b.b e.b.a 3,m e.b.c e.a 4,o e.b.f (.lookup false (.agg [.int .i64 (.lit 0),.int .i64 (.lit 0),.int .i64 (.lit 0),.int .u64 (.lit 0),.int .i64 (.lit 0),.bool false]) true (t e.b.b) (t e.b.c)) 5,m e.a.b e.b.f 6,x e.c.a e.a.b 0 7,x e.c.b e.a.b 1 8,o e.f (.alloc [.int .i64 (.lit 0),.int .i64 (.lit 0),.int .i64 (.lit 0),.int .u64 (.lit 0),.int .i64 (.lit 0),.bool false] 52) 9,q (.store 6 (t e.f) (t e.c.a)) 10,m e.a.a e.c.b 11]).seq ((reg [m e.c.c e.a.a 0]).seq (NC.cond (t e.c.c) ((regD [m e.c.f e 0,m e.f.a e 1,O e.f.b (.nilCheck (t e.f.a)) 2 2,O e.f.c (.fieldAddr 1 (t e.f.b)) 6 3,O e.f.f (.load1 (t e.f.c)) 14 4,f 4 e.a.a.a e.f 5,O e.a.a.b (.load1 (t e.a.a.a)) 32 6,m e.a.a.c e.a 7,O e.a.a.f (.build [.int .i64 (.lit 0),.int .i64 (.lit 0)] [(0,1,t e.a.a.b),(1,1,t e.a.a.c)]) 224 8,O e.a.b.a (.buildSlice [.int .i64 (.lit 0),.int .i64 (.lit 0)] 2 1 46 [(0,2,t e.a.a.f)]) 480 9,O e.a.b.b (.append 2 16 46 (t e.f.f) (t e.a.b.a)) 1022 10,O e.a.b.c (.nilCheck (t e.c.f)) 2047 11,O e.a.b.f (.fieldAddr 1 (t e.a.b.c)) 4095 12,⟨none,.store 1 (t e.a.b.f) (t e.a.b.b),none,8191,13⟩]).seq (reg [m e.a.c.a e 0,n e.a.c.b e.a.c.a 1,f 0 e.a.c.c e.a.c.b 2,l e.a.c.f e.a.c.c 3,m e.a.f.a e.a 4,q (.delete false (t e.a.c.f) (t e.a.f.a)) 5])) NC.skip)),34, []⟩
theorem tg:an Try.prog 13=some (.code wD):=by kernel_rfl
noncomputable def xk:NFun:=⟨(reg [o e.b (.move (.const .nilf)) 0]).seq ((reg [m e.c e 0,n e.f e.c 1,f 0 e.a.a e.f 2,l e.a.b e.a.a 3,o e.a.c (.call (F 22) [t e.a.b]) 4,o e.a.f (.call (F 21) [t e.a.c]) 5,o e.b.a (.call (F 20) [t e.a.f]) 6,m e.b e.b.a 7]).seq NC.ret),10, [.tmp e.b]⟩
theorem sa:an Try.prog 14=some (.code xk):=by kernel_rfl
noncomputable def xl:NFun:=⟨(reg [o e.c (.box (t e.a) 52) 0,o e.f (.move kf) 1]).seq ((regD [f 0 e.a.a e.c 0,O e.a.b (.fieldAddr 0 (t e.a.a)) 1 1,O e.a.c (.load1 (t e.a.b)) 3 2,O e.a.f (.bin .num .eql (t e.a.c) (k 3)) 7 3,O e.b.a (.move (t e.a.f)) 15 4,⟨some e.b.b,.move (t e),some (e.b.a,true),31,5⟩,⟨some e.b.c,.nilCheck (t e.b.b),some (e.b.a,true),63,6⟩,⟨some e.b.f,.fieldAddr 2 (t e.b.c),some (e.b.a,true),127,7⟩,⟨some e.c.a,.load1 (t e.b.f),some (e.b.a,true),255,8⟩,⟨some e.c.b,.fieldAddr 0 (t e.c),some (e.b.a,true),31,9⟩,⟨some e.c.c,.fieldAddr 2 (t e.c.b),some (e.b.a,true),543,10⟩,⟨some e.c.f,.load1 (t e.c.c),some (e.b.a,true),1567,11⟩,⟨some e.f.c,.fieldAddr 4 (t e.c),some (e.b.a,true),31,14⟩,⟨some e.f.f,.load1 (t e.f.c),some (e.b.a,true),16415,15⟩,⟨some e.f.a,.call (F 23) [t e.c.f],some (e.b.a,true),3615,12⟩,⟨some e.f.b,.lookup false (.int .i64 (.lit 0)) false (t e.c.a) (t e.f.a),some (e.b.a,true),8191,13⟩,⟨some e.a.a.a,.bin .num .gtr (t e.f.b) (t e.f.f),some (e.b.a,true),65535,16⟩,O e.a.a.b (.pick (t e.b.a) (t e.a.a.a) kf) 131071 17,O e.f (.move (t e.a.a.b)) 262143 18]).seq NC.ret),23, [.tmp e.f]⟩
theorem tk:an Try.prog 15=some (.code xl):=by kernel_rfl
noncomputable def xd:NFun:=⟨(reg [m e.a.a e 0,L e.a.b e.a.a 1,m e.f e.a.b 2]).seq (reg [m e.a.c e 0,m e.a.f e.f 1,m e.b.a e.f 2,o e.b.b (.toInt .u64 (t e.b.a)) 3,o e.b.c (.call (F 25) [t e.b.b]) 4,m e.b.f e.a 5,o e.c.a (.call (F 24) [t e.a.c,k 0,t e.a.f,t e.b.c,t e.b.f]) 6]),14, []⟩
theorem s0:an Try.prog 16=some (.code xd):=by kernel_rfl
noncomputable def xf:NFun:=⟨(reg [o e.b (.box (t e) 46) 0,o e.c (.box (t e.a) 46) 1,o e.f (.move (k 0)) 2]).seq ((reg [f 0 e.a.a e.b 0,l e.a.b e.a.a 1,f 0 e.a.c e.c 2,l e.a.f e.a.c 3,o e.b.a (.call (F 18) [t e.a.b,t e.a.f]) 4,m e.f e.b.a 5]).seq NC.ret),10, [.tmp e.f]⟩
theorem s5:an Try.prog 17=some (.code xf):=by kernel_rfl
noncomputable def wh:NFun:=⟨(reg [o e.f (.move (k 0)) 0]).seq ((reg [m e.a.c e 0,o e.a.f (.call (F 26) [t e.a.c]) 1,m e.a.a e.a.f 2]).seq ((reg [m e.b.a e.a 0,o e.b.b (.call (F 26) [t e.b.a]) 1,m e.a.b e.b.b 2]).seq (((reg [m e.b.c e.a.a 0]).seq (NC.cond (t e.b.c) (((reg [m e.b.f e.a.b 0]).seq (NC.cond (t e.b.f) ((reg [o e.f (.move (k 0)) 0]).seq NC.ret) NC.skip)).seq ((reg [o e.f (.move (k (-1))) 0]).seq NC.ret)) NC.skip)).seq (((reg [m e.c.a e.a.b 0]).seq (NC.cond (t e.c.a) ((reg [o e.f (.move (k 1)) 0]).seq NC.ret) NC.skip)).seq (((reg [m e.c.b e 0,m e.c.c e.a 1,b e.c.f .lss (t e.c.b) (t e.c.c) 2]).seq (NC.cond (t e.c.f) ((reg [o e.f (.move (k (-1))) 0]).seq NC.ret) NC.skip)).seq (((reg [m e.f.a e 0,m e.f.b e.a 1,b e.f.c .gtr (t e.f.a) (t e.f.b) 2]).seq (NC.cond (t e.f.c) ((reg [o e.f (.move (k 1)) 0]).seq NC.ret) NC.skip)).seq ((reg [o e.f (.move (k 0)) 0]).seq NC.ret))))))),20, [.tmp e.f]⟩
theorem sW:an Try.prog 18=some (.code wh):=by kernel_rfl
noncomputable def wU:NFun:=⟨(reg [o e.c (.box (t e.a) 26) 0,o e.f (.move kf) 1]).seq ((regD [m e.a.f e 0,O e.b.a (.nilCheck (t e.a.f)) 1 1,O e.b.b (.fieldAddr 0 (t e.b.a)) 3 2,O e.b.c (.load1 (t e.b.b)) 7 3,f 1 e.b.f e.c 4,O e.c.a (.load1 (t e.b.f)) 16 5,O e.c.b (.lookup false (.agg [.int .i64 (.lit 0),.int .i64 (.lit 0),.int .i64 (.lit 0),.int .u64 (.lit 0),.int .i64 (.lit 0),.bool false]) true (t e.b.c) (t e.c.a)) 63 6,O e.a.c (.move (t e.c.b)) 127 7,O e.c.c (.extract (t e.a.c) 0) 255 8,O e.c.f (.extract (t e.a.c) 1) 255 9,o e.a.a (.alloc [.int .i64 (.lit 0),.int .i64 (.lit 0),.int .i64 (.lit 0),.int .u64 (.lit 0),.int .i64 (.lit 0),.bool false] 52) 10,⟨none,.store 6 (t e.a.a) (t e.c.c),none,1535,11⟩,O e.a.b (.move (t e.c.f)) 4095 12]).seq ((reg [m e.f.a e.a.b 0,m e.f.b e.f.a 1,G e.f.c (.fieldAddr 5 (t e.a.a)) e.f.b true 2,G e.f.f (.load1 (t e.f.c)) e.f.b true 3,o e.a.a.a (.pick (t e.f.b) (t e.f.f) kf) 4,m e.a.a.b e.a.a.a 5,G e.a.a.c (.fieldAddr 0 (t e.a.a)) e.a.a.b true 6,G e.a.a.f (.fieldAddr 2 (t e.a.a.c)) e.a.a.b true 7,G e.a.b.a (.load1 (t e.a.a.f)) e.a.a.b true 8,G e.a.b.b (.fieldAddr 2 (t e.c)) e.a.a.b true 9,G e.a.b.c (.load1 (t e.a.b.b)) e.a.a.b true 10,G e.a.b.f (.bin .num .eql (t e.a.b.a) (t e.a.b.c)) e.a.a.b true 11,o e.a.c.a (.pick (t e.a.a.b) (t e.a.b.f) kf) 12,m e.a.c.b e.a.c.a 13,G e.a.c.c (.fieldAddr 0 (t e.c)) e.a.c.b true 14,G e.a.c.f (.load1 (t e.a.c.c)) e.a.c.b true 15,G e.a.f.a (.bin .num .eql (t e.a.c.f) (k 2)) e.a.c.b true 16,G e.a.f.b (.move (t e.a.f.a)) e.a.c.b true 17,G e.a.f.c (.fieldAddr 0 (t e.c)) e.a.f.b false 18,G e.a.f.f (.load1 (t e.a.f.c)) e.a.f.b false 19,G e.b.a.a (.bin .num .eql (t e.a.f.f) (k 3)) e.a.f.b false 20,G e.b.a.b (.pick (t e.a.f.b) kt (t e.b.a.a)) e.a.c.b true 21,o e.b.a.c (.pick (t e.a.c.b) (t e.b.a.b) kf) 22,m e.f e.b.a.c 23]).seq NC.ret)),40, [.tmp e.f]⟩
theorem rT:an Try.prog 19=some (.code wU):=by kernel_rfl
noncomputable def wJ:NFun:=⟨(reg [o e.a (.box (t e) 27) 0,o e.b (.move (.const .nilf)) 1]).seq ((reg [o e.c (.mkFn 27 [t e.a]) 0,m e.b e.c 1]).seq NC.ret),4, [.tmp e.b]⟩
theorem uy:an Try.prog 20=some (.code wJ):=by kernel_rfl
noncomputable def vX:NFun:=⟨(reg [o e.b (.move kn) 0]).seq ((reg [m e.f e 0,o e.a.a (.call (F 28) [t e.f]) 1,m e.c e.a.a 2]).seq ((reg [m e.a.b e.c 0,o e.a.c (.call (F 29) [t e.a.b]) 1]).seq ((reg [m e.a.f e.c 0,m e.b e.a.f 1]).seq NC.ret))),9, [.tmp e.b]⟩
theorem tY:an Try.prog 21=some (.code vX):=by kernel_rfl
noncomputable def w8:NFun:=⟨(reg [o e.a (.box (t e) 39) 0,o e.b (.move (.const .nilf)) 1]).seq ((reg [o e.c (.mkFn 30 [t e.a]) 0,m e.b e.c 1]).seq NC.ret),4, [.tmp e.b]⟩
theorem th:an Try.prog 22=some (.code w8):=by kernel_rfl
noncomputable def vV:NFun:=⟨(reg [o e.b (.move (k 0)) 0]).seq (((reg [m e.c e 0,b e.f .lss (t e.c) (k 4096) 1]).seq (NC.cond (t e.f) ((reg [o e.b (.move (k (-1))) 0]).seq NC.ret) NC.skip)).seq ((reg [m e.a.a e 0,b e.a.b .sub (t e.a.a) (k 4096) 1,b e.a.c .quo (t e.a.b) (k 64) 2,m e.b e.a.c 3]).seq NC.ret)),8, [.tmp e.b]⟩
theorem sH:an Try.prog 23=some (.code vV):=by kernel_rfl
noncomputable def tR:NC:=(NC.block 1 ((reg [m e.a.a.a e.b 0,m e.a.a.b e.a 1,b e.a.a.c .sub (t e.a.a.a) (t e.a.a.b) 2,m e.b.f e.a.a.c 3]).seq (((reg [m e.a.a.f e.b.f 0,b e.a.b.a .leq (t e.a.a.f) (k 12) 1]).seq (NC.cond (t e.a.b.a) ((reg [m e.a.b.b e 0,m e.a.b.c e.a 1,m e.a.b.f e.b 2,m e.a.c.a e.f 3,o e.a.c.b (.call (F 31) [t e.a.b.b,t e.a.b.c,t e.a.b.f,t e.a.c.a]) 4]).seq NC.ret) NC.skip)).seq (((reg [m e.a.c.c e.c 0,b e.a.c.f .eql (t e.a.c.c) (k 0) 1]).seq (NC.cond (t e.a.c.f) ((reg [m e.a.f.a e 0,m e.a.f.b e.a 1,m e.a.f.c e.b 2,m e.a.f.f e.f 3,o e.b.a.a (.call (F 32) [t e.a.f.a,t e.a.f.b,t e.a.f.c,t e.a.f.f]) 4]).seq NC.ret) NC.skip)).seq (((reg [m e.b.a.b e.b.b 0,o e.b.a.c (.un .not (t e.b.a.b)) 1]).seq (NC.cond (t e.b.a.c) ((reg [m e.b.a.f e 0,m e.b.b.a e.a 1,m e.b.b.b e.b 2,m e.b.b.c e.f 3,o e.b.b.f (.call (F 33) [t e.b.a.f,t e.b.b.a,t e.b.b.b,t e.b.b.c]) 4]).seq (reg [m e.b.c.a e.c 0,b e.b.c.b .sub (t e.b.c.a) (k 1) 1,m e.c e.b.c.b 2])) NC.skip)).seq ((reg [m e.b.c.f e 0,m e.b.f.a e.a 1,m e.b.f.b e.b 2,m e.b.f.c e.f 3,o e.b.f.f (.call (F 34) [t e.b.c.f,t e.b.f.a,t e.b.f.b,t e.b.f.c]) 4,m e.b.c.c e.b.f.f 5,x e.c.a.a e.b.c.c 0 6,x e.c.a.b e.b.c.c 1 7,m e.c.a e.c.a.a 8,m e.c.b e.c.a.b 9]).seq (((reg [m e.c.a.c e.c.b 0,b e.c.a.f .eql (t e.c.a.c) (k 2) 1]).seq (NC.cond (t e.c.a.f) ((reg [m e.c.b.a e 0,m e.c.b.b e.a 1,m e.c.b.c e.b 2,m e.c.b.f e.f 3,o e.c.c.a (.call (F 35) [t e.c.b.a,t e.c.b.b,t e.c.b.c,t e.c.b.f]) 4]).seq ((reg [m e.c.c.b e.b 0,b e.c.c.c .sub (t e.c.c.b) (k 1) 1,m e.c.c.f e.c.a 2,m e.c.f.a e.a 3,b e.c.f.b .sub (t e.c.c.f) (t e.c.f.a) 4,b e.c.f.c .sub (t e.c.c.c) (t e.c.f.b) 5,m e.c.a e.c.f.c 6]).seq (reg [o e.c.b (.move (k 1)) 0]))) NC.skip)).seq (((reg [m e.c.f.f e.b.b 0,m e.f.a.a e.c.f.f 1,G e.f.a.b (.move (t e.b.c)) e.f.a.a true 2,o e.f.a.c (.pick (t e.f.a.a) (t e.f.a.b) kf) 3,m e.f.a.f e.f.a.c 4,G e.f.b.a (.move (t e.c.b)) e.f.a.f true 5,G e.f.b.b (.bin .num .eql (t e.f.b.a) (k 1)) e.f.a.f true 6,o e.f.b.c (.pick (t e.f.a.f) (t e.f.b.b) kf) 7]).seq (NC.cond (t e.f.b.c) ((reg [m e.f.b.f e 0,m e.f.c.a e.a 1,m e.f.c.b e.b 2,m e.f.c.c e.f 3,o e.f.c.f (.call (F 36) [t e.f.b.f,t e.f.c.a,t e.f.c.b,t e.f.c.c]) 4]).seq (NC.cond (t e.f.c.f) NC.ret NC.skip)) NC.skip)).seq (((regD [m e.f.f.a e.a 0,O e.f.f.b (.bin .num .gtr (t e.f.f.a) (k 0)) 1 1,O e.f.f.c (.move (t e.f.f.b)) 3 2,⟨some e.f.f.f,.move (t e.f),some (e.f.f.c,true),7,3⟩,⟨some e.a.a.a.a,.move (t e),some (e.f.f.c,true),7,4⟩,⟨some e.a.a.a.b,.move (t e.a),some (e.f.f.c,true),7,5⟩,⟨some e.a.a.a.c,.bin .num .sub (t e.a.a.a.b) (k 1),some (e.f.f.c,true),39,6⟩,⟨some e.a.a.a.f,.indexSlc 2 (t e.a.a.a.a) (t e.a.a.a.c),some (e.f.f.c,true),119,7⟩,⟨some e.a.a.b.a,.loadN 2 (t e.a.a.a.f),some (e.f.f.c,true),247,8⟩,⟨some e.a.a.b.b,.move (t e),some (e.f.f.c,true),7,9⟩,⟨some e.a.a.b.c,.move (t e.c.a),some (e.f.f.c,true),7,10⟩,⟨some e.a.a.b.f,.indexSlc 2 (t e.a.a.b.b) (t e.a.a.b.c),some (e.f.f.c,true),1543,11⟩,⟨some e.a.a.c.a,.loadN 2 (t e.a.a.b.f),some (e.f.f.c,true),3591,12⟩,⟨some e.a.a.c.b,.call (t e.f.f.f) [t e.a.a.b.a,t e.a.a.c.a],some (e.f.f.c,true),8191,13⟩,⟨some e.a.a.c.c,.bin .num .lss (t e.a.a.c.b) (k 0),some (e.f.f.c,true),16383,14⟩,⟨some e.a.a.c.f,.un .not (t e.a.a.c.c),some (e.f.f.c,true),32767,15⟩,O e.a.a.f.a (.pick (t e.f.f.c) (t e.a.a.c.f) kf) 65535 16]).seq (NC.cond (t e.a.a.f.a) ((reg [m e.a.a.f.b e 0,m e.a.a.f.c e.a 1,m e.a.a.f.f e.b 2,m e.a.b.a.a e.c.a 3,m e.a.b.a.b e.f 4,o e.a.b.a.c (.call (F 37) [t e.a.a.f.b,t e.a.a.f.c,t e.a.a.f.f,t e.a.b.a.a,t e.a.b.a.b]) 5,m e.c.c e.a.b.a.c 6]).seq ((reg [m e.a.b.a.f e.c.c 0,m e.a e.a.b.a.f 1]).seq (NC.exit 1))) NC.skip)).seq ((reg [m e.a.b.b.b e 0,m e.a.b.b.c e.a 1,m e.a.b.b.f e.b 2,m e.a.b.c.a e.c.a 3,m e.a.b.c.b e.f 4,o e.a.b.c.c (.call (F 38) [t e.a.b.b.b,t e.a.b.b.c,t e.a.b.b.f,t e.a.b.c.a,t e.a.b.c.b]) 5,m e.a.b.b.a e.a.b.c.c 6,x e.a.b.c.f e.a.b.b.a 0 7,x e.a.b.f.a e.a.b.b.a 1 8,m e.c.f e.a.b.c.f 9,m e.f.a e.a.b.f.a 10]).seq ((reg [m e.a.b.f.b e.f.a 0,m e.b.c e.a.b.f.b 1]).seq ((reg [m e.a.b.f.c e.c.f 0,m e.a.b.f.f e.a 1,b e.a.c.a.a .sub (t e.a.b.f.c) (t e.a.b.f.f) 2,m e.a.c.a.b e.b 3,m e.a.c.a.c e.c.f 4,b e.a.c.a.f .sub (t e.a.c.a.b) (t e.a.c.a.c) 5,m e.f.b e.a.c.a.a 6,m e.f.c e.a.c.a.f 7]).seq ((reg [m e.a.c.b.a e.b.f 0,b e.a.c.b.b .quo (t e.a.c.b.a) (k 8) 1,m e.f.f e.a.c.b.b 2]).seq ((reg [m e.a.c.b.c e.f.b 0,m e.a.c.b.f e.f.c 1,b e.a.c.c.a .lss (t e.a.c.b.c) (t e.a.c.b.f) 2]).seq (NC.cond (t e.a.c.c.a) ((reg [m e.a.c.c.b e.f.b 0,m e.a.c.c.c e.f.f 1,b e.a.c.c.f .geq (t e.a.c.c.b) (t e.a.c.c.c) 2,m e.b.b e.a.c.c.f 3]).seq ((reg [m e.a.c.f.a e 0,m e.a.c.f.b e.a 1,m e.a.c.f.c e.c.f 2,m e.a.c.f.f e.c 3,m e.a.f.a.a e.f 4,o e.a.f.a.b (.call (F 24) [t e.a.c.f.a,t e.a.c.f.b,t e.a.c.f.c,t e.a.c.f.f,t e.a.f.a.a]) 5]).seq (reg [m e.a.f.a.c e.c.f 0,b e.a.f.a.f .add (t e.a.f.a.c) (k 1) 1,m e.a e.a.f.a.f 2]))) ((reg [m e.a.f.b.a e.f.c 0,m e.a.f.b.b e.f.f 1,b e.a.f.b.c .geq (t e.a.f.b.a) (t e.a.f.b.b) 2,m e.b.b e.a.f.b.c 3]).seq ((reg [m e.a.f.b.f e 0,m e.a.f.c.a e.c.f 1,b e.a.f.c.b .add (t e.a.f.c.a) (k 1) 2,m e.a.f.c.c e.b 3,m e.a.f.c.f e.c 4,m e.a.f.f.a e.f 5,o e.a.f.f.b (.call (F 24) [t e.a.f.b.f,t e.a.f.c.b,t e.a.f.c.c,t e.a.f.c.f,t e.a.f.f.a]) 6]).seq (reg [m e.a.f.f.c e.c.f 0,m e.b e.a.f.f.c 1]))))))))))))))))))
noncomputable def vS:NFun:=⟨(reg [o e.b.b (.move kt) 0]).seq ((reg [o e.b.c (.move kt) 0]).seq (NC.block 0 tR.loop)),148, []⟩
theorem sf:an Try.prog 24=some (.code vS):=by kernel_rfl
noncomputable def xn:NFun:=⟨(reg [o e.b (.move (k 0)) 0]).seq ((NC.cond kf ((reg [m e.c e 0,o e.f (.toInt .u32 (t e.c)) 1,o e.a.a (.call (F 39) [t e.f]) 2,m e.b e.a.a 3]).seq NC.ret) NC.skip).seq ((reg [m e.a.b e 0,o e.a.c (.call (F 40) [t e.a.b]) 1,m e.b e.a.c 2]).seq NC.ret)),8, [.tmp e.b]⟩
theorem sj:an Try.prog 25=some (.code xn):=by kernel_rfl
noncomputable def xj:NFun:=⟨(reg [o e.b (.move kf) 0]).seq ((reg [m e.c e 0,m e.f e 1,b e.a.a .neq (t e.c) (t e.f) 2,m e.b e.a.a 3]).seq NC.ret),6, [.tmp e.b]⟩
theorem tC:an Try.prog 26=some (.code xj):=by kernel_rfl
noncomputable def sI:NC:=((reg [b e.a.f .lss (t e.a.c) (t e.a.b) 0]).seq ((NC.cond (t e.a.f) NC.skip (NC.exit 0)).seq ((NC.block 1 ((reg [o e.b.a (.indexSlc 1 (t e.a.a) (t e.a.c)) 0,l e.b.b e.b.a 1,m e.f e.b.b 2]).seq ((reg [m e.b.c e 0,m e.b.f e.f 1,o e.c.a (.call (t e.b.c) [t e.b.f]) 2,o e.c.b (.un .not (t e.c.a)) 3]).seq (NC.cond (t e.c.b) NC.ret NC.skip)))).seq (reg [b e.c.c .add (t e.a.c) (k 1) 0,m e.a.c e.c.c 1]))))
noncomputable def vU:NFun:=⟨(reg [l e.a.a e.a 0,L e.a.b e.a.a 1,o e.a.c (.move (k 0)) 2]).seq (NC.block 0 sI.loop),16, []⟩
theorem sy:an Try.prog 27=some (.code vU):=by kernel_rfl
noncomputable def xi:NFun:=⟨(reg [o e.b (.move kn) 0]).seq ((reg [m e.c e 0,o e.f (.call (F 41) [.const .nils,t e.c]) 1,m e.b e.f 2]).seq NC.ret),5, [.tmp e.b]⟩
theorem uj:an Try.prog 28=some (.code xi):=by kernel_rfl
noncomputable def wa:NFun:=⟨(reg [m e.c e 0,L e.f e.c 1,m e.b e.f 2]).seq (reg [m e.a.a e 0,m e.a.b e.b 1,m e.a.c e.b 2,o e.a.f (.toInt .u64 (t e.a.c)) 3,o e.b.a (.call (F 25) [t e.a.f]) 4,o e.b.b (.call (F 42) [t e.a.a,k 0,t e.a.b,t e.b.a]) 5]),11, []⟩
theorem tZ:an Try.prog 29=some (.code wa):=by kernel_rfl
noncomputable def ul:NC:=((reg [o e.a.b (.fail) 0,x e.a.c e.a.b 0 1]).seq ((NC.cond (t e.a.c) NC.skip (NC.exit 0)).seq (NC.block 1 ((reg [o e.a.f (.fail) 0,x e.b.a e.a.f 0 1,m e.c e.b.a 2]).seq ((reg [m e.b.b e 0,m e.b.c e.c 1,o e.b.f (.call (t e.b.b) [t e.b.c]) 2,o e.c.a (.un .not (t e.b.f)) 3]).seq (NC.cond (t e.c.a) NC.ret NC.skip))))))
noncomputable def wP:NFun:=⟨(reg [l e.f e.a 0,o e.a.a (.fail) 1]).seq (NC.block 0 ul.loop),14, []⟩
theorem tD:an Try.prog 30=some (.code wP):=by kernel_rfl
noncomputable def sJ:NC:=(((regD [m e.f.b e.b.a 0,m e.f.c e.a 1,O e.f.f (.bin .num .gtr (t e.f.b) (t e.f.c)) 3 2,O e.a.a.a (.move (t e.f.f)) 7 3,⟨some e.a.a.b,.move (t e.c),some (e.a.a.a,true),15,4⟩,⟨some e.a.a.c,.move (t e),some (e.a.a.a,true),15,5⟩,⟨some e.a.a.f,.move (t e.b.a),some (e.a.a.a,true),15,6⟩,⟨some e.a.b.a,.indexSlc 2 (t e.a.a.c) (t e.a.a.f),some (e.a.a.a,true),111,7⟩,⟨some e.a.b.b,.loadN 2 (t e.a.b.a),some (e.a.a.a,true),239,8⟩,⟨some e.a.b.c,.move (t e),some (e.a.a.a,true),15,9⟩,⟨some e.a.b.f,.move (t e.b.a),some (e.a.a.a,true),15,10⟩,⟨some e.a.c.a,.bin .num .sub (t e.a.b.f) (k 1),some (e.a.a.a,true),1039,11⟩,⟨some e.a.c.b,.indexSlc 2 (t e.a.b.c) (t e.a.c.a),some (e.a.a.a,true),3599,12⟩,⟨some e.a.c.c,.loadN 2 (t e.a.c.b),some (e.a.a.a,true),7695,13⟩,⟨some e.a.c.f,.call (t e.a.a.b) [t e.a.b.b,t e.a.c.c],some (e.a.a.a,true),16383,14⟩,⟨some e.a.f.a,.bin .num .lss (t e.a.c.f) (k 0),some (e.a.a.a,true),32767,15⟩,O e.a.f.b (.pick (t e.a.a.a) (t e.a.f.a) kf) 65535 16]).seq (NC.cond (t e.a.f.b) NC.skip (NC.exit 2))).seq ((NC.block 3 (regD [m e.b.a.a e 0,m e.b.a.b e.b.a 1,m e.b.a.c e 2,m e.b.a.f e.b.a 3,O e.b.b.a (.bin .num .sub (t e.b.a.f) (k 1)) 8 4,m e.b.b.b e 5,m e.b.b.c e.b.a 6,O e.b.b.f (.bin .num .sub (t e.b.b.c) (k 1)) 64 7,O e.b.c.a (.indexSlc 2 (t e.b.b.b) (t e.b.b.f)) 224 8,O e.b.c.b (.loadN 2 (t e.b.c.a)) 480 9,m e.b.c.c e 10,m e.b.c.f e.b.a 11,O e.b.f.a (.indexSlc 2 (t e.b.c.c) (t e.b.c.f)) 3072 12,O e.b.f.b (.loadN 2 (t e.b.f.a)) 7168 13,O e.b.f.c (.indexSlc 2 (t e.b.a.a) (t e.b.a.b)) 16355 14,⟨none,.store 2 (t e.b.f.c) (t e.b.c.b),none,32739,15⟩,O e.b.f.f (.indexSlc 2 (t e.b.a.c) (t e.b.b.a)) 65535 16,⟨none,.store 2 (t e.b.f.f) (t e.b.f.b),none,131071,17⟩])).seq (reg [m e.a.f.c e.b.a 0,b e.a.f.f .sub (t e.a.f.c) (k 1) 1,m e.b.a e.a.f.f 2])))
noncomputable def sX:NC:=(((reg [m e.b.f e.a.f 0,m e.c.a e.b 1,b e.c.b .lss (t e.b.f) (t e.c.a) 2]).seq (NC.cond (t e.c.b) NC.skip (NC.exit 0))).seq ((NC.block 1 ((reg [m e.f.a e.a.f 0,m e.b.a e.f.a 1]).seq (NC.block 2 sJ.loop))).seq (reg [m e.c.c e.a.f 0,b e.c.f .add (t e.c.c) (k 1) 1,m e.a.f e.c.f 2])))
noncomputable def xg:NFun:=⟨(reg [m e.b.b e.a 0,b e.b.c .add (t e.b.b) (k 1) 1,m e.a.f e.b.c 2]).seq (NC.block 0 sX.loop),53, []⟩
theorem rW:an Try.prog 31=some (.code xg):=by kernel_rfl
noncomputable def tI:NC:=(((reg [m e.f.f e.b.c 0,b e.a.a.a .geq (t e.f.f) (k 0) 1]).seq (NC.cond (t e.a.a.a) NC.skip (NC.exit 0))).seq ((NC.block 1 (reg [m e.a.a.f e 0,m e.a.b.a e.b.c 1,m e.a.b.b e.b.b 2,m e.a.b.c e.a.f 3,m e.a.b.f e.c 4,o e.a.c.a (.call (F 43) [t e.a.a.f,t e.a.b.a,t e.a.b.b,t e.a.b.c,t e.a.b.f]) 5])).seq (reg [m e.a.a.b e.b.c 0,b e.a.a.c .sub (t e.a.a.b) (k 1) 1,m e.b.c e.a.a.c 2])))
noncomputable def t6:NC:=(((reg [m e.a.c.f e.b.f 0,b e.a.f.a .geq (t e.a.c.f) (k 0) 1]).seq (NC.cond (t e.a.f.a) NC.skip (NC.exit 2))).seq ((NC.block 3 ((regD [m e.a.f.f e 0,m e.b.a.a e.a.f 1,m e.b.a.b e 2,m e.b.a.c e.a.f 3,m e.b.a.f e.b.f 4,O e.b.b.a (.bin .num .add (t e.b.a.c) (t e.b.a.f)) 24 5,m e.b.b.b e 6,m e.b.b.c e.a.f 7,m e.b.b.f e.b.f 8,O e.b.c.a (.bin .num .add (t e.b.b.c) (t e.b.b.f)) 384 9,O e.b.c.b (.indexSlc 2 (t e.b.b.b) (t e.b.c.a)) 960 10,O e.b.c.c (.loadN 2 (t e.b.c.b)) 1984 11,m e.b.c.f e 12,m e.b.f.a e.a.f 13,O e.b.f.b (.indexSlc 2 (t e.b.c.f) (t e.b.f.a)) 12288 14,O e.b.f.c (.loadN 2 (t e.b.f.b)) 28672 15,O e.b.f.f (.indexSlc 2 (t e.a.f.f) (t e.b.a.a)) 65475 16,⟨none,.store 2 (t e.b.f.f) (t e.b.c.c),none,131011,17⟩,O e.c.a.a (.indexSlc 2 (t e.b.a.b) (t e.b.b.a)) 262143 18,⟨none,.store 2 (t e.c.a.a) (t e.b.f.c),none,524287,19⟩]).seq (reg [m e.c.a.b e 0,m e.c.a.c e.b.a 1,m e.c.a.f e.b.f 2,m e.c.b.a e.a.f 3,m e.c.b.b e.c 4,o e.c.b.c (.call (F 43) [t e.c.a.b,t e.c.a.c,t e.c.a.f,t e.c.b.a,t e.c.b.b]) 5]))).seq (reg [m e.a.f.b e.b.f 0,b e.a.f.c .sub (t e.a.f.b) (k 1) 1,m e.b.f e.a.f.c 2])))
noncomputable def wx:NFun:=⟨(reg [m e.c.a e.a 0,m e.a.f e.c.a 1]).seq ((reg [o e.b.a (.move (k 0)) 0]).seq ((reg [m e.c.b e.b 0,m e.c.c e.a 1,b e.c.f .sub (t e.c.b) (t e.c.c) 2,m e.b.b e.c.f 3]).seq (((reg [m e.f.a e.b.b 0,b e.f.b .sub (t e.f.a) (k 1) 1,b e.f.c .quo (t e.f.b) (k 2) 2,m e.b.c e.f.c 3]).seq (NC.block 0 tI.loop)).seq ((reg [m e.a.c.b e.b.b 0,b e.a.c.c .sub (t e.a.c.b) (k 1) 1,m e.b.f e.a.c.c 2]).seq (NC.block 2 t6.loop))))),60, []⟩
theorem rQ:an Try.prog 32=some (.code wx):=by kernel_rfl
noncomputable def tT:NC:=(((reg [m e.a.b.f e.b.c 0,m e.a.c.a e.a 1,m e.a.c.b e.a.f 2,b e.a.c.c .quo (t e.a.c.b) (k 4) 3,b e.a.c.f .mul (t e.a.c.c) (k 2) 4,b e.a.f.a .add (t e.a.c.a) (t e.a.c.f) 5,b e.a.f.b .add (t e.a.f.a) (k 1) 6,b e.a.f.c .leq (t e.a.b.f) (t e.a.f.b) 7]).seq (NC.cond (t e.a.f.c) NC.skip (NC.exit 0))).seq ((NC.block 1 ((reg [o e.b.a.b (.call (F 45) [t e.b.a]) 0,m e.b.a.c e.b.b 1,b e.b.a.f .sub (t e.b.a.c) (ku 1) 2,b e.b.b.a .and (t e.b.a.b) (t e.b.a.f) 3,o e.b.b.b (.toInt .i64 (t e.b.b.a)) 4,m e.b.f e.b.b.b 5]).seq (((reg [m e.b.b.c e.b.f 0,m e.b.b.f e.a.f 1,b e.b.c.a .geq (t e.b.b.c) (t e.b.b.f) 2]).seq (NC.cond (t e.b.c.a) (reg [m e.b.c.b e.b.f 0,m e.b.c.c e.a.f 1,b e.b.c.f .sub (t e.b.c.b) (t e.b.c.c) 2,m e.b.f e.b.c.f 3]) NC.skip)).seq (regD [m e.b.f.a e 0,m e.b.f.b e.b.c 1,m e.b.f.c e 2,m e.b.f.f e.a 3,m e.c.a.a e.b.f 4,O e.c.a.b (.bin .num .add (t e.b.f.f) (t e.c.a.a)) 24 5,m e.c.a.c e 6,m e.c.a.f e.a 7,m e.c.b.a e.b.f 8,O e.c.b.b (.bin .num .add (t e.c.a.f) (t e.c.b.a)) 384 9,O e.c.b.c (.indexSlc 2 (t e.c.a.c) (t e.c.b.b)) 960 10,O e.c.b.f (.loadN 2 (t e.c.b.c)) 1984 11,m e.c.c.a e 12,m e.c.c.b e.b.c 13,O e.c.c.c (.indexSlc 2 (t e.c.c.a) (t e.c.c.b)) 12288 14,O e.c.c.f (.loadN 2 (t e.c.c.c)) 28672 15,O e.c.f.a (.indexSlc 2 (t e.b.f.a) (t e.b.f.b)) 65475 16,⟨none,.store 2 (t e.c.f.a) (t e.c.b.f),none,131011,17⟩,O e.c.f.b (.indexSlc 2 (t e.b.f.c) (t e.c.a.b)) 262143 18,⟨none,.store 2 (t e.c.f.b) (t e.c.c.f),none,524287,19⟩])))).seq (reg [m e.a.f.f e.b.c 0,b e.b.a.a .add (t e.a.f.f) (k 1) 1,m e.b.c e.b.a.a 2])))
noncomputable def v7:NFun:=⟨(reg [m e.c.a e.b 0,m e.c.b e.a 1,b e.c.c .sub (t e.c.a) (t e.c.b) 2,m e.a.f e.c.c 3]).seq ((reg [m e.c.f e.a.f 0,b e.f.a .geq (t e.c.f) (k 8) 1]).seq (NC.cond (t e.f.a) ((reg [m e.f.b e.a.f 0,o e.f.c (.toInt .u64 (t e.f.b)) 1,o e.b.a (.alloc [.int .u64 (.lit 0)] 79) 2,q (.store 1 (t e.b.a) (t e.f.c)) 3]).seq ((reg [m e.f.f e.a.f 0,o e.a.a.a (.call (F 44) [t e.f.f]) 1,m e.b.b e.a.a.a 2]).seq ((reg [m e.a.a.b e.a 0,m e.a.a.c e.a.f 1,b e.a.a.f .quo (t e.a.a.c) (k 4) 2,b e.a.b.a .mul (t e.a.a.f) (k 2) 3,b e.a.b.b .add (t e.a.a.b) (t e.a.b.a) 4,b e.a.b.c .sub (t e.a.b.b) (k 1) 5,m e.b.c e.a.b.c 6]).seq (NC.block 0 tT.loop)))) NC.skip)),67, []⟩
theorem tu:an Try.prog 33=some (.code v7):=by kernel_rfl
noncomputable def wG:NFun:=⟨(reg [o e.a.f (.move (k 0)) 0,o e.b.a (.move (k 0)) 1]).seq ((reg [m e.c.c e.b 0,m e.c.f e.a 1,b e.f.a .sub (t e.c.c) (t e.c.f) 2,m e.b.b e.f.a 3]).seq ((reg [o e.b.c (.alloc [.int .i64 (.lit 0)] 3) 0]).seq ((reg [m e.f.b e.a 0,m e.f.c e.b.b 1,b e.f.f .quo (t e.f.c) (k 4) 2,b e.a.a.a .mul (t e.f.f) (k 1) 3,b e.a.a.b .add (t e.f.b) (t e.a.a.a) 4,m e.b.f e.a.a.b 5]).seq ((reg [m e.a.a.c e.a 0,m e.a.a.f e.b.b 1,b e.a.b.a .quo (t e.a.a.f) (k 4) 2,b e.a.b.b .mul (t e.a.b.a) (k 2) 3,b e.a.b.c .add (t e.a.a.c) (t e.a.b.b) 4,m e.c.a e.a.b.c 5]).seq ((reg [m e.a.b.f e.a 0,m e.a.c.a e.b.b 1,b e.a.c.b .quo (t e.a.c.a) (k 4) 2,b e.a.c.c .mul (t e.a.c.b) (k 3) 3,b e.a.c.f .add (t e.a.b.f) (t e.a.c.c) 4,m e.c.b e.a.c.f 5]).seq (((reg [m e.a.f.a e.b.b 0,b e.a.f.b .geq (t e.a.f.a) (k 8) 1]).seq (NC.cond (t e.a.f.b) (((reg [m e.a.f.c e.b.b 0,b e.a.f.f .geq (t e.a.f.c) (k 50) 1]).seq (NC.cond (t e.a.f.f) ((reg [m e.b.a.a e 0,m e.b.a.b e.b.f 1,m e.b.a.c e.c 2,o e.b.a.f (.call (F 46) [t e.b.a.a,t e.b.a.b,t e.b.c,t e.b.a.c]) 3,m e.b.f e.b.a.f 4]).seq ((reg [m e.b.b.a e 0,m e.b.b.b e.c.a 1,m e.b.b.c e.c 2,o e.b.b.f (.call (F 46) [t e.b.b.a,t e.b.b.b,t e.b.c,t e.b.b.c]) 3,m e.c.a e.b.b.f 4]).seq (reg [m e.b.c.a e 0,m e.b.c.b e.c.b 1,m e.b.c.c e.c 2,o e.b.c.f (.call (F 46) [t e.b.c.a,t e.b.c.b,t e.b.c,t e.b.c.c]) 3,m e.c.b e.b.c.f 4]))) NC.skip)).seq (reg [m e.b.f.a e 0,m e.b.f.b e.b.f 1,m e.b.f.c e.c.a 2,m e.b.f.f e.c.b 3,m e.c.a.a e.c 4,o e.c.a.b (.call (F 47) [t e.b.f.a,t e.b.f.b,t e.b.f.c,t e.b.f.f,t e.b.c,t e.c.a.a]) 5,m e.c.a e.c.a.b 6])) NC.skip)).seq ((reg [l e.c.a.c e.b.c 0]).seq (NC.block 0 ((reg [b e.c.b.b .eql (t e.c.a.c) (k 0) 0,m e.c.b.a e.c.b.b 1]).seq (NC.cond (t e.c.b.a) ((reg [m e.c.b.c e.c.a 0,m e.a.f e.c.b.c 1,o e.b.a (.move (k 1)) 2]).seq NC.ret) ((reg [b e.c.c.a .eql (t e.c.a.c) (k 12) 0,m e.c.b.f e.c.c.a 1]).seq (NC.cond (t e.c.b.f) ((reg [m e.c.c.b e.c.a 0,m e.a.f e.c.c.b 1,o e.b.a (.move (k 2)) 2]).seq NC.ret) ((reg [m e.c.a.f e.c.a 0,m e.a.f e.c.a.f 1,o e.b.a (.move (k 0)) 2]).seq NC.ret))))))))))))),63, [.tmp e.a.f,.tmp e.b.a]⟩
theorem tW:an Try.prog 34=some (.code wG):=by kernel_rfl
noncomputable def rX:NC:=(((reg [m e.c.a e.a.f 0,m e.c.b e.b.a 1,b e.c.c .lss (t e.c.a) (t e.c.b) 2]).seq (NC.cond (t e.c.c) NC.skip (NC.exit 0))).seq (NC.block 1 ((regD [m e.c.f e 0,m e.f.a e.a.f 1,m e.f.b e 2,m e.f.c e.b.a 3,m e.f.f e 4,m e.a.a.a e.b.a 5,O e.a.a.b (.indexSlc 2 (t e.f.f) (t e.a.a.a)) 48 6,O e.a.a.c (.loadN 2 (t e.a.a.b)) 112 7,m e.a.a.f e 8,m e.a.b.a e.a.f 9,O e.a.b.b (.indexSlc 2 (t e.a.a.f) (t e.a.b.a)) 768 10,O e.a.b.c (.loadN 2 (t e.a.b.b)) 1792 11,O e.a.b.f (.indexSlc 2 (t e.c.f) (t e.f.a)) 4083 12,⟨none,.store 2 (t e.a.b.f) (t e.a.a.c),none,8179,13⟩,O e.a.c.a (.indexSlc 2 (t e.f.b) (t e.f.c)) 16383 14,⟨none,.store 2 (t e.a.c.a) (t e.a.b.c),none,32767,15⟩]).seq ((reg [m e.a.c.b e.a.f 0,b e.a.c.c .add (t e.a.c.b) (k 1) 1,m e.a.f e.a.c.c 2]).seq (reg [m e.a.c.f e.b.a 0,b e.a.f.a .sub (t e.a.c.f) (k 1) 1,m e.b.a e.a.f.a 2])))))
noncomputable def xm:NFun:=⟨(reg [m e.b.b e.a 0,m e.a.f e.b.b 1]).seq ((reg [m e.b.c e.b 0,b e.b.f .sub (t e.b.c) (k 1) 1,m e.b.a e.b.f 2]).seq (NC.block 0 rX.loop)),34, []⟩
theorem ub:an Try.prog 35=some (.code xm):=by kernel_rfl
noncomputable def uA:NC:=(((regD [m e.f.c e.b.a 0,m e.f.f e.b 1,O e.a.a.a (.bin .num .lss (t e.f.c) (t e.f.f)) 3 2,O e.a.a.b (.move (t e.a.a.a)) 7 3,⟨some e.a.a.c,.move (t e.c),some (e.a.a.b,true),15,4⟩,⟨some e.a.a.f,.move (t e),some (e.a.a.b,true),15,5⟩,⟨some e.a.b.a,.move (t e.b.a),some (e.a.a.b,true),15,6⟩,⟨some e.a.b.b,.indexSlc 2 (t e.a.a.f) (t e.a.b.a),some (e.a.a.b,true),111,7⟩,⟨some e.a.b.c,.loadN 2 (t e.a.b.b),some (e.a.a.b,true),239,8⟩,⟨some e.a.b.f,.move (t e),some (e.a.a.b,true),15,9⟩,⟨some e.a.c.a,.move (t e.b.a),some (e.a.a.b,true),15,10⟩,⟨some e.a.c.b,.bin .num .sub (t e.a.c.a) (k 1),some (e.a.a.b,true),1039,11⟩,⟨some e.a.c.c,.indexSlc 2 (t e.a.b.f) (t e.a.c.b),some (e.a.a.b,true),3599,12⟩,⟨some e.a.c.f,.loadN 2 (t e.a.c.c),some (e.a.a.b,true),7695,13⟩,⟨some e.a.f.a,.call (t e.a.a.c) [t e.a.b.c,t e.a.c.f],some (e.a.a.b,true),16383,14⟩,⟨some e.a.f.b,.bin .num .lss (t e.a.f.a) (k 0),some (e.a.a.b,true),32767,15⟩,⟨some e.a.f.c,.un .not (t e.a.f.b),some (e.a.a.b,true),65535,16⟩,O e.a.f.f (.pick (t e.a.a.b) (t e.a.f.c) kf) 131071 17]).seq (NC.cond (t e.a.f.f) NC.skip (NC.exit 2))).seq (NC.block 3 (reg [m e.b.a.a e.b.a 0,b e.b.a.b .add (t e.b.a.a) (k 1) 1,m e.b.a e.b.a.b 2])))
noncomputable def up:NC:=(((reg [m e.c.f.f e.b.c 0,b e.f.a.a .geq (t e.c.f.f) (k 1) 1]).seq (NC.cond (t e.f.a.a) NC.skip (NC.exit 4))).seq ((NC.block 5 (((regD [m e.f.a.f e.c 0,m e.f.b.a e 1,m e.f.b.b e.b.c 2,O e.f.b.c (.indexSlc 2 (t e.f.b.a) (t e.f.b.b)) 6 3,O e.f.b.f (.loadN 2 (t e.f.b.c)) 14 4,m e.f.c.a e 5,m e.f.c.b e.b.c 6,O e.f.c.c (.bin .num .sub (t e.f.c.b) (k 1)) 64 7,O e.f.c.f (.indexSlc 2 (t e.f.c.a) (t e.f.c.c)) 224 8,O e.f.f.a (.loadN 2 (t e.f.c.f)) 480 9,O e.f.f.b (.call (t e.f.a.f) [t e.f.b.f,t e.f.f.a]) 1023 10,O e.f.f.c (.bin .num .lss (t e.f.f.b) (k 0)) 2047 11,O e.f.f.f (.un .not (t e.f.f.c)) 4095 12]).seq (NC.cond (t e.f.f.f) (NC.exit 4) NC.skip)).seq (regD [m e.a.a.a.a e 0,m e.a.a.a.b e.b.c 1,m e.a.a.a.c e 2,m e.a.a.a.f e.b.c 3,O e.a.a.b.a (.bin .num .sub (t e.a.a.a.f) (k 1)) 8 4,m e.a.a.b.b e 5,m e.a.a.b.c e.b.c 6,O e.a.a.b.f (.bin .num .sub (t e.a.a.b.c) (k 1)) 64 7,O e.a.a.c.a (.indexSlc 2 (t e.a.a.b.b) (t e.a.a.b.f)) 224 8,O e.a.a.c.b (.loadN 2 (t e.a.a.c.a)) 480 9,m e.a.a.c.c e 10,m e.a.a.c.f e.b.c 11,O e.a.a.f.a (.indexSlc 2 (t e.a.a.c.c) (t e.a.a.c.f)) 3072 12,O e.a.a.f.b (.loadN 2 (t e.a.a.f.a)) 7168 13,O e.a.a.f.c (.indexSlc 2 (t e.a.a.a.a) (t e.a.a.a.b)) 16355 14,⟨none,.store 2 (t e.a.a.f.c) (t e.a.a.c.b),none,32739,15⟩,O e.a.a.f.f (.indexSlc 2 (t e.a.a.a.c) (t e.a.a.b.a)) 65535 16,⟨none,.store 2 (t e.a.a.f.f) (t e.a.a.f.b),none,131071,17⟩]))).seq (reg [m e.f.a.b e.b.c 0,b e.f.a.c .sub (t e.f.a.b) (k 1) 1,m e.b.c e.f.a.c 2])))
noncomputable def rZ:NC:=(((reg [m e.a.b.b.c e.b.f 0,m e.a.b.b.f e.b 1,b e.a.b.c.a .lss (t e.a.b.b.c) (t e.a.b.b.f) 2]).seq (NC.cond (t e.a.b.c.a) NC.skip (NC.exit 6))).seq ((NC.block 7 (((regD [m e.a.b.c.f e.c 0,m e.a.b.f.a e 1,m e.a.b.f.b e.b.f 2,O e.a.b.f.c (.indexSlc 2 (t e.a.b.f.a) (t e.a.b.f.b)) 6 3,O e.a.b.f.f (.loadN 2 (t e.a.b.f.c)) 14 4,m e.a.c.a.a e 5,m e.a.c.a.b e.b.f 6,O e.a.c.a.c (.bin .num .sub (t e.a.c.a.b) (k 1)) 64 7,O e.a.c.a.f (.indexSlc 2 (t e.a.c.a.a) (t e.a.c.a.c)) 224 8,O e.a.c.b.a (.loadN 2 (t e.a.c.a.f)) 480 9,O e.a.c.b.b (.call (t e.a.b.c.f) [t e.a.b.f.f,t e.a.c.b.a]) 1023 10,O e.a.c.b.c (.bin .num .lss (t e.a.c.b.b) (k 0)) 2047 11,O e.a.c.b.f (.un .not (t e.a.c.b.c)) 4095 12]).seq (NC.cond (t e.a.c.b.f) (NC.exit 6) NC.skip)).seq (regD [m e.a.c.c.a e 0,m e.a.c.c.b e.b.f 1,m e.a.c.c.c e 2,m e.a.c.c.f e.b.f 3,O e.a.c.f.a (.bin .num .sub (t e.a.c.c.f) (k 1)) 8 4,m e.a.c.f.b e 5,m e.a.c.f.c e.b.f 6,O e.a.c.f.f (.bin .num .sub (t e.a.c.f.c) (k 1)) 64 7,O e.a.f.a.a (.indexSlc 2 (t e.a.c.f.b) (t e.a.c.f.f)) 224 8,O e.a.f.a.b (.loadN 2 (t e.a.f.a.a)) 480 9,m e.a.f.a.c e 10,m e.a.f.a.f e.b.f 11,O e.a.f.b.a (.indexSlc 2 (t e.a.f.a.c) (t e.a.f.a.f)) 3072 12,O e.a.f.b.b (.loadN 2 (t e.a.f.b.a)) 7168 13,O e.a.f.b.c (.indexSlc 2 (t e.a.c.c.a) (t e.a.c.c.b)) 16355 14,⟨none,.store 2 (t e.a.f.b.c) (t e.a.f.a.b),none,32739,15⟩,O e.a.f.b.f (.indexSlc 2 (t e.a.c.c.c) (t e.a.c.f.a)) 65535 16,⟨none,.store 2 (t e.a.f.b.f) (t e.a.f.b.b),none,131071,17⟩]))).seq (reg [m e.a.b.c.b e.b.f 0,b e.a.b.c.c .add (t e.a.b.c.b) (k 1) 1,m e.b.f e.a.b.c.c 2])))
noncomputable def sQ:NC:=(((reg [m e.c.c e.b.b 0,b e.c.f .lss (t e.c.c) (k 5) 1]).seq (NC.cond (t e.c.f) NC.skip (NC.exit 0))).seq ((NC.block 1 ((NC.block 2 uA.loop).seq (((reg [m e.b.a.c e.b.a 0,m e.b.a.f e.b 1,b e.b.b.a .eql (t e.b.a.c) (t e.b.a.f) 2]).seq (NC.cond (t e.b.b.a) ((reg [o e.a.f (.move kt) 0]).seq NC.ret) NC.skip)).seq (((reg [m e.b.b.b e.b 0,m e.b.b.c e.a 1,b e.b.b.f .sub (t e.b.b.b) (t e.b.b.c) 2,b e.b.c.a .lss (t e.b.b.f) (k 50) 3]).seq (NC.cond (t e.b.c.a) ((reg [o e.a.f (.move kf) 0]).seq NC.ret) NC.skip)).seq ((regD [m e.b.c.b e 0,m e.b.c.c e.b.a 1,m e.b.c.f e 2,m e.b.f.a e.b.a 3,O e.b.f.b (.bin .num .sub (t e.b.f.a) (k 1)) 8 4,m e.b.f.c e 5,m e.b.f.f e.b.a 6,O e.c.a.a (.bin .num .sub (t e.b.f.f) (k 1)) 64 7,O e.c.a.b (.indexSlc 2 (t e.b.f.c) (t e.c.a.a)) 224 8,O e.c.a.c (.loadN 2 (t e.c.a.b)) 480 9,m e.c.a.f e 10,m e.c.b.a e.b.a 11,O e.c.b.b (.indexSlc 2 (t e.c.a.f) (t e.c.b.a)) 3072 12,O e.c.b.c (.loadN 2 (t e.c.b.b)) 7168 13,O e.c.b.f (.indexSlc 2 (t e.b.c.b) (t e.b.c.c)) 16355 14,⟨none,.store 2 (t e.c.b.f) (t e.c.a.c),none,32739,15⟩,O e.c.c.a (.indexSlc 2 (t e.b.c.f) (t e.b.f.b)) 65535 16,⟨none,.store 2 (t e.c.c.a) (t e.c.b.c),none,131071,17⟩]).seq (((reg [m e.c.c.b e.b.a 0,m e.c.c.c e.a 1,b e.c.c.f .sub (t e.c.c.b) (t e.c.c.c) 2,b e.c.f.a .geq (t e.c.c.f) (k 2) 3]).seq (NC.cond (t e.c.f.a) ((reg [m e.c.f.b e.b.a 0,b e.c.f.c .sub (t e.c.f.b) (k 1) 1,m e.b.c e.c.f.c 2]).seq (NC.block 4 up.loop)) NC.skip)).seq ((reg [m e.a.b.a.a e.b 0,m e.a.b.a.b e.b.a 1,b e.a.b.a.c .sub (t e.a.b.a.a) (t e.a.b.a.b) 2,b e.a.b.a.f .geq (t e.a.b.a.c) (k 2) 3]).seq (NC.cond (t e.a.b.a.f) ((reg [m e.a.b.b.a e.b.a 0,b e.a.b.b.b .add (t e.a.b.b.a) (k 1) 1,m e.b.f e.a.b.b.b 2]).seq (NC.block 6 rZ.loop)) NC.skip)))))))).seq (reg [m e.f.a e.b.b 0,b e.f.b .add (t e.f.a) (k 1) 1,m e.b.b e.f.b 2])))
noncomputable def wA:NFun:=⟨(reg [o e.a.f (.move kf) 0]).seq ((reg [m e.c.a e.a 0,b e.c.b .add (t e.c.a) (k 1) 1,m e.b.a e.c.b 2]).seq (((reg [o e.b.b (.move (k 0)) 0]).seq (NC.block 0 sQ.loop)).seq ((reg [o e.a.f (.move kf) 0]).seq NC.ret))),141, [.tmp e.a.f]⟩
theorem tz:an Try.prog 36=some (.code wA):=by kernel_rfl
noncomputable def tP:NC:=(((regD [m e.b.f.b e.b.c 0,m e.b.f.c e.b.f 1,O e.b.f.f (.bin .num .leq (t e.b.f.b) (t e.b.f.c)) 3 2,O e.c.a.a (.move (t e.b.f.f)) 7 3,⟨some e.c.a.b,.move (t e.f),some (e.c.a.a,true),15,4⟩,⟨some e.c.a.c,.move (t e),some (e.c.a.a,true),15,5⟩,⟨some e.c.a.f,.move (t e.a),some (e.c.a.a,true),15,6⟩,⟨some e.c.b.a,.indexSlc 2 (t e.c.a.c) (t e.c.a.f),some (e.c.a.a,true),111,7⟩,⟨some e.c.b.b,.loadN 2 (t e.c.b.a),some (e.c.a.a,true),239,8⟩,⟨some e.c.b.c,.move (t e),some (e.c.a.a,true),15,9⟩,⟨some e.c.b.f,.move (t e.b.f),some (e.c.a.a,true),15,10⟩,⟨some e.c.c.a,.indexSlc 2 (t e.c.b.c) (t e.c.b.f),some (e.c.a.a,true),1551,11⟩,⟨some e.c.c.b,.loadN 2 (t e.c.c.a),some (e.c.a.a,true),3599,12⟩,⟨some e.c.c.c,.call (t e.c.a.b) [t e.c.b.b,t e.c.c.b],some (e.c.a.a,true),8191,13⟩,⟨some e.c.c.f,.bin .num .lss (t e.c.c.c) (k 0),some (e.c.a.a,true),16383,14⟩,O e.c.f.a (.pick (t e.c.a.a) (t e.c.c.f) kf) 32767 15]).seq (NC.cond (t e.c.f.a) NC.skip (NC.exit 4))).seq (NC.block 5 (reg [m e.c.f.b e.b.f 0,b e.c.f.c .sub (t e.c.f.b) (k 1) 1,m e.b.f e.c.f.c 2])))
noncomputable def te:NC:=(((regD [m e.a.c.c e.b.c 0,m e.a.c.f e.b.f 1,O e.a.f.a (.bin .num .leq (t e.a.c.c) (t e.a.c.f)) 3 2,O e.a.f.b (.move (t e.a.f.a)) 7 3,⟨some e.a.f.c,.move (t e.f),some (e.a.f.b,true),15,4⟩,⟨some e.a.f.f,.move (t e),some (e.a.f.b,true),15,5⟩,⟨some e.b.a.a,.move (t e.a),some (e.a.f.b,true),15,6⟩,⟨some e.b.a.b,.indexSlc 2 (t e.a.f.f) (t e.b.a.a),some (e.a.f.b,true),111,7⟩,⟨some e.b.a.c,.loadN 2 (t e.b.a.b),some (e.a.f.b,true),239,8⟩,⟨some e.b.a.f,.move (t e),some (e.a.f.b,true),15,9⟩,⟨some e.b.b.a,.move (t e.b.c),some (e.a.f.b,true),15,10⟩,⟨some e.b.b.b,.indexSlc 2 (t e.b.a.f) (t e.b.b.a),some (e.a.f.b,true),1551,11⟩,⟨some e.b.b.c,.loadN 2 (t e.b.b.b),some (e.a.f.b,true),3599,12⟩,⟨some e.b.b.f,.call (t e.a.f.c) [t e.b.a.c,t e.b.b.c],some (e.a.f.b,true),8191,13⟩,⟨some e.b.c.a,.bin .num .lss (t e.b.b.f) (k 0),some (e.a.f.b,true),16383,14⟩,⟨some e.b.c.b,.un .not (t e.b.c.a),some (e.a.f.b,true),32767,15⟩,O e.b.c.c (.pick (t e.a.f.b) (t e.b.c.b) kf) 65535 16]).seq (NC.cond (t e.b.c.c) NC.skip (NC.exit 2))).seq (NC.block 3 (reg [m e.b.c.f e.b.c 0,b e.b.f.a .add (t e.b.c.f) (k 1) 1,m e.b.c e.b.f.a 2])))
noncomputable def tp:NC:=(NC.block 1 ((NC.block 2 te.loop).seq ((NC.block 4 tP.loop).seq (((reg [m e.c.f.f e.b.c 0,m e.f.a.a e.b.f 1,b e.f.a.b .gtr (t e.c.f.f) (t e.f.a.a) 2]).seq (NC.cond (t e.f.a.b) (NC.exit 0) NC.skip)).seq ((regD [m e.f.a.c e 0,m e.f.a.f e.b.c 1,m e.f.b.a e 2,m e.f.b.b e.b.f 3,m e.f.b.c e 4,m e.f.b.f e.b.f 5,O e.f.c.a (.indexSlc 2 (t e.f.b.c) (t e.f.b.f)) 48 6,O e.f.c.b (.loadN 2 (t e.f.c.a)) 112 7,m e.f.c.c e 8,m e.f.c.f e.b.c 9,O e.f.f.a (.indexSlc 2 (t e.f.c.c) (t e.f.c.f)) 768 10,O e.f.f.b (.loadN 2 (t e.f.f.a)) 1792 11,O e.f.f.c (.indexSlc 2 (t e.f.a.c) (t e.f.a.f)) 4083 12,⟨none,.store 2 (t e.f.f.c) (t e.f.c.b),none,8179,13⟩,O e.f.f.f (.indexSlc 2 (t e.f.b.a) (t e.f.b.b)) 16383 14,⟨none,.store 2 (t e.f.f.f) (t e.f.f.b),none,32767,15⟩]).seq ((reg [m e.a.a.a.a e.b.c 0,b e.a.a.a.b .add (t e.a.a.a.a) (k 1) 1,m e.b.c e.a.a.a.b 2]).seq (reg [m e.a.a.a.c e.b.f 0,b e.a.a.a.f .sub (t e.a.a.a.c) (k 1) 1,m e.b.f e.a.a.a.f 2])))))))
noncomputable def vR:NFun:=⟨(reg [o e.b.b (.move (k 0)) 0]).seq ((regD [m e.c.a e 0,m e.c.b e.a 1,m e.c.c e 2,m e.c.f e.c 3,m e.f.a e 4,m e.f.b e.c 5,O e.f.c (.indexSlc 2 (t e.f.a) (t e.f.b)) 48 6,O e.f.f (.loadN 2 (t e.f.c)) 112 7,m e.a.a.a e 8,m e.a.a.b e.a 9,O e.a.a.c (.indexSlc 2 (t e.a.a.a) (t e.a.a.b)) 768 10,O e.a.a.f (.loadN 2 (t e.a.a.c)) 1792 11,O e.a.b.a (.indexSlc 2 (t e.c.a) (t e.c.b)) 4083 12,⟨none,.store 2 (t e.a.b.a) (t e.f.f),none,8179,13⟩,O e.a.b.b (.indexSlc 2 (t e.c.c) (t e.c.f)) 16383 14,⟨none,.store 2 (t e.a.b.b) (t e.a.a.f),none,32767,15⟩]).seq ((reg [m e.a.b.c e.a 0,b e.a.b.f .add (t e.a.b.c) (k 1) 1,m e.a.c.a e.b 2,b e.a.c.b .sub (t e.a.c.a) (k 1) 3,m e.b.c e.a.b.f 4,m e.b.f e.a.c.b 5]).seq ((NC.block 0 tp.loop).seq ((reg [m e.a.a.b.a e.b.c 0,m e.b.b e.a.a.b.a 1]).seq NC.ret)))),90, [.tmp e.b.b]⟩
theorem ur:an Try.prog 37=some (.code vR):=by kernel_rfl
noncomputable def uB:NC:=(((regD [m e.a.c.f e.b.f 0,m e.a.f.a e.c.a 1,O e.a.f.b (.bin .num .leq (t e.a.c.f) (t e.a.f.a)) 3 2,O e.a.f.c (.move (t e.a.f.b)) 7 3,⟨some e.a.f.f,.move (t e.f),some (e.a.f.c,true),15,4⟩,⟨some e.b.a.a,.move (t e),some (e.a.f.c,true),15,5⟩,⟨some e.b.a.b,.move (t e.b.f),some (e.a.f.c,true),15,6⟩,⟨some e.b.a.c,.indexSlc 2 (t e.b.a.a) (t e.b.a.b),some (e.a.f.c,true),111,7⟩,⟨some e.b.a.f,.loadN 2 (t e.b.a.c),some (e.a.f.c,true),239,8⟩,⟨some e.b.b.a,.move (t e),some (e.a.f.c,true),15,9⟩,⟨some e.b.b.b,.move (t e.a),some (e.a.f.c,true),15,10⟩,⟨some e.b.b.c,.indexSlc 2 (t e.b.b.a) (t e.b.b.b),some (e.a.f.c,true),1551,11⟩,⟨some e.b.b.f,.loadN 2 (t e.b.b.c),some (e.a.f.c,true),3599,12⟩,⟨some e.b.c.a,.call (t e.a.f.f) [t e.b.a.f,t e.b.b.f],some (e.a.f.c,true),8191,13⟩,⟨some e.b.c.b,.bin .num .lss (t e.b.c.a) (k 0),some (e.a.f.c,true),16383,14⟩,O e.b.c.c (.pick (t e.a.f.c) (t e.b.c.b) kf) 32767 15]).seq (NC.cond (t e.b.c.c) NC.skip (NC.exit 0))).seq (NC.block 1 (reg [m e.b.c.f e.b.f 0,b e.b.f.a .add (t e.b.c.f) (k 1) 1,m e.b.f e.b.f.a 2])))
noncomputable def sT:NC:=(((regD [m e.b.f.b e.b.f 0,m e.b.f.c e.c.a 1,O e.b.f.f (.bin .num .leq (t e.b.f.b) (t e.b.f.c)) 3 2,O e.c.a.a (.move (t e.b.f.f)) 7 3,⟨some e.c.a.b,.move (t e.f),some (e.c.a.a,true),15,4⟩,⟨some e.c.a.c,.move (t e),some (e.c.a.a,true),15,5⟩,⟨some e.c.a.f,.move (t e.c.a),some (e.c.a.a,true),15,6⟩,⟨some e.c.b.a,.indexSlc 2 (t e.c.a.c) (t e.c.a.f),some (e.c.a.a,true),111,7⟩,⟨some e.c.b.b,.loadN 2 (t e.c.b.a),some (e.c.a.a,true),239,8⟩,⟨some e.c.b.c,.move (t e),some (e.c.a.a,true),15,9⟩,⟨some e.c.b.f,.move (t e.a),some (e.c.a.a,true),15,10⟩,⟨some e.c.c.a,.indexSlc 2 (t e.c.b.c) (t e.c.b.f),some (e.c.a.a,true),1551,11⟩,⟨some e.c.c.b,.loadN 2 (t e.c.c.a),some (e.c.a.a,true),3599,12⟩,⟨some e.c.c.c,.call (t e.c.a.b) [t e.c.b.b,t e.c.c.b],some (e.c.a.a,true),8191,13⟩,⟨some e.c.c.f,.bin .num .lss (t e.c.c.c) (k 0),some (e.c.a.a,true),16383,14⟩,⟨some e.c.f.a,.un .not (t e.c.c.f),some (e.c.a.a,true),32767,15⟩,O e.c.f.b (.pick (t e.c.a.a) (t e.c.f.a) kf) 65535 16]).seq (NC.cond (t e.c.f.b) NC.skip (NC.exit 2))).seq (NC.block 3 (reg [m e.c.f.c e.c.a 0,b e.c.f.f .sub (t e.c.f.c) (k 1) 1,m e.c.a e.c.f.f 2])))
noncomputable def rS:NC:=(((regD [m e.a.b.b.a e.b.f 0,m e.a.b.b.b e.c.a 1,O e.a.b.b.c (.bin .num .leq (t e.a.b.b.a) (t e.a.b.b.b)) 3 2,O e.a.b.b.f (.move (t e.a.b.b.c)) 7 3,⟨some e.a.b.c.a,.move (t e.f),some (e.a.b.b.f,true),15,4⟩,⟨some e.a.b.c.b,.move (t e),some (e.a.b.b.f,true),15,5⟩,⟨some e.a.b.c.c,.move (t e.b.f),some (e.a.b.b.f,true),15,6⟩,⟨some e.a.b.c.f,.indexSlc 2 (t e.a.b.c.b) (t e.a.b.c.c),some (e.a.b.b.f,true),111,7⟩,⟨some e.a.b.f.a,.loadN 2 (t e.a.b.c.f),some (e.a.b.b.f,true),239,8⟩,⟨some e.a.b.f.b,.move (t e),some (e.a.b.b.f,true),15,9⟩,⟨some e.a.b.f.c,.move (t e.a),some (e.a.b.b.f,true),15,10⟩,⟨some e.a.b.f.f,.indexSlc 2 (t e.a.b.f.b) (t e.a.b.f.c),some (e.a.b.b.f,true),1551,11⟩,⟨some e.a.c.a.a,.loadN 2 (t e.a.b.f.f),some (e.a.b.b.f,true),3599,12⟩,⟨some e.a.c.a.b,.call (t e.a.b.c.a) [t e.a.b.f.a,t e.a.c.a.a],some (e.a.b.b.f,true),8191,13⟩,⟨some e.a.c.a.c,.bin .num .lss (t e.a.c.a.b) (k 0),some (e.a.b.b.f,true),16383,14⟩,O e.a.c.a.f (.pick (t e.a.b.b.f) (t e.a.c.a.c) kf) 32767 15]).seq (NC.cond (t e.a.c.a.f) NC.skip (NC.exit 6))).seq (NC.block 7 (reg [m e.a.c.b.a e.b.f 0,b e.a.c.b.b .add (t e.a.c.b.a) (k 1) 1,m e.b.f e.a.c.b.b 2])))
noncomputable def tK:NC:=(((regD [m e.a.c.b.c e.b.f 0,m e.a.c.b.f e.c.a 1,O e.a.c.c.a (.bin .num .leq (t e.a.c.b.c) (t e.a.c.b.f)) 3 2,O e.a.c.c.b (.move (t e.a.c.c.a)) 7 3,⟨some e.a.c.c.c,.move (t e.f),some (e.a.c.c.b,true),15,4⟩,⟨some e.a.c.c.f,.move (t e),some (e.a.c.c.b,true),15,5⟩,⟨some e.a.c.f.a,.move (t e.c.a),some (e.a.c.c.b,true),15,6⟩,⟨some e.a.c.f.b,.indexSlc 2 (t e.a.c.c.f) (t e.a.c.f.a),some (e.a.c.c.b,true),111,7⟩,⟨some e.a.c.f.c,.loadN 2 (t e.a.c.f.b),some (e.a.c.c.b,true),239,8⟩,⟨some e.a.c.f.f,.move (t e),some (e.a.c.c.b,true),15,9⟩,⟨some e.a.f.a.a,.move (t e.a),some (e.a.c.c.b,true),15,10⟩,⟨some e.a.f.a.b,.indexSlc 2 (t e.a.c.f.f) (t e.a.f.a.a),some (e.a.c.c.b,true),1551,11⟩,⟨some e.a.f.a.c,.loadN 2 (t e.a.f.a.b),some (e.a.c.c.b,true),3599,12⟩,⟨some e.a.f.a.f,.call (t e.a.c.c.c) [t e.a.c.f.c,t e.a.f.a.c],some (e.a.c.c.b,true),8191,13⟩,⟨some e.a.f.b.a,.bin .num .lss (t e.a.f.a.f) (k 0),some (e.a.c.c.b,true),16383,14⟩,⟨some e.a.f.b.b,.un .not (t e.a.f.b.a),some (e.a.c.c.b,true),32767,15⟩,O e.a.f.b.c (.pick (t e.a.c.c.b) (t e.a.f.b.b) kf) 65535 16]).seq (NC.cond (t e.a.f.b.c) NC.skip (NC.exit 8))).seq (NC.block 9 (reg [m e.a.f.b.f e.c.a 0,b e.a.f.c.a .sub (t e.a.f.b.f) (k 1) 1,m e.c.a e.a.f.c.a 2])))
noncomputable def tF:NC:=(NC.block 5 ((NC.block 6 rS.loop).seq ((NC.block 8 tK.loop).seq (((reg [m e.a.f.c.b e.b.f 0,m e.a.f.c.c e.c.a 1,b e.a.f.c.f .gtr (t e.a.f.c.b) (t e.a.f.c.c) 2]).seq (NC.cond (t e.a.f.c.f) (NC.exit 4) NC.skip)).seq ((regD [m e.a.f.f.a e 0,m e.a.f.f.b e.b.f 1,m e.a.f.f.c e 2,m e.a.f.f.f e.c.a 3,m e.b.a.a.a e 4,m e.b.a.a.b e.c.a 5,O e.b.a.a.c (.indexSlc 2 (t e.b.a.a.a) (t e.b.a.a.b)) 48 6,O e.b.a.a.f (.loadN 2 (t e.b.a.a.c)) 112 7,m e.b.a.b.a e 8,m e.b.a.b.b e.b.f 9,O e.b.a.b.c (.indexSlc 2 (t e.b.a.b.a) (t e.b.a.b.b)) 768 10,O e.b.a.b.f (.loadN 2 (t e.b.a.b.c)) 1792 11,O e.b.a.c.a (.indexSlc 2 (t e.a.f.f.a) (t e.a.f.f.b)) 4083 12,⟨none,.store 2 (t e.b.a.c.a) (t e.b.a.a.f),none,8179,13⟩,O e.b.a.c.b (.indexSlc 2 (t e.a.f.f.c) (t e.a.f.f.f)) 16383 14,⟨none,.store 2 (t e.b.a.c.b) (t e.b.a.b.f),none,32767,15⟩]).seq ((reg [m e.b.a.c.c e.b.f 0,b e.b.a.c.f .add (t e.b.a.c.c) (k 1) 1,m e.b.f e.b.a.c.f 2]).seq (reg [m e.b.a.f.a e.c.a 0,b e.b.a.f.b .sub (t e.b.a.f.a) (k 1) 1,m e.c.a e.b.a.f.b 2])))))))
noncomputable def wF:NFun:=⟨(reg [o e.b.b (.move (k 0)) 0,o e.b.c (.move kf) 1]).seq ((regD [m e.c.b e 0,m e.c.c e.a 1,m e.c.f e 2,m e.f.a e.c 3,m e.f.b e 4,m e.f.c e.c 5,O e.f.f (.indexSlc 2 (t e.f.b) (t e.f.c)) 48 6,O e.a.a.a (.loadN 2 (t e.f.f)) 112 7,m e.a.a.b e 8,m e.a.a.c e.a 9,O e.a.a.f (.indexSlc 2 (t e.a.a.b) (t e.a.a.c)) 768 10,O e.a.b.a (.loadN 2 (t e.a.a.f)) 1792 11,O e.a.b.b (.indexSlc 2 (t e.c.b) (t e.c.c)) 4083 12,⟨none,.store 2 (t e.a.b.b) (t e.a.a.a),none,8179,13⟩,O e.a.b.c (.indexSlc 2 (t e.c.f) (t e.f.a)) 16383 14,⟨none,.store 2 (t e.a.b.c) (t e.a.b.a),none,32767,15⟩]).seq ((reg [m e.a.b.f e.a 0,b e.a.c.a .add (t e.a.b.f) (k 1) 1,m e.a.c.b e.b 2,b e.a.c.c .sub (t e.a.c.b) (k 1) 3,m e.b.f e.a.c.a 4,m e.c.a e.a.c.c 5]).seq ((NC.block 0 uB.loop).seq ((NC.block 2 sT.loop).seq (((reg [m e.f.a.a e.b.f 0,m e.f.a.b e.c.a 1,b e.f.a.c .gtr (t e.f.a.a) (t e.f.a.b) 2]).seq (NC.cond (t e.f.a.c) ((regD [m e.f.a.f e 0,m e.f.b.a e.c.a 1,m e.f.b.b e 2,m e.f.b.c e.a 3,m e.f.b.f e 4,m e.f.c.a e.a 5,O e.f.c.b (.indexSlc 2 (t e.f.b.f) (t e.f.c.a)) 48 6,O e.f.c.c (.loadN 2 (t e.f.c.b)) 112 7,m e.f.c.f e 8,m e.f.f.a e.c.a 9,O e.f.f.b (.indexSlc 2 (t e.f.c.f) (t e.f.f.a)) 768 10,O e.f.f.c (.loadN 2 (t e.f.f.b)) 1792 11,O e.f.f.f (.indexSlc 2 (t e.f.a.f) (t e.f.b.a)) 4083 12,⟨none,.store 2 (t e.f.f.f) (t e.f.c.c),none,8179,13⟩,O e.a.a.a.a (.indexSlc 2 (t e.f.b.b) (t e.f.b.c)) 16383 14,⟨none,.store 2 (t e.a.a.a.a) (t e.f.f.c),none,32767,15⟩]).seq ((reg [m e.a.a.a.b e.c.a 0,m e.b.b e.a.a.a.b 1,o e.b.c (.move kt) 2]).seq NC.ret)) NC.skip)).seq ((regD [m e.a.a.a.c e 0,m e.a.a.a.f e.b.f 1,m e.a.a.b.a e 2,m e.a.a.b.b e.c.a 3,m e.a.a.b.c e 4,m e.a.a.b.f e.c.a 5,O e.a.a.c.a (.indexSlc 2 (t e.a.a.b.c) (t e.a.a.b.f)) 48 6,O e.a.a.c.b (.loadN 2 (t e.a.a.c.a)) 112 7,m e.a.a.c.c e 8,m e.a.a.c.f e.b.f 9,O e.a.a.f.a (.indexSlc 2 (t e.a.a.c.c) (t e.a.a.c.f)) 768 10,O e.a.a.f.b (.loadN 2 (t e.a.a.f.a)) 1792 11,O e.a.a.f.c (.indexSlc 2 (t e.a.a.a.c) (t e.a.a.a.f)) 4083 12,⟨none,.store 2 (t e.a.a.f.c) (t e.a.a.c.b),none,8179,13⟩,O e.a.a.f.f (.indexSlc 2 (t e.a.a.b.a) (t e.a.a.b.b)) 16383 14,⟨none,.store 2 (t e.a.a.f.f) (t e.a.a.f.b),none,32767,15⟩]).seq ((reg [m e.a.b.a.a e.b.f 0,b e.a.b.a.b .add (t e.a.b.a.a) (k 1) 1,m e.b.f e.a.b.a.b 2]).seq ((reg [m e.a.b.a.c e.c.a 0,b e.a.b.a.f .sub (t e.a.b.a.c) (k 1) 1,m e.c.a e.a.b.a.f 2]).seq ((NC.block 4 tF.loop).seq ((regD [m e.b.a.f.c e 0,m e.b.a.f.f e.c.a 1,m e.b.b.a.a e 2,m e.b.b.a.b e.a 3,m e.b.b.a.c e 4,m e.b.b.a.f e.a 5,O e.b.b.b.a (.indexSlc 2 (t e.b.b.a.c) (t e.b.b.a.f)) 48 6,O e.b.b.b.b (.loadN 2 (t e.b.b.b.a)) 112 7,m e.b.b.b.c e 8,m e.b.b.b.f e.c.a 9,O e.b.b.c.a (.indexSlc 2 (t e.b.b.b.c) (t e.b.b.b.f)) 768 10,O e.b.b.c.b (.loadN 2 (t e.b.b.c.a)) 1792 11,O e.b.b.c.c (.indexSlc 2 (t e.b.a.f.c) (t e.b.a.f.f)) 4083 12,⟨none,.store 2 (t e.b.b.c.c) (t e.b.b.b.b),none,8179,13⟩,O e.b.b.c.f (.indexSlc 2 (t e.b.b.a.a) (t e.b.b.a.b)) 16383 14,⟨none,.store 2 (t e.b.b.c.f) (t e.b.b.c.b),none,32767,15⟩]).seq ((reg [m e.b.b.f.a e.c.a 0,m e.b.b e.b.b.f.a 1,o e.b.c (.move kf) 2]).seq NC.ret))))))))))),178, [.tmp e.b.b,.tmp e.b.c]⟩
theorem s6:an Try.prog 38=some (.code wF):=by kernel_rfl
noncomputable def w5:NFun:=⟨(reg [o e.b (.move (k 0)) 0]).seq (((reg [m e.c e 0,b e.f .geq (t e.c) (.const (.int .u32 (.lit 65536))) 1]).seq (NC.cond (t e.f) ((reg [m e.a.a e 0,b e.a.b .shr (t e.a.a) (ku 16) 1,m e e.a.b 2]).seq (reg [o e.b (.move (k 16)) 0])) NC.skip)).seq (((reg [m e.a.c e 0,b e.a.f .geq (t e.a.c) (.const (.int .u32 (.lit 256))) 1]).seq (NC.cond (t e.a.f) ((reg [m e.b.a e 0,b e.b.b .shr (t e.b.a) (ku 8) 1,m e e.b.b 2]).seq (reg [m e.b.c e.b 0,b e.b.f .add (t e.b.c) (k 8) 1,m e.b e.b.f 2])) NC.skip)).seq ((reg [m e.c.a e.b 0,m e.c.b e 1,o e.c.c (.toInt .u8 (t e.c.b)) 2,o e.c.f (.indexStr (.const (.str [0,1,2,2,3,3,3,3,4,4,4,4,4,4,4,4,5,5,5,5,5,5,5,5,5,5,5,5,5,5,5,5,6,6,6,6,6,6,6,6,6,6,6,6,6,6,6,6,6,6,6,6,6,6,6,6,6,6,6,6,6,6,6,6,7,7,7,7,7,7,7,7,7,7,7,7,7,7,7,7,7,7,7,7,7,7,7,7,7,7,7,7,7,7,7,7,7,7,7,7,7,7,7,7,7,7,7,7,7,7,7,7,7,7,7,7,7,7,7,7,7,7,7,7,7,7,7,7,8,8,8,8,8,8,8,8,8,8,8,8,8,8,8,8,8,8,8,8,8,8,8,8,8,8,8,8,8,8,8,8,8,8,8,8,8,8,8,8,8,8,8,8,8,8,8,8,8,8,8,8,8,8,8,8,8,8,8,8,8,8,8,8,8,8,8,8,8,8,8,8,8,8,8,8,8,8,8,8,8,8,8,8,8,8,8,8,8,8,8,8,8,8,8,8,8,8,8,8,8,8,8,8,8,8,8,8,8,8,8,8,8,8,8,8,8,8,8,8,8,8,8,8,8,8,8,8])) (t e.c.c)) 3,o e.f.a (.toInt .i64 (t e.c.f)) 4,b e.f.b .add (t e.c.a) (t e.f.a) 5,m e.b e.f.b 6]).seq NC.ret))),19, [.tmp e.b]⟩
theorem uw:an Try.prog 39=some (.code w5):=by kernel_rfl
noncomputable def wW:NFun:=⟨(reg [o e.b (.move (k 0)) 0]).seq (((reg [m e.c e 0,b e.f .geq (t e.c) (ku 4294967296) 1]).seq (NC.cond (t e.f) ((reg [m e.a.a e 0,b e.a.b .shr (t e.a.a) (ku 32) 1,m e e.a.b 2]).seq (reg [o e.b (.move (k 32)) 0])) NC.skip)).seq (((reg [m e.a.c e 0,b e.a.f .geq (t e.a.c) (ku 65536) 1]).seq (NC.cond (t e.a.f) ((reg [m e.b.a e 0,b e.b.b .shr (t e.b.a) (ku 16) 1,m e e.b.b 2]).seq (reg [m e.b.c e.b 0,b e.b.f .add (t e.b.c) (k 16) 1,m e.b e.b.f 2])) NC.skip)).seq (((reg [m e.c.a e 0,b e.c.b .geq (t e.c.a) (ku 256) 1]).seq (NC.cond (t e.c.b) ((reg [m e.c.c e 0,b e.c.f .shr (t e.c.c) (ku 8) 1,m e e.c.f 2]).seq (reg [m e.f.a e.b 0,b e.f.b .add (t e.f.a) (k 8) 1,m e.b e.f.b 2])) NC.skip)).seq ((reg [m e.f.c e.b 0,m e.f.f e 1,o e.a.a.a (.toInt .u8 (t e.f.f)) 2,o e.a.a.b (.indexStr (.const (.str [0,1,2,2,3,3,3,3,4,4,4,4,4,4,4,4,5,5,5,5,5,5,5,5,5,5,5,5,5,5,5,5,6,6,6,6,6,6,6,6,6,6,6,6,6,6,6,6,6,6,6,6,6,6,6,6,6,6,6,6,6,6,6,6,7,7,7,7,7,7,7,7,7,7,7,7,7,7,7,7,7,7,7,7,7,7,7,7,7,7,7,7,7,7,7,7,7,7,7,7,7,7,7,7,7,7,7,7,7,7,7,7,7,7,7,7,7,7,7,7,7,7,7,7,7,7,7,7,8,8,8,8,8,8,8,8,8,8,8,8,8,8,8,8,8,8,8,8,8,8,8,8,8,8,8,8,8,8,8,8,8,8,8,8,8,8,8,8,8,8,8,8,8,8,8,8,8,8,8,8,8,8,8,8,8,8,8,8,8,8,8,8,8,8,8,8,8,8,8,8,8,8,8,8,8,8,8,8,8,8,8,8,8,8,8,8,8,8,8,8,8,8,8,8,8,8,8,8,8,8,8,8,8,8,8,8,8,8,8,8,8,8,8,8,8,8,8,8,8,8,8,8,8,8,8,8])) (t e.a.a.a)) 3,o e.a.a.c (.toInt .i64 (t e.a.a.b)) 4,b e.a.a.f .add (t e.f.c) (t e.a.a.c) 5,m e.b e.a.a.f 6]).seq NC.ret)))),25, [.tmp e.b]⟩
theorem ue:an Try.prog 40=some (.code wW):=by kernel_rfl
noncomputable def ud:NC:=(reg [m e.a.a e.a.c 0])
noncomputable def tn:NC:=(NC.block 1 (reg [l e.a.f e.b 0,m e.b.a e.a.a 1,o e.b.b (.buildSlice [.int .i64 (.lit 0)] 1 1 3 [(0,1,t e.b.a)]) 2,o e.b.c (.append 1 8 3 (t e.a.f) (t e.b.b)) 3,q (.store 1 (t e.b) (t e.b.c)) 4]))
noncomputable def xr:NFun:=⟨(reg [o e.b (.box (t e) 27) 0,o e.f (.move kn) 1]).seq (((reg [m e.a.b e.a 0]).seq (NC.block 0 (NC.rangeFunc (t e.a.b) [e.a.c] ud tn))).seq ((reg [l e.b.f e.b 0,m e.f e.b.f 1]).seq NC.ret)),13, [.tmp e.f]⟩
theorem sE:an Try.prog 41=some (.code xr):=by kernel_rfl
noncomputable def tl:NC:=(NC.block 1 ((reg [m e.f.c e.b 0,m e.f.f e.a 1,b e.a.a.a .sub (t e.f.c) (t e.f.f) 2,m e.b.b e.a.a.a 3]).seq (((reg [m e.a.a.b e.b.b 0,b e.a.a.c .leq (t e.a.a.b) (k 12) 1]).seq (NC.cond (t e.a.a.c) ((reg [m e.a.a.f e 0,m e.a.b.a e.a 1,m e.a.b.b e.b 2,o e.a.b.c (.call (F 48) [t e.a.a.f,t e.a.b.a,t e.a.b.b]) 3]).seq NC.ret) NC.skip)).seq (((reg [m e.a.b.f e.c 0,b e.a.c.a .eql (t e.a.b.f) (k 0) 1]).seq (NC.cond (t e.a.c.a) ((reg [m e.a.c.b e 0,m e.a.c.c e.a 1,m e.a.c.f e.b 2,o e.a.f.a (.call (F 49) [t e.a.c.b,t e.a.c.c,t e.a.c.f]) 3]).seq NC.ret) NC.skip)).seq (((reg [m e.a.f.b e.a.f 0,o e.a.f.c (.un .not (t e.a.f.b)) 1]).seq (NC.cond (t e.a.f.c) ((reg [m e.a.f.f e 0,m e.b.a.a e.a 1,m e.b.a.b e.b 2,o e.b.a.c (.call (F 50) [t e.a.f.f,t e.b.a.a,t e.b.a.b]) 3]).seq (reg [m e.b.a.f e.c 0,b e.b.b.a .sub (t e.b.a.f) (k 1) 1,m e.c e.b.b.a 2])) NC.skip)).seq ((reg [m e.b.b.c e 0,m e.b.b.f e.a 1,m e.b.c.a e.b 2,o e.b.c.b (.call (F 51) [t e.b.b.c,t e.b.b.f,t e.b.c.a]) 3,m e.b.b.b e.b.c.b 4,x e.b.c.c e.b.b.b 0 5,x e.b.c.f e.b.b.b 1 6,m e.b.c e.b.c.c 7,m e.b.f e.b.c.f 8]).seq (((reg [m e.b.f.a e.b.f 0,b e.b.f.b .eql (t e.b.f.a) (k 2) 1]).seq (NC.cond (t e.b.f.b) ((reg [m e.b.f.c e 0,m e.b.f.f e.a 1,m e.c.a.a e.b 2,o e.c.a.b (.call (F 52) [t e.b.f.c,t e.b.f.f,t e.c.a.a]) 3]).seq ((reg [m e.c.a.c e.b 0,b e.c.a.f .sub (t e.c.a.c) (k 1) 1,m e.c.b.a e.b.c 2,m e.c.b.b e.a 3,b e.c.b.c .sub (t e.c.b.a) (t e.c.b.b) 4,b e.c.b.f .sub (t e.c.a.f) (t e.c.b.c) 5,m e.b.c e.c.b.f 6]).seq (reg [o e.b.f (.move (k 1)) 0]))) NC.skip)).seq (((reg [m e.c.c.a e.a.f 0,m e.c.c.b e.c.c.a 1,G e.c.c.c (.move (t e.b.a)) e.c.c.b true 2,o e.c.c.f (.pick (t e.c.c.b) (t e.c.c.c) kf) 3,m e.c.f.a e.c.c.f 4,G e.c.f.b (.move (t e.b.f)) e.c.f.a true 5,G e.c.f.c (.bin .num .eql (t e.c.f.b) (k 1)) e.c.f.a true 6,o e.c.f.f (.pick (t e.c.f.a) (t e.c.f.c) kf) 7]).seq (NC.cond (t e.c.f.f) ((reg [m e.f.a.a e 0,m e.f.a.b e.a 1,m e.f.a.c e.b 2,o e.f.a.f (.call (F 53) [t e.f.a.a,t e.f.a.b,t e.f.a.c]) 3]).seq (NC.cond (t e.f.a.f) NC.ret NC.skip)) NC.skip)).seq (((regD [m e.f.b.a e.a 0,O e.f.b.b (.bin .num .gtr (t e.f.b.a) (k 0)) 1 1,O e.f.b.c (.move (t e.f.b.b)) 3 2,⟨some e.f.b.f,.move (t e),some (e.f.b.c,true),7,3⟩,⟨some e.f.c.a,.move (t e.a),some (e.f.b.c,true),7,4⟩,⟨some e.f.c.b,.bin .num .sub (t e.f.c.a) (k 1),some (e.f.b.c,true),23,5⟩,⟨some e.f.c.c,.indexSlc 1 (t e.f.b.f) (t e.f.c.b),some (e.f.b.c,true),63,6⟩,⟨some e.f.c.f,.load1 (t e.f.c.c),some (e.f.b.c,true),127,7⟩,⟨some e.f.f.a,.move (t e),some (e.f.b.c,true),7,8⟩,⟨some e.f.f.b,.move (t e.b.c),some (e.f.b.c,true),7,9⟩,⟨some e.f.f.c,.indexSlc 1 (t e.f.f.a) (t e.f.f.b),some (e.f.b.c,true),775,10⟩,⟨some e.f.f.f,.load1 (t e.f.f.c),some (e.f.b.c,true),1799,11⟩,⟨some e.a.a.a.a,.call (F 54) [t e.f.c.f,t e.f.f.f],some (e.f.b.c,true),4095,12⟩,⟨some e.a.a.a.b,.un .not (t e.a.a.a.a),some (e.f.b.c,true),8191,13⟩,O e.a.a.a.c (.pick (t e.f.b.c) (t e.a.a.a.b) kf) 16383 14]).seq (NC.cond (t e.a.a.a.c) ((reg [m e.a.a.a.f e 0,m e.a.a.b.a e.a 1,m e.a.a.b.b e.b 2,m e.a.a.b.c e.b.c 3,o e.a.a.b.f (.call (F 55) [t e.a.a.a.f,t e.a.a.b.a,t e.a.a.b.b,t e.a.a.b.c]) 4,m e.c.a e.a.a.b.f 5]).seq ((reg [m e.a.a.c.a e.c.a 0,m e.a e.a.a.c.a 1]).seq (NC.exit 1))) NC.skip)).seq ((reg [m e.a.a.c.c e 0,m e.a.a.c.f e.a 1,m e.a.a.f.a e.b 2,m e.a.a.f.b e.b.c 3,o e.a.a.f.c (.call (F 56) [t e.a.a.c.c,t e.a.a.c.f,t e.a.a.f.a,t e.a.a.f.b]) 4,m e.a.a.c.b e.a.a.f.c 5,x e.a.a.f.f e.a.a.c.b 0 6,x e.a.b.a.a e.a.a.c.b 1 7,m e.c.b e.a.a.f.f 8,m e.c.c e.a.b.a.a 9]).seq ((reg [m e.a.b.a.b e.c.c 0,m e.b.a e.a.b.a.b 1]).seq ((reg [m e.a.b.a.c e.c.b 0,m e.a.b.a.f e.a 1,b e.a.b.b.a .sub (t e.a.b.a.c) (t e.a.b.a.f) 2,m e.a.b.b.b e.b 3,m e.a.b.b.c e.c.b 4,b e.a.b.b.f .sub (t e.a.b.b.b) (t e.a.b.b.c) 5,m e.c.f e.a.b.b.a 6,m e.f.a e.a.b.b.f 7]).seq ((reg [m e.a.b.c.a e.b.b 0,b e.a.b.c.b .quo (t e.a.b.c.a) (k 8) 1,m e.f.b e.a.b.c.b 2]).seq ((reg [m e.a.b.c.c e.c.f 0,m e.a.b.c.f e.f.a 1,b e.a.b.f.a .lss (t e.a.b.c.c) (t e.a.b.c.f) 2]).seq (NC.cond (t e.a.b.f.a) ((reg [m e.a.b.f.b e.c.f 0,m e.a.b.f.c e.f.b 1,b e.a.b.f.f .geq (t e.a.b.f.b) (t e.a.b.f.c) 2,m e.a.f e.a.b.f.f 3]).seq ((reg [m e.a.c.a.a e 0,m e.a.c.a.b e.a 1,m e.a.c.a.c e.c.b 2,m e.a.c.a.f e.c 3,o e.a.c.b.a (.call (F 42) [t e.a.c.a.a,t e.a.c.a.b,t e.a.c.a.c,t e.a.c.a.f]) 4]).seq (reg [m e.a.c.b.b e.c.b 0,b e.a.c.b.c .add (t e.a.c.b.b) (k 1) 1,m e.a e.a.c.b.c 2]))) ((reg [m e.a.c.b.f e.f.a 0,m e.a.c.c.a e.f.b 1,b e.a.c.c.b .geq (t e.a.c.b.f) (t e.a.c.c.a) 2,m e.a.f e.a.c.c.b 3]).seq ((reg [m e.a.c.c.c e 0,m e.a.c.c.f e.c.b 1,b e.a.c.f.a .add (t e.a.c.c.f) (k 1) 2,m e.a.c.f.b e.b 3,m e.a.c.f.c e.c 4,o e.a.c.f.f (.call (F 42) [t e.a.c.c.c,t e.a.c.f.a,t e.a.c.f.b,t e.a.c.f.c]) 5]).seq (reg [m e.a.f.a.a e.c.b 0,m e.b e.a.f.a.a 1]))))))))))))))))))
noncomputable def wS:NFun:=⟨(reg [o e.a.f (.move kt) 0]).seq ((reg [o e.b.a (.move kt) 0]).seq (NC.block 0 tl.loop)),134, []⟩
theorem rR:an Try.prog 42=some (.code wS):=by kernel_rfl
noncomputable def sn:NC:=(NC.block 1 ((reg [m e.c.a e.b.b 0,b e.c.b .mul (k 2) (t e.c.a) 1,b e.c.c .add (t e.c.b) (k 1) 2,m e.b.c e.c.c 3]).seq (((reg [m e.c.f e.b.c 0,m e.f.a e.b 1,b e.f.b .geq (t e.c.f) (t e.f.a) 2]).seq (NC.cond (t e.f.b) (NC.exit 0) NC.skip)).seq (((regD [m e.f.c e.b.c 0,O e.f.f (.bin .num .add (t e.f.c) (k 1)) 1 1,m e.a.a.a e.b 2,O e.a.a.b (.bin .num .lss (t e.f.f) (t e.a.a.a)) 7 3,O e.a.a.c (.move (t e.a.a.b)) 15 4,⟨some e.a.a.f,.move (t e.f),some (e.a.a.c,true),31,5⟩,⟨some e.a.b.a,.move (t e),some (e.a.a.c,true),31,6⟩,⟨some e.a.b.b,.move (t e.c),some (e.a.a.c,true),31,7⟩,⟨some e.a.b.c,.move (t e.b.c),some (e.a.a.c,true),31,8⟩,⟨some e.a.b.f,.bin .num .add (t e.a.b.b) (t e.a.b.c),some (e.a.a.c,true),415,9⟩,⟨some e.a.c.a,.indexSlc 2 (t e.a.b.a) (t e.a.b.f),some (e.a.a.c,true),991,10⟩,⟨some e.a.c.b,.loadN 2 (t e.a.c.a),some (e.a.a.c,true),2015,11⟩,⟨some e.a.c.c,.move (t e),some (e.a.a.c,true),31,12⟩,⟨some e.a.c.f,.move (t e.c),some (e.a.a.c,true),31,13⟩,⟨some e.a.f.a,.move (t e.b.c),some (e.a.a.c,true),31,14⟩,⟨some e.a.f.b,.bin .num .add (t e.a.c.f) (t e.a.f.a),some (e.a.a.c,true),24607,15⟩,⟨some e.a.f.c,.bin .num .add (t e.a.f.b) (k 1),some (e.a.a.c,true),57375,16⟩,⟨some e.a.f.f,.indexSlc 2 (t e.a.c.c) (t e.a.f.c),some (e.a.a.c,true),127007,17⟩,⟨some e.b.a.a,.loadN 2 (t e.a.f.f),some (e.a.a.c,true),258079,18⟩,⟨some e.b.a.b,.call (t e.a.a.f) [t e.a.c.b,t e.b.a.a],some (e.a.a.c,true),524287,19⟩,⟨some e.b.a.c,.bin .num .lss (t e.b.a.b) (k 0),some (e.a.a.c,true),1048575,20⟩,O e.b.a.f (.pick (t e.a.a.c) (t e.b.a.c) kf) 2097151 21]).seq (NC.cond (t e.b.a.f) (reg [m e.b.b.a e.b.c 0,b e.b.b.b .add (t e.b.b.a) (k 1) 1,m e.b.c e.b.b.b 2]) NC.skip)).seq (((regD [m e.b.b.c e.f 0,m e.b.b.f e 1,m e.b.c.a e.c 2,m e.b.c.b e.b.b 3,O e.b.c.c (.bin .num .add (t e.b.c.a) (t e.b.c.b)) 12 4,O e.b.c.f (.indexSlc 2 (t e.b.b.f) (t e.b.c.c)) 30 5,O e.b.f.a (.loadN 2 (t e.b.c.f)) 62 6,m e.b.f.b e 7,m e.b.f.c e.c 8,m e.b.f.f e.b.c 9,O e.c.a.a (.bin .num .add (t e.b.f.c) (t e.b.f.f)) 768 10,O e.c.a.b (.indexSlc 2 (t e.b.f.b) (t e.c.a.a)) 1920 11,O e.c.a.c (.loadN 2 (t e.c.a.b)) 3968 12,O e.c.a.f (.call (t e.b.b.c) [t e.b.f.a,t e.c.a.c]) 8191 13,O e.c.b.a (.bin .num .lss (t e.c.a.f) (k 0)) 16383 14,O e.c.b.b (.un .not (t e.c.b.a)) 32767 15]).seq (NC.cond (t e.c.b.b) NC.ret NC.skip)).seq ((regD [m e.c.b.c e 0,m e.c.b.f e.c 1,m e.c.c.a e.b.b 2,O e.c.c.b (.bin .num .add (t e.c.b.f) (t e.c.c.a)) 6 3,m e.c.c.c e 4,m e.c.c.f e.c 5,m e.c.f.a e.b.c 6,O e.c.f.b (.bin .num .add (t e.c.c.f) (t e.c.f.a)) 96 7,m e.c.f.c e 8,m e.c.f.f e.c 9,m e.f.a.a e.b.c 10,O e.f.a.b (.bin .num .add (t e.c.f.f) (t e.f.a.a)) 1536 11,O e.f.a.c (.indexSlc 2 (t e.c.f.c) (t e.f.a.b)) 3840 12,O e.f.a.f (.loadN 2 (t e.f.a.c)) 7936 13,m e.f.b.a e 14,m e.f.b.b e.c 15,m e.f.b.c e.b.b 16,O e.f.b.f (.bin .num .add (t e.f.b.b) (t e.f.b.c)) 98304 17,O e.f.c.a (.indexSlc 2 (t e.f.b.a) (t e.f.b.f)) 245760 18,O e.f.c.b (.loadN 2 (t e.f.c.a)) 507904 19,O e.f.c.c (.indexSlc 2 (t e.c.b.c) (t e.c.c.b)) 1048335 20,⟨none,.store 2 (t e.f.c.c) (t e.f.a.f),none,2096911,21⟩,O e.f.c.f (.indexSlc 2 (t e.c.c.c) (t e.c.f.b)) 4194303 22,⟨none,.store 2 (t e.f.c.f) (t e.f.c.b),none,8388607,23⟩]).seq (reg [m e.f.f.a e.b.c 0,m e.b.b e.f.f.a 1])))))))
noncomputable def vZ:NFun:=⟨(reg [m e.b.f e.a 0,m e.b.b e.b.f 1]).seq (NC.block 0 sn.loop),82, []⟩
theorem tV:an Try.prog 43=some (.code vZ):=by kernel_rfl
noncomputable def wI:NFun:=⟨(reg [o e.b (.move (ku 0)) 0]).seq ((reg [m e.c e 0,o e.f (.toInt .u64 (t e.c)) 1,o e.a.a (.call (F 25) [t e.f]) 2,b e.a.b .shl (ku 1) (t e.a.a) 3,m e.b e.a.b 4]).seq NC.ret),7, [.tmp e.b]⟩
theorem sK:an Try.prog 44=some (.code wI):=by kernel_rfl
noncomputable def wd:NFun:=⟨(reg [o e.b (.move (ku 0)) 0]).seq ((regD [m e.c e 0,O e.f (.nilCheck (t e.c)) 1 1,O e.a.a (.load1 (t e.f)) 3 2,m e.a.b e 3,O e.a.c (.nilCheck (t e.a.b)) 8 4,O e.a.f (.load1 (t e.a.c)) 24 5,O e.b.a (.bin .num .shl (t e.a.f) (ku 13)) 56 6,O e.b.b (.bin .num .xor (t e.a.a) (t e.b.a)) 127 7,O e.b.c (.nilCheck (t e.c)) 255 8,⟨none,.store 1 (t e.b.c) (t e.b.b),none,511,9⟩]).seq ((regD [m e.b.f e 0,O e.c.a (.nilCheck (t e.b.f)) 1 1,O e.c.b (.load1 (t e.c.a)) 3 2,m e.c.c e 3,O e.c.f (.nilCheck (t e.c.c)) 8 4,O e.f.a (.load1 (t e.c.f)) 24 5,O e.f.b (.bin .num .shr (t e.f.a) (ku 7)) 56 6,O e.f.c (.bin .num .xor (t e.c.b) (t e.f.b)) 127 7,O e.f.f (.nilCheck (t e.b.f)) 255 8,⟨none,.store 1 (t e.f.f) (t e.f.c),none,511,9⟩]).seq ((regD [m e.a.a.a e 0,O e.a.a.b (.nilCheck (t e.a.a.a)) 1 1,O e.a.a.c (.load1 (t e.a.a.b)) 3 2,m e.a.a.f e 3,O e.a.b.a (.nilCheck (t e.a.a.f)) 8 4,O e.a.b.b (.load1 (t e.a.b.a)) 24 5,O e.a.b.c (.bin .num .shl (t e.a.b.b) (ku 17)) 56 6,O e.a.b.f (.bin .num .xor (t e.a.a.c) (t e.a.b.c)) 127 7,O e.a.c.a (.nilCheck (t e.a.a.a)) 255 8,⟨none,.store 1 (t e.a.c.a) (t e.a.b.f),none,511,9⟩]).seq ((reg [m e.a.c.b e 0,n e.a.c.c e.a.c.b 1,l e.a.c.f e.a.c.c 2,m e.b e.a.c.f 3]).seq NC.ret)))),33, [.tmp e.b]⟩
theorem tG:an Try.prog 45=some (.code wd):=by kernel_rfl
noncomputable def w7:NFun:=⟨(reg [o e.a.f (.move (k 0)) 0]).seq ((reg [m e.b.a e 0,m e.b.b e.a 1,b e.b.c .sub (t e.b.b) (k 1) 2,m e.b.f e.a 3,m e.c.a e.a 4,b e.c.b .add (t e.c.a) (k 1) 5,m e.c.c e.b 6,m e.c.f e.c 7,o e.f.a (.call (F 47) [t e.b.a,t e.b.c,t e.b.f,t e.c.b,t e.c.c,t e.c.f]) 8,m e.a.f e.f.a 9]).seq NC.ret),18, [.tmp e.a.f]⟩
theorem sv:an Try.prog 46=some (.code w7):=by kernel_rfl
noncomputable def w6:NFun:=⟨(reg [o e.b.f (.move (k 0)) 0]).seq ((reg [m e.c.b e 0,m e.c.c e.a 1,m e.c.f e.b 2,m e.f.a e.f 3,m e.f.b e.a.a 4,o e.f.c (.call (F 57) [t e.c.b,t e.c.c,t e.c.f,t e.f.a,t e.f.b]) 5,m e.c.a e.f.c 6,x e.f.f e.c.a 0 7,x e.a.a.a e.c.a 1 8,m e.a e.f.f 9,m e.b e.a.a.a 10]).seq ((reg [m e.a.a.c e 0,m e.a.a.f e.b 1,m e.a.b.a e.c 2,m e.a.b.b e.f 3,m e.a.b.c e.a.a 4,o e.a.b.f (.call (F 57) [t e.a.a.c,t e.a.a.f,t e.a.b.a,t e.a.b.b,t e.a.b.c]) 5,m e.a.a.b e.a.b.f 6,x e.a.c.a e.a.a.b 0 7,x e.a.c.b e.a.a.b 1 8,m e.b e.a.c.a 9,m e.c e.a.c.b 10]).seq ((reg [m e.a.c.f e 0,m e.a.f.a e.a 1,m e.a.f.b e.b 2,m e.a.f.c e.f 3,m e.a.f.f e.a.a 4,o e.b.a.a (.call (F 57) [t e.a.c.f,t e.a.f.a,t e.a.f.b,t e.a.f.c,t e.a.f.f]) 5,m e.a.c.c e.b.a.a 6,x e.b.a.b e.a.c.c 0 7,x e.b.a.c e.a.c.c 1 8,m e.a e.b.a.b 9,m e.b e.b.a.c 10]).seq ((reg [m e.b.a.f e.b 0,m e.b.f e.b.a.f 1]).seq NC.ret)))),41, [.tmp e.b.f]⟩
theorem uz:an Try.prog 47=some (.code w6):=by kernel_rfl
noncomputable def tL:NC:=(((regD [m e.c.f e.a.c 0,m e.f.a e.a 1,O e.f.b (.bin .num .gtr (t e.c.f) (t e.f.a)) 3 2,O e.f.c (.move (t e.f.b)) 7 3,⟨some e.f.f,.move (t e),some (e.f.c,true),15,4⟩,⟨some e.a.a.a,.move (t e.a.c),some (e.f.c,true),15,5⟩,⟨some e.a.a.b,.indexSlc 1 (t e.f.f) (t e.a.a.a),some (e.f.c,true),63,6⟩,⟨some e.a.a.c,.load1 (t e.a.a.b),some (e.f.c,true),127,7⟩,⟨some e.a.a.f,.move (t e),some (e.f.c,true),15,8⟩,⟨some e.a.b.a,.move (t e.a.c),some (e.f.c,true),15,9⟩,⟨some e.a.b.b,.bin .num .sub (t e.a.b.a) (k 1),some (e.f.c,true),527,10⟩,⟨some e.a.b.c,.indexSlc 1 (t e.a.a.f) (t e.a.b.b),some (e.f.c,true),1807,11⟩,⟨some e.a.b.f,.load1 (t e.a.b.c),some (e.f.c,true),3855,12⟩,⟨some e.a.c.a,.call (F 54) [t e.a.a.c,t e.a.b.f],some (e.f.c,true),8191,13⟩,O e.a.c.b (.pick (t e.f.c) (t e.a.c.a) kf) 16383 14]).seq (NC.cond (t e.a.c.b) NC.skip (NC.exit 2))).seq ((NC.block 3 (regD [m e.a.f.a e 0,m e.a.f.b e.a.c 1,m e.a.f.c e 2,m e.a.f.f e.a.c 3,O e.b.a.a (.bin .num .sub (t e.a.f.f) (k 1)) 8 4,m e.b.a.b e 5,m e.b.a.c e.a.c 6,O e.b.a.f (.bin .num .sub (t e.b.a.c) (k 1)) 64 7,O e.b.b.a (.indexSlc 1 (t e.b.a.b) (t e.b.a.f)) 224 8,O e.b.b.b (.load1 (t e.b.b.a)) 480 9,m e.b.b.c e 10,m e.b.b.f e.a.c 11,O e.b.c.a (.indexSlc 1 (t e.b.b.c) (t e.b.b.f)) 3072 12,O e.b.c.b (.load1 (t e.b.c.a)) 7168 13,O e.b.c.c (.indexSlc 1 (t e.a.f.a) (t e.a.f.b)) 16355 14,⟨none,.store 1 (t e.b.c.c) (t e.b.b.b),none,32739,15⟩,O e.b.c.f (.indexSlc 1 (t e.a.f.c) (t e.b.a.a)) 65535 16,⟨none,.store 1 (t e.b.c.f) (t e.b.c.b),none,131071,17⟩])).seq (reg [m e.a.c.c e.a.c 0,b e.a.c.f .sub (t e.a.c.c) (k 1) 1,m e.a.c e.a.c.f 2])))
noncomputable def sl:NC:=(((reg [m e.b.b e.a.b 0,m e.b.c e.b 1,b e.b.f .lss (t e.b.b) (t e.b.c) 2]).seq (NC.cond (t e.b.f) NC.skip (NC.exit 0))).seq ((NC.block 1 ((reg [m e.c.c e.a.b 0,m e.a.c e.c.c 1]).seq (NC.block 2 tL.loop))).seq (reg [m e.c.a e.a.b 0,b e.c.b .add (t e.c.a) (k 1) 1,m e.a.b e.c.b 2])))
noncomputable def wy:NFun:=⟨(reg [m e.a.f e.a 0,b e.b.a .add (t e.a.f) (k 1) 1,m e.a.b e.b.a 2]).seq (NC.block 0 sl.loop),49, []⟩
theorem tq:an Try.prog 48=some (.code wy):=by kernel_rfl
noncomputable def sN:NC:=(((reg [m e.f.b e.b.a 0,b e.f.c .geq (t e.f.b) (k 0) 1]).seq (NC.cond (t e.f.c) NC.skip (NC.exit 0))).seq ((NC.block 1 (reg [m e.a.a.b e 0,m e.a.a.c e.b.a 1,m e.a.a.f e.a.f 2,m e.a.b.a e.a.b 3,o e.a.b.b (.call (F 58) [t e.a.a.b,t e.a.a.c,t e.a.a.f,t e.a.b.a]) 4])).seq (reg [m e.f.f e.b.a 0,b e.a.a.a .sub (t e.f.f) (k 1) 1,m e.b.a e.a.a.a 2])))
noncomputable def sM:NC:=(((reg [m e.a.c.a e.b.b 0,b e.a.c.b .geq (t e.a.c.a) (k 0) 1]).seq (NC.cond (t e.a.c.b) NC.skip (NC.exit 2))).seq ((NC.block 3 ((regD [m e.a.f.a e 0,m e.a.f.b e.a.b 1,m e.a.f.c e 2,m e.a.f.f e.a.b 3,m e.b.a.a e.b.b 4,O e.b.a.b (.bin .num .add (t e.a.f.f) (t e.b.a.a)) 24 5,m e.b.a.c e 6,m e.b.a.f e.a.b 7,m e.b.b.a e.b.b 8,O e.b.b.b (.bin .num .add (t e.b.a.f) (t e.b.b.a)) 384 9,O e.b.b.c (.indexSlc 1 (t e.b.a.c) (t e.b.b.b)) 960 10,O e.b.b.f (.load1 (t e.b.b.c)) 1984 11,m e.b.c.a e 12,m e.b.c.b e.a.b 13,O e.b.c.c (.indexSlc 1 (t e.b.c.a) (t e.b.c.b)) 12288 14,O e.b.c.f (.load1 (t e.b.c.c)) 28672 15,O e.b.f.a (.indexSlc 1 (t e.a.f.a) (t e.a.f.b)) 65475 16,⟨none,.store 1 (t e.b.f.a) (t e.b.b.f),none,131011,17⟩,O e.b.f.b (.indexSlc 1 (t e.a.f.c) (t e.b.a.b)) 262143 18,⟨none,.store 1 (t e.b.f.b) (t e.b.c.f),none,524287,19⟩]).seq (reg [m e.b.f.c e 0,m e.b.f.f e.a.c 1,m e.c.a.a e.b.b 2,m e.c.a.b e.a.b 3,o e.c.a.c (.call (F 58) [t e.b.f.c,t e.b.f.f,t e.c.a.a,t e.c.a.b]) 4]))).seq (reg [m e.a.c.c e.b.b 0,b e.a.c.f .sub (t e.a.c.c) (k 1) 1,m e.b.b e.a.c.f 2])))
noncomputable def vW:NFun:=⟨(reg [m e.b.c e.a 0,m e.a.b e.b.c 1]).seq ((reg [o e.a.c (.move (k 0)) 0]).seq ((reg [m e.b.f e.b 0,m e.c.a e.a 1,b e.c.b .sub (t e.b.f) (t e.c.a) 2,m e.a.f e.c.b 3]).seq (((reg [m e.c.c e.a.f 0,b e.c.f .sub (t e.c.c) (k 1) 1,b e.f.a .quo (t e.c.f) (k 2) 2,m e.b.a e.f.a 3]).seq (NC.block 0 sN.loop)).seq ((reg [m e.a.b.c e.a.f 0,b e.a.b.f .sub (t e.a.b.c) (k 1) 1,m e.b.b e.a.b.f 2]).seq (NC.block 2 sM.loop))))),56, []⟩
theorem tN:an Try.prog 49=some (.code vW):=by kernel_rfl
noncomputable def rU:NC:=(((reg [m e.a.b.b e.b.a 0,m e.a.b.c e.a 1,m e.a.b.f e.a.b 2,b e.a.c.a .quo (t e.a.b.f) (k 4) 3,b e.a.c.b .mul (t e.a.c.a) (k 2) 4,b e.a.c.c .add (t e.a.b.c) (t e.a.c.b) 5,b e.a.c.f .add (t e.a.c.c) (k 1) 6,b e.a.f.a .leq (t e.a.b.b) (t e.a.c.f) 7]).seq (NC.cond (t e.a.f.a) NC.skip (NC.exit 0))).seq ((NC.block 1 ((reg [o e.a.f.f (.call (F 45) [t e.a.c]) 0,m e.b.a.a e.a.f 1,b e.b.a.b .sub (t e.b.a.a) (ku 1) 2,b e.b.a.c .and (t e.a.f.f) (t e.b.a.b) 3,o e.b.a.f (.toInt .i64 (t e.b.a.c)) 4,m e.b.b e.b.a.f 5]).seq (((reg [m e.b.b.a e.b.b 0,m e.b.b.b e.a.b 1,b e.b.b.c .geq (t e.b.b.a) (t e.b.b.b) 2]).seq (NC.cond (t e.b.b.c) (reg [m e.b.b.f e.b.b 0,m e.b.c.a e.a.b 1,b e.b.c.b .sub (t e.b.b.f) (t e.b.c.a) 2,m e.b.b e.b.c.b 3]) NC.skip)).seq (regD [m e.b.c.c e 0,m e.b.c.f e.b.a 1,m e.b.f.a e 2,m e.b.f.b e.a 3,m e.b.f.c e.b.b 4,O e.b.f.f (.bin .num .add (t e.b.f.b) (t e.b.f.c)) 24 5,m e.c.a.a e 6,m e.c.a.b e.a 7,m e.c.a.c e.b.b 8,O e.c.a.f (.bin .num .add (t e.c.a.b) (t e.c.a.c)) 384 9,O e.c.b.a (.indexSlc 1 (t e.c.a.a) (t e.c.a.f)) 960 10,O e.c.b.b (.load1 (t e.c.b.a)) 1984 11,m e.c.b.c e 12,m e.c.b.f e.b.a 13,O e.c.c.a (.indexSlc 1 (t e.c.b.c) (t e.c.b.f)) 12288 14,O e.c.c.b (.load1 (t e.c.c.a)) 28672 15,O e.c.c.c (.indexSlc 1 (t e.b.c.c) (t e.b.c.f)) 65475 16,⟨none,.store 1 (t e.c.c.c) (t e.c.b.b),none,131011,17⟩,O e.c.c.f (.indexSlc 1 (t e.b.f.a) (t e.b.f.f)) 262143 18,⟨none,.store 1 (t e.c.c.f) (t e.c.c.b),none,524287,19⟩])))).seq (reg [m e.a.f.b e.b.a 0,b e.a.f.c .add (t e.a.f.b) (k 1) 1,m e.b.a e.a.f.c 2])))
noncomputable def wQ:NFun:=⟨(reg [m e.b.c e.b 0,m e.b.f e.a 1,b e.c.a .sub (t e.b.c) (t e.b.f) 2,m e.a.b e.c.a 3]).seq ((reg [m e.c.b e.a.b 0,b e.c.c .geq (t e.c.b) (k 8) 1]).seq (NC.cond (t e.c.c) ((reg [m e.c.f e.a.b 0,o e.f.a (.toInt .u64 (t e.c.f)) 1,o e.a.c (.alloc [.int .u64 (.lit 0)] 79) 2,q (.store 1 (t e.a.c) (t e.f.a)) 3]).seq ((reg [m e.f.b e.a.b 0,o e.f.c (.call (F 44) [t e.f.b]) 1,m e.a.f e.f.c 2]).seq ((reg [m e.f.f e.a 0,m e.a.a.a e.a.b 1,b e.a.a.b .quo (t e.a.a.a) (k 4) 2,b e.a.a.c .mul (t e.a.a.b) (k 2) 3,b e.a.a.f .add (t e.f.f) (t e.a.a.c) 4,b e.a.b.a .sub (t e.a.a.f) (k 1) 5,m e.b.a e.a.b.a 6]).seq (NC.block 0 rU.loop)))) NC.skip)),65, []⟩
theorem uc:an Try.prog 50=some (.code wQ):=by kernel_rfl
noncomputable def wK:NFun:=⟨(reg [o e.a.b (.move (k 0)) 0,o e.a.c (.move (k 0)) 1]).seq ((reg [m e.c.a e.b 0,m e.c.b e.a 1,b e.c.c .sub (t e.c.a) (t e.c.b) 2,m e.a.f e.c.c 3]).seq ((reg [o e.b.a (.alloc [.int .i64 (.lit 0)] 3) 0]).seq ((reg [m e.c.f e.a 0,m e.f.a e.a.f 1,b e.f.b .quo (t e.f.a) (k 4) 2,b e.f.c .mul (t e.f.b) (k 1) 3,b e.f.f .add (t e.c.f) (t e.f.c) 4,m e.b.b e.f.f 5]).seq ((reg [m e.a.a.a e.a 0,m e.a.a.b e.a.f 1,b e.a.a.c .quo (t e.a.a.b) (k 4) 2,b e.a.a.f .mul (t e.a.a.c) (k 2) 3,b e.a.b.a .add (t e.a.a.a) (t e.a.a.f) 4,m e.b.c e.a.b.a 5]).seq ((reg [m e.a.b.b e.a 0,m e.a.b.c e.a.f 1,b e.a.b.f .quo (t e.a.b.c) (k 4) 2,b e.a.c.a .mul (t e.a.b.f) (k 3) 3,b e.a.c.b .add (t e.a.b.b) (t e.a.c.a) 4,m e.b.f e.a.c.b 5]).seq (((reg [m e.a.c.c e.a.f 0,b e.a.c.f .geq (t e.a.c.c) (k 8) 1]).seq (NC.cond (t e.a.c.f) (((reg [m e.a.f.a e.a.f 0,b e.a.f.b .geq (t e.a.f.a) (k 50) 1]).seq (NC.cond (t e.a.f.b) ((reg [m e.a.f.c e 0,m e.a.f.f e.b.b 1,o e.b.a.a (.call (F 59) [t e.a.f.c,t e.a.f.f,t e.b.a]) 2,m e.b.b e.b.a.a 3]).seq ((reg [m e.b.a.b e 0,m e.b.a.c e.b.c 1,o e.b.a.f (.call (F 59) [t e.b.a.b,t e.b.a.c,t e.b.a]) 2,m e.b.c e.b.a.f 3]).seq (reg [m e.b.b.a e 0,m e.b.b.b e.b.f 1,o e.b.b.c (.call (F 59) [t e.b.b.a,t e.b.b.b,t e.b.a]) 2,m e.b.f e.b.b.c 3]))) NC.skip)).seq (reg [m e.b.b.f e 0,m e.b.c.a e.b.b 1,m e.b.c.b e.b.c 2,m e.b.c.c e.b.f 3,o e.b.c.f (.call (F 60) [t e.b.b.f,t e.b.c.a,t e.b.c.b,t e.b.c.c,t e.b.a]) 4,m e.b.c e.b.c.f 5])) NC.skip)).seq ((reg [l e.b.f.a e.b.a 0]).seq (NC.block 0 ((reg [b e.b.f.f .eql (t e.b.f.a) (k 0) 0,m e.b.f.c e.b.f.f 1]).seq (NC.cond (t e.b.f.c) ((reg [m e.c.a.a e.b.c 0,m e.a.b e.c.a.a 1,o e.a.c (.move (k 1)) 2]).seq NC.ret) ((reg [b e.c.a.c .eql (t e.b.f.a) (k 12) 0,m e.c.a.b e.c.a.c 1]).seq (NC.cond (t e.c.a.b) ((reg [m e.c.a.f e.b.c 0,m e.a.b e.c.a.f 1,o e.a.c (.move (k 2)) 2]).seq NC.ret) ((reg [m e.b.f.b e.b.c 0,m e.a.b e.b.f.b 1,o e.a.c (.move (k 0)) 2]).seq NC.ret))))))))))))),57, [.tmp e.a.b,.tmp e.a.c]⟩
theorem se:an Try.prog 51=some (.code wK):=by kernel_rfl
noncomputable def ug:NC:=(((reg [m e.b.c e.a.b 0,m e.b.f e.a.c 1,b e.c.a .lss (t e.b.c) (t e.b.f) 2]).seq (NC.cond (t e.c.a) NC.skip (NC.exit 0))).seq (NC.block 1 ((regD [m e.c.b e 0,m e.c.c e.a.b 1,m e.c.f e 2,m e.f.a e.a.c 3,m e.f.b e 4,m e.f.c e.a.c 5,O e.f.f (.indexSlc 1 (t e.f.b) (t e.f.c)) 48 6,O e.a.a.a (.load1 (t e.f.f)) 112 7,m e.a.a.b e 8,m e.a.a.c e.a.b 9,O e.a.a.f (.indexSlc 1 (t e.a.a.b) (t e.a.a.c)) 768 10,O e.a.b.a (.load1 (t e.a.a.f)) 1792 11,O e.a.b.b (.indexSlc 1 (t e.c.b) (t e.c.c)) 4083 12,⟨none,.store 1 (t e.a.b.b) (t e.a.a.a),none,8179,13⟩,O e.a.b.c (.indexSlc 1 (t e.c.f) (t e.f.a)) 16383 14,⟨none,.store 1 (t e.a.b.c) (t e.a.b.a),none,32767,15⟩]).seq ((reg [m e.a.b.f e.a.b 0,b e.a.c.a .add (t e.a.b.f) (k 1) 1,m e.a.b e.a.c.a 2]).seq (reg [m e.a.c.b e.a.c 0,b e.a.c.c .sub (t e.a.c.b) (k 1) 1,m e.a.c e.a.c.c 2])))))
noncomputable def wk:NFun:=⟨(reg [m e.a.f e.a 0,m e.a.b e.a.f 1]).seq ((reg [m e.b.a e.b 0,b e.b.b .sub (t e.b.a) (k 1) 1,m e.a.c e.b.b 2]).seq (NC.block 0 ug.loop)),32, []⟩
theorem sC:an Try.prog 52=some (.code wk):=by kernel_rfl
noncomputable def sg:NC:=(((regD [m e.f.a e.a.c 0,m e.f.b e.b 1,O e.f.c (.bin .num .lss (t e.f.a) (t e.f.b)) 3 2,O e.f.f (.move (t e.f.c)) 7 3,⟨some e.a.a.a,.move (t e),some (e.f.f,true),15,4⟩,⟨some e.a.a.b,.move (t e.a.c),some (e.f.f,true),15,5⟩,⟨some e.a.a.c,.indexSlc 1 (t e.a.a.a) (t e.a.a.b),some (e.f.f,true),63,6⟩,⟨some e.a.a.f,.load1 (t e.a.a.c),some (e.f.f,true),127,7⟩,⟨some e.a.b.a,.move (t e),some (e.f.f,true),15,8⟩,⟨some e.a.b.b,.move (t e.a.c),some (e.f.f,true),15,9⟩,⟨some e.a.b.c,.bin .num .sub (t e.a.b.b) (k 1),some (e.f.f,true),527,10⟩,⟨some e.a.b.f,.indexSlc 1 (t e.a.b.a) (t e.a.b.c),some (e.f.f,true),1807,11⟩,⟨some e.a.c.a,.load1 (t e.a.b.f),some (e.f.f,true),3855,12⟩,⟨some e.a.c.b,.call (F 54) [t e.a.a.f,t e.a.c.a],some (e.f.f,true),8191,13⟩,⟨some e.a.c.c,.un .not (t e.a.c.b),some (e.f.f,true),16383,14⟩,O e.a.c.f (.pick (t e.f.f) (t e.a.c.c) kf) 32767 15]).seq (NC.cond (t e.a.c.f) NC.skip (NC.exit 2))).seq (NC.block 3 (reg [m e.a.f.a e.a.c 0,b e.a.f.b .add (t e.a.f.a) (k 1) 1,m e.a.c e.a.f.b 2])))
noncomputable def sB:NC:=(((reg [m e.c.c.f e.b.a 0,b e.c.f.a .geq (t e.c.c.f) (k 1) 1]).seq (NC.cond (t e.c.f.a) NC.skip (NC.exit 4))).seq ((NC.block 5 (((regD [m e.c.f.f e 0,m e.f.a.a e.b.a 1,O e.f.a.b (.indexSlc 1 (t e.c.f.f) (t e.f.a.a)) 3 2,O e.f.a.c (.load1 (t e.f.a.b)) 7 3,m e.f.a.f e 4,m e.f.b.a e.b.a 5,O e.f.b.b (.bin .num .sub (t e.f.b.a) (k 1)) 32 6,O e.f.b.c (.indexSlc 1 (t e.f.a.f) (t e.f.b.b)) 112 7,O e.f.b.f (.load1 (t e.f.b.c)) 240 8,O e.f.c.a (.call (F 54) [t e.f.a.c,t e.f.b.f]) 511 9,O e.f.c.b (.un .not (t e.f.c.a)) 1023 10]).seq (NC.cond (t e.f.c.b) (NC.exit 4) NC.skip)).seq (regD [m e.f.c.c e 0,m e.f.c.f e.b.a 1,m e.f.f.a e 2,m e.f.f.b e.b.a 3,O e.f.f.c (.bin .num .sub (t e.f.f.b) (k 1)) 8 4,m e.f.f.f e 5,m e.a.a.a.a e.b.a 6,O e.a.a.a.b (.bin .num .sub (t e.a.a.a.a) (k 1)) 64 7,O e.a.a.a.c (.indexSlc 1 (t e.f.f.f) (t e.a.a.a.b)) 224 8,O e.a.a.a.f (.load1 (t e.a.a.a.c)) 480 9,m e.a.a.b.a e 10,m e.a.a.b.b e.b.a 11,O e.a.a.b.c (.indexSlc 1 (t e.a.a.b.a) (t e.a.a.b.b)) 3072 12,O e.a.a.b.f (.load1 (t e.a.a.b.c)) 7168 13,O e.a.a.c.a (.indexSlc 1 (t e.f.c.c) (t e.f.c.f)) 16355 14,⟨none,.store 1 (t e.a.a.c.a) (t e.a.a.a.f),none,32739,15⟩,O e.a.a.c.b (.indexSlc 1 (t e.f.f.a) (t e.f.f.c)) 65535 16,⟨none,.store 1 (t e.a.a.c.b) (t e.a.a.b.f),none,131071,17⟩]))).seq (reg [m e.c.f.b e.b.a 0,b e.c.f.c .sub (t e.c.f.b) (k 1) 1,m e.b.a e.c.f.c 2])))
noncomputable def rV:NC:=(((reg [m e.a.b.a.a e.b.b 0,m e.a.b.a.b e.b 1,b e.a.b.a.c .lss (t e.a.b.a.a) (t e.a.b.a.b) 2]).seq (NC.cond (t e.a.b.a.c) NC.skip (NC.exit 6))).seq ((NC.block 7 (((regD [m e.a.b.b.b e 0,m e.a.b.b.c e.b.b 1,O e.a.b.b.f (.indexSlc 1 (t e.a.b.b.b) (t e.a.b.b.c)) 3 2,O e.a.b.c.a (.load1 (t e.a.b.b.f)) 7 3,m e.a.b.c.b e 4,m e.a.b.c.c e.b.b 5,O e.a.b.c.f (.bin .num .sub (t e.a.b.c.c) (k 1)) 32 6,O e.a.b.f.a (.indexSlc 1 (t e.a.b.c.b) (t e.a.b.c.f)) 112 7,O e.a.b.f.b (.load1 (t e.a.b.f.a)) 240 8,O e.a.b.f.c (.call (F 54) [t e.a.b.c.a,t e.a.b.f.b]) 511 9,O e.a.b.f.f (.un .not (t e.a.b.f.c)) 1023 10]).seq (NC.cond (t e.a.b.f.f) (NC.exit 6) NC.skip)).seq (regD [m e.a.c.a.a e 0,m e.a.c.a.b e.b.b 1,m e.a.c.a.c e 2,m e.a.c.a.f e.b.b 3,O e.a.c.b.a (.bin .num .sub (t e.a.c.a.f) (k 1)) 8 4,m e.a.c.b.b e 5,m e.a.c.b.c e.b.b 6,O e.a.c.b.f (.bin .num .sub (t e.a.c.b.c) (k 1)) 64 7,O e.a.c.c.a (.indexSlc 1 (t e.a.c.b.b) (t e.a.c.b.f)) 224 8,O e.a.c.c.b (.load1 (t e.a.c.c.a)) 480 9,m e.a.c.c.c e 10,m e.a.c.c.f e.b.b 11,O e.a.c.f.a (.indexSlc 1 (t e.a.c.c.c) (t e.a.c.c.f)) 3072 12,O e.a.c.f.b (.load1 (t e.a.c.f.a)) 7168 13,O e.a.c.f.c (.indexSlc 1 (t e.a.c.a.a) (t e.a.c.a.b)) 16355 14,⟨none,.store 1 (t e.a.c.f.c) (t e.a.c.c.b),none,32739,15⟩,O e.a.c.f.f (.indexSlc 1 (t e.a.c.a.c) (t e.a.c.b.a)) 65535 16,⟨none,.store 1 (t e.a.c.f.f) (t e.a.c.f.b),none,131071,17⟩]))).seq (reg [m e.a.b.a.f e.b.b 0,b e.a.b.b.a .add (t e.a.b.a.f) (k 1) 1,m e.b.b e.a.b.b.a 2])))
noncomputable def sD:NC:=(((reg [m e.c.a e.a.f 0,b e.c.b .lss (t e.c.a) (k 5) 1]).seq (NC.cond (t e.c.b) NC.skip (NC.exit 0))).seq ((NC.block 1 ((NC.block 2 sg.loop).seq (((reg [m e.a.f.c e.a.c 0,m e.a.f.f e.b 1,b e.b.a.a .eql (t e.a.f.c) (t e.a.f.f) 2]).seq (NC.cond (t e.b.a.a) ((reg [o e.a.b (.move kt) 0]).seq NC.ret) NC.skip)).seq (((reg [m e.b.a.b e.b 0,m e.b.a.c e.a 1,b e.b.a.f .sub (t e.b.a.b) (t e.b.a.c) 2,b e.b.b.a .lss (t e.b.a.f) (k 50) 3]).seq (NC.cond (t e.b.b.a) ((reg [o e.a.b (.move kf) 0]).seq NC.ret) NC.skip)).seq ((regD [m e.b.b.b e 0,m e.b.b.c e.a.c 1,m e.b.b.f e 2,m e.b.c.a e.a.c 3,O e.b.c.b (.bin .num .sub (t e.b.c.a) (k 1)) 8 4,m e.b.c.c e 5,m e.b.c.f e.a.c 6,O e.b.f.a (.bin .num .sub (t e.b.c.f) (k 1)) 64 7,O e.b.f.b (.indexSlc 1 (t e.b.c.c) (t e.b.f.a)) 224 8,O e.b.f.c (.load1 (t e.b.f.b)) 480 9,m e.b.f.f e 10,m e.c.a.a e.a.c 11,O e.c.a.b (.indexSlc 1 (t e.b.f.f) (t e.c.a.a)) 3072 12,O e.c.a.c (.load1 (t e.c.a.b)) 7168 13,O e.c.a.f (.indexSlc 1 (t e.b.b.b) (t e.b.b.c)) 16355 14,⟨none,.store 1 (t e.c.a.f) (t e.b.f.c),none,32739,15⟩,O e.c.b.a (.indexSlc 1 (t e.b.b.f) (t e.b.c.b)) 65535 16,⟨none,.store 1 (t e.c.b.a) (t e.c.a.c),none,131071,17⟩]).seq (((reg [m e.c.b.b e.a.c 0,m e.c.b.c e.a 1,b e.c.b.f .sub (t e.c.b.b) (t e.c.b.c) 2,b e.c.c.a .geq (t e.c.b.f) (k 2) 3]).seq (NC.cond (t e.c.c.a) ((reg [m e.c.c.b e.a.c 0,b e.c.c.c .sub (t e.c.c.b) (k 1) 1,m e.b.a e.c.c.c 2]).seq (NC.block 4 sB.loop)) NC.skip)).seq ((reg [m e.a.a.c.c e.b 0,m e.a.a.c.f e.a.c 1,b e.a.a.f.a .sub (t e.a.a.c.c) (t e.a.a.c.f) 2,b e.a.a.f.b .geq (t e.a.a.f.a) (k 2) 3]).seq (NC.cond (t e.a.a.f.b) ((reg [m e.a.a.f.c e.a.c 0,b e.a.a.f.f .add (t e.a.a.f.c) (k 1) 1,m e.b.b e.a.a.f.f 2]).seq (NC.block 6 rV.loop)) NC.skip)))))))).seq (reg [m e.c.c e.a.f 0,b e.c.f .add (t e.c.c) (k 1) 1,m e.a.f e.c.f 2])))
noncomputable def wC:NFun:=⟨(reg [o e.a.b (.move kf) 0]).seq ((reg [m e.b.c e.a 0,b e.b.f .add (t e.b.c) (k 1) 1,m e.a.c e.b.f 2]).seq (((reg [o e.a.f (.move (k 0)) 0]).seq (NC.block 0 sD.loop)).seq ((reg [o e.a.b (.move kf) 0]).seq NC.ret))),133, [.tmp e.a.b]⟩
theorem tS:an Try.prog 53=some (.code wC):=by kernel_rfl
noncomputable def xt:NFun:=⟨(reg [o e.f (.move kf) 0]).seq ((reg [m e.a.a e 0,o e.a.b (.call (F 26) [t e.a.a]) 1,m e.a.c e.a.b 2,G e.a.f (.move (t e.a)) e.a.c true 3,G e.b.a (.call (F 26) [t e.a.f]) e.a.c true 4,G e.b.b (.un .not (t e.b.a)) e.a.c true 5,o e.b.c (.pick (t e.a.c) (t e.b.b) kf) 6,m e.b.f e.b.c 7,G e.c.a (.move (t e)) e.b.f false 8,G e.c.b (.move (t e.a)) e.b.f false 9,G e.c.c (.bin .num .lss (t e.c.a) (t e.c.b)) e.b.f false 10,o e.c.f (.pick (t e.b.f) kt (t e.c.c)) 11,m e.f e.c.f 12]).seq NC.ret),17, [.tmp e.f]⟩
theorem s8:an Try.prog 54=some (.code xt):=by kernel_rfl
noncomputable def uh:NC:=(((regD [m e.b.c.b e.b.a 0,m e.b.c.c e.b.b 1,O e.b.c.f (.bin .num .leq (t e.b.c.b) (t e.b.c.c)) 3 2,O e.b.f.a (.move (t e.b.c.f)) 7 3,⟨some e.b.f.b,.move (t e),some (e.b.f.a,true),15,4⟩,⟨some e.b.f.c,.move (t e.a),some (e.b.f.a,true),15,5⟩,⟨some e.b.f.f,.indexSlc 1 (t e.b.f.b) (t e.b.f.c),some (e.b.f.a,true),63,6⟩,⟨some e.c.a.a,.load1 (t e.b.f.f),some (e.b.f.a,true),127,7⟩,⟨some e.c.a.b,.move (t e),some (e.b.f.a,true),15,8⟩,⟨some e.c.a.c,.move (t e.b.b),some (e.b.f.a,true),15,9⟩,⟨some e.c.a.f,.indexSlc 1 (t e.c.a.b) (t e.c.a.c),some (e.b.f.a,true),783,10⟩,⟨some e.c.b.a,.load1 (t e.c.a.f),some (e.b.f.a,true),1807,11⟩,⟨some e.c.b.b,.call (F 54) [t e.c.a.a,t e.c.b.a],some (e.b.f.a,true),4095,12⟩,O e.c.b.c (.pick (t e.b.f.a) (t e.c.b.b) kf) 8191 13]).seq (NC.cond (t e.c.b.c) NC.skip (NC.exit 4))).seq (NC.block 5 (reg [m e.c.b.f e.b.b 0,b e.c.c.a .sub (t e.c.b.f) (k 1) 1,m e.b.b e.c.c.a 2])))
noncomputable def tU:NC:=(((regD [m e.a.c.a e.b.a 0,m e.a.c.b e.b.b 1,O e.a.c.c (.bin .num .leq (t e.a.c.a) (t e.a.c.b)) 3 2,O e.a.c.f (.move (t e.a.c.c)) 7 3,⟨some e.a.f.a,.move (t e),some (e.a.c.f,true),15,4⟩,⟨some e.a.f.b,.move (t e.a),some (e.a.c.f,true),15,5⟩,⟨some e.a.f.c,.indexSlc 1 (t e.a.f.a) (t e.a.f.b),some (e.a.c.f,true),63,6⟩,⟨some e.a.f.f,.load1 (t e.a.f.c),some (e.a.c.f,true),127,7⟩,⟨some e.b.a.a,.move (t e),some (e.a.c.f,true),15,8⟩,⟨some e.b.a.b,.move (t e.b.a),some (e.a.c.f,true),15,9⟩,⟨some e.b.a.c,.indexSlc 1 (t e.b.a.a) (t e.b.a.b),some (e.a.c.f,true),783,10⟩,⟨some e.b.a.f,.load1 (t e.b.a.c),some (e.a.c.f,true),1807,11⟩,⟨some e.b.b.a,.call (F 54) [t e.a.f.f,t e.b.a.f],some (e.a.c.f,true),4095,12⟩,⟨some e.b.b.b,.un .not (t e.b.b.a),some (e.a.c.f,true),8191,13⟩,O e.b.b.c (.pick (t e.a.c.f) (t e.b.b.b) kf) 16383 14]).seq (NC.cond (t e.b.b.c) NC.skip (NC.exit 2))).seq (NC.block 3 (reg [m e.b.b.f e.b.a 0,b e.b.c.a .add (t e.b.b.f) (k 1) 1,m e.b.a e.b.c.a 2])))
noncomputable def r7:NC:=(NC.block 1 ((NC.block 2 tU.loop).seq ((NC.block 4 uh.loop).seq (((reg [m e.c.c.b e.b.a 0,m e.c.c.c e.b.b 1,b e.c.c.f .gtr (t e.c.c.b) (t e.c.c.c) 2]).seq (NC.cond (t e.c.c.f) (NC.exit 0) NC.skip)).seq ((regD [m e.c.f.a e 0,m e.c.f.b e.b.a 1,m e.c.f.c e 2,m e.c.f.f e.b.b 3,m e.f.a.a e 4,m e.f.a.b e.b.b 5,O e.f.a.c (.indexSlc 1 (t e.f.a.a) (t e.f.a.b)) 48 6,O e.f.a.f (.load1 (t e.f.a.c)) 112 7,m e.f.b.a e 8,m e.f.b.b e.b.a 9,O e.f.b.c (.indexSlc 1 (t e.f.b.a) (t e.f.b.b)) 768 10,O e.f.b.f (.load1 (t e.f.b.c)) 1792 11,O e.f.c.a (.indexSlc 1 (t e.c.f.a) (t e.c.f.b)) 4083 12,⟨none,.store 1 (t e.f.c.a) (t e.f.a.f),none,8179,13⟩,O e.f.c.b (.indexSlc 1 (t e.c.f.c) (t e.c.f.f)) 16383 14,⟨none,.store 1 (t e.f.c.b) (t e.f.b.f),none,32767,15⟩]).seq ((reg [m e.f.c.c e.b.a 0,b e.f.c.f .add (t e.f.c.c) (k 1) 1,m e.b.a e.f.c.f 2]).seq (reg [m e.f.f.a e.b.b 0,b e.f.f.b .sub (t e.f.f.a) (k 1) 1,m e.b.b e.f.f.b 2])))))))
noncomputable def wN:NFun:=⟨(reg [o e.a.f (.move (k 0)) 0]).seq ((regD [m e.b.c e 0,m e.b.f e.a 1,m e.c.a e 2,m e.c.b e.c 3,m e.c.c e 4,m e.c.f e.c 5,O e.f.a (.indexSlc 1 (t e.c.c) (t e.c.f)) 48 6,O e.f.b (.load1 (t e.f.a)) 112 7,m e.f.c e 8,m e.f.f e.a 9,O e.a.a.a (.indexSlc 1 (t e.f.c) (t e.f.f)) 768 10,O e.a.a.b (.load1 (t e.a.a.a)) 1792 11,O e.a.a.c (.indexSlc 1 (t e.b.c) (t e.b.f)) 4083 12,⟨none,.store 1 (t e.a.a.c) (t e.f.b),none,8179,13⟩,O e.a.a.f (.indexSlc 1 (t e.c.a) (t e.c.b)) 16383 14,⟨none,.store 1 (t e.a.a.f) (t e.a.a.b),none,32767,15⟩]).seq ((reg [m e.a.b.a e.a 0,b e.a.b.b .add (t e.a.b.a) (k 1) 1,m e.a.b.c e.b 2,b e.a.b.f .sub (t e.a.b.c) (k 1) 3,m e.b.a e.a.b.b 4,m e.b.b e.a.b.f 5]).seq ((NC.block 0 r7.loop).seq ((reg [m e.f.f.c e.b.a 0,m e.a.f e.f.f.c 1]).seq NC.ret)))),84, [.tmp e.a.f]⟩
theorem t8:an Try.prog 55=some (.code wN):=by kernel_rfl
noncomputable def sL:NC:=(((regD [m e.a.c.b e.b.b 0,m e.a.c.c e.b.c 1,O e.a.c.f (.bin .num .leq (t e.a.c.b) (t e.a.c.c)) 3 2,O e.a.f.a (.move (t e.a.c.f)) 7 3,⟨some e.a.f.b,.move (t e),some (e.a.f.a,true),15,4⟩,⟨some e.a.f.c,.move (t e.b.b),some (e.a.f.a,true),15,5⟩,⟨some e.a.f.f,.indexSlc 1 (t e.a.f.b) (t e.a.f.c),some (e.a.f.a,true),63,6⟩,⟨some e.b.a.a,.load1 (t e.a.f.f),some (e.a.f.a,true),127,7⟩,⟨some e.b.a.b,.move (t e),some (e.a.f.a,true),15,8⟩,⟨some e.b.a.c,.move (t e.a),some (e.a.f.a,true),15,9⟩,⟨some e.b.a.f,.indexSlc 1 (t e.b.a.b) (t e.b.a.c),some (e.a.f.a,true),783,10⟩,⟨some e.b.b.a,.load1 (t e.b.a.f),some (e.a.f.a,true),1807,11⟩,⟨some e.b.b.b,.call (F 54) [t e.b.a.a,t e.b.b.a],some (e.a.f.a,true),4095,12⟩,O e.b.b.c (.pick (t e.a.f.a) (t e.b.b.b) kf) 8191 13]).seq (NC.cond (t e.b.b.c) NC.skip (NC.exit 0))).seq (NC.block 1 (reg [m e.b.b.f e.b.b 0,b e.b.c.a .add (t e.b.b.f) (k 1) 1,m e.b.b e.b.c.a 2])))
noncomputable def sA:NC:=(((regD [m e.a.a.f.c e.b.b 0,m e.a.a.f.f e.b.c 1,O e.a.b.a.a (.bin .num .leq (t e.a.a.f.c) (t e.a.a.f.f)) 3 2,O e.a.b.a.b (.move (t e.a.b.a.a)) 7 3,⟨some e.a.b.a.c,.move (t e),some (e.a.b.a.b,true),15,4⟩,⟨some e.a.b.a.f,.move (t e.b.b),some (e.a.b.a.b,true),15,5⟩,⟨some e.a.b.b.a,.indexSlc 1 (t e.a.b.a.c) (t e.a.b.a.f),some (e.a.b.a.b,true),63,6⟩,⟨some e.a.b.b.b,.load1 (t e.a.b.b.a),some (e.a.b.a.b,true),127,7⟩,⟨some e.a.b.b.c,.move (t e),some (e.a.b.a.b,true),15,8⟩,⟨some e.a.b.b.f,.move (t e.a),some (e.a.b.a.b,true),15,9⟩,⟨some e.a.b.c.a,.indexSlc 1 (t e.a.b.b.c) (t e.a.b.b.f),some (e.a.b.a.b,true),783,10⟩,⟨some e.a.b.c.b,.load1 (t e.a.b.c.a),some (e.a.b.a.b,true),1807,11⟩,⟨some e.a.b.c.c,.call (F 54) [t e.a.b.b.b,t e.a.b.c.b],some (e.a.b.a.b,true),4095,12⟩,O e.a.b.c.f (.pick (t e.a.b.a.b) (t e.a.b.c.c) kf) 8191 13]).seq (NC.cond (t e.a.b.c.f) NC.skip (NC.exit 6))).seq (NC.block 7 (reg [m e.a.b.f.a e.b.b 0,b e.a.b.f.b .add (t e.a.b.f.a) (k 1) 1,m e.b.b e.a.b.f.b 2])))
noncomputable def uv:NC:=(((regD [m e.b.c.b e.b.b 0,m e.b.c.c e.b.c 1,O e.b.c.f (.bin .num .leq (t e.b.c.b) (t e.b.c.c)) 3 2,O e.b.f.a (.move (t e.b.c.f)) 7 3,⟨some e.b.f.b,.move (t e),some (e.b.f.a,true),15,4⟩,⟨some e.b.f.c,.move (t e.b.c),some (e.b.f.a,true),15,5⟩,⟨some e.b.f.f,.indexSlc 1 (t e.b.f.b) (t e.b.f.c),some (e.b.f.a,true),63,6⟩,⟨some e.c.a.a,.load1 (t e.b.f.f),some (e.b.f.a,true),127,7⟩,⟨some e.c.a.b,.move (t e),some (e.b.f.a,true),15,8⟩,⟨some e.c.a.c,.move (t e.a),some (e.b.f.a,true),15,9⟩,⟨some e.c.a.f,.indexSlc 1 (t e.c.a.b) (t e.c.a.c),some (e.b.f.a,true),783,10⟩,⟨some e.c.b.a,.load1 (t e.c.a.f),some (e.b.f.a,true),1807,11⟩,⟨some e.c.b.b,.call (F 54) [t e.c.a.a,t e.c.b.a],some (e.b.f.a,true),4095,12⟩,⟨some e.c.b.c,.un .not (t e.c.b.b),some (e.b.f.a,true),8191,13⟩,O e.c.b.f (.pick (t e.b.f.a) (t e.c.b.c) kf) 16383 14]).seq (NC.cond (t e.c.b.f) NC.skip (NC.exit 2))).seq (NC.block 3 (reg [m e.c.c.a e.b.c 0,b e.c.c.b .sub (t e.c.c.a) (k 1) 1,m e.b.c e.c.c.b 2])))
noncomputable def rP:NC:=(((regD [m e.a.b.f.c e.b.b 0,m e.a.b.f.f e.b.c 1,O e.a.c.a.a (.bin .num .leq (t e.a.b.f.c) (t e.a.b.f.f)) 3 2,O e.a.c.a.b (.move (t e.a.c.a.a)) 7 3,⟨some e.a.c.a.c,.move (t e),some (e.a.c.a.b,true),15,4⟩,⟨some e.a.c.a.f,.move (t e.b.c),some (e.a.c.a.b,true),15,5⟩,⟨some e.a.c.b.a,.indexSlc 1 (t e.a.c.a.c) (t e.a.c.a.f),some (e.a.c.a.b,true),63,6⟩,⟨some e.a.c.b.b,.load1 (t e.a.c.b.a),some (e.a.c.a.b,true),127,7⟩,⟨some e.a.c.b.c,.move (t e),some (e.a.c.a.b,true),15,8⟩,⟨some e.a.c.b.f,.move (t e.a),some (e.a.c.a.b,true),15,9⟩,⟨some e.a.c.c.a,.indexSlc 1 (t e.a.c.b.c) (t e.a.c.b.f),some (e.a.c.a.b,true),783,10⟩,⟨some e.a.c.c.b,.load1 (t e.a.c.c.a),some (e.a.c.a.b,true),1807,11⟩,⟨some e.a.c.c.c,.call (F 54) [t e.a.c.b.b,t e.a.c.c.b],some (e.a.c.a.b,true),4095,12⟩,⟨some e.a.c.c.f,.un .not (t e.a.c.c.c),some (e.a.c.a.b,true),8191,13⟩,O e.a.c.f.a (.pick (t e.a.c.a.b) (t e.a.c.c.f) kf) 16383 14]).seq (NC.cond (t e.a.c.f.a) NC.skip (NC.exit 8))).seq (NC.block 9 (reg [m e.a.c.f.b e.b.c 0,b e.a.c.f.c .sub (t e.a.c.f.b) (k 1) 1,m e.b.c e.a.c.f.c 2])))
noncomputable def uq:NC:=(NC.block 5 ((NC.block 6 sA.loop).seq ((NC.block 8 rP.loop).seq (((reg [m e.a.c.f.f e.b.b 0,m e.a.f.a.a e.b.c 1,b e.a.f.a.b .gtr (t e.a.c.f.f) (t e.a.f.a.a) 2]).seq (NC.cond (t e.a.f.a.b) (NC.exit 4) NC.skip)).seq ((regD [m e.a.f.a.c e 0,m e.a.f.a.f e.b.b 1,m e.a.f.b.a e 2,m e.a.f.b.b e.b.c 3,m e.a.f.b.c e 4,m e.a.f.b.f e.b.c 5,O e.a.f.c.a (.indexSlc 1 (t e.a.f.b.c) (t e.a.f.b.f)) 48 6,O e.a.f.c.b (.load1 (t e.a.f.c.a)) 112 7,m e.a.f.c.c e 8,m e.a.f.c.f e.b.b 9,O e.a.f.f.a (.indexSlc 1 (t e.a.f.c.c) (t e.a.f.c.f)) 768 10,O e.a.f.f.b (.load1 (t e.a.f.f.a)) 1792 11,O e.a.f.f.c (.indexSlc 1 (t e.a.f.a.c) (t e.a.f.a.f)) 4083 12,⟨none,.store 1 (t e.a.f.f.c) (t e.a.f.c.b),none,8179,13⟩,O e.a.f.f.f (.indexSlc 1 (t e.a.f.b.a) (t e.a.f.b.b)) 16383 14,⟨none,.store 1 (t e.a.f.f.f) (t e.a.f.f.b),none,32767,15⟩]).seq ((reg [m e.b.a.a.a e.b.b 0,b e.b.a.a.b .add (t e.b.a.a.a) (k 1) 1,m e.b.b e.b.a.a.b 2]).seq (reg [m e.b.a.a.c e.b.c 0,b e.b.a.a.f .sub (t e.b.a.a.c) (k 1) 1,m e.b.c e.b.a.a.f 2])))))))
noncomputable def wn:NFun:=⟨(reg [o e.a.f (.move (k 0)) 0,o e.b.a (.move kf) 1]).seq ((regD [m e.b.f e 0,m e.c.a e.a 1,m e.c.b e 2,m e.c.c e.c 3,m e.c.f e 4,m e.f.a e.c 5,O e.f.b (.indexSlc 1 (t e.c.f) (t e.f.a)) 48 6,O e.f.c (.load1 (t e.f.b)) 112 7,m e.f.f e 8,m e.a.a.a e.a 9,O e.a.a.b (.indexSlc 1 (t e.f.f) (t e.a.a.a)) 768 10,O e.a.a.c (.load1 (t e.a.a.b)) 1792 11,O e.a.a.f (.indexSlc 1 (t e.b.f) (t e.c.a)) 4083 12,⟨none,.store 1 (t e.a.a.f) (t e.f.c),none,8179,13⟩,O e.a.b.a (.indexSlc 1 (t e.c.b) (t e.c.c)) 16383 14,⟨none,.store 1 (t e.a.b.a) (t e.a.a.c),none,32767,15⟩]).seq ((reg [m e.a.b.b e.a 0,b e.a.b.c .add (t e.a.b.b) (k 1) 1,m e.a.b.f e.b 2,b e.a.c.a .sub (t e.a.b.f) (k 1) 3,m e.b.b e.a.b.c 4,m e.b.c e.a.c.a 5]).seq ((NC.block 0 sL.loop).seq ((NC.block 2 uv.loop).seq (((reg [m e.c.c.c e.b.b 0,m e.c.c.f e.b.c 1,b e.c.f.a .gtr (t e.c.c.c) (t e.c.c.f) 2]).seq (NC.cond (t e.c.f.a) ((regD [m e.c.f.b e 0,m e.c.f.c e.b.c 1,m e.c.f.f e 2,m e.f.a.a e.a 3,m e.f.a.b e 4,m e.f.a.c e.a 5,O e.f.a.f (.indexSlc 1 (t e.f.a.b) (t e.f.a.c)) 48 6,O e.f.b.a (.load1 (t e.f.a.f)) 112 7,m e.f.b.b e 8,m e.f.b.c e.b.c 9,O e.f.b.f (.indexSlc 1 (t e.f.b.b) (t e.f.b.c)) 768 10,O e.f.c.a (.load1 (t e.f.b.f)) 1792 11,O e.f.c.b (.indexSlc 1 (t e.c.f.b) (t e.c.f.c)) 4083 12,⟨none,.store 1 (t e.f.c.b) (t e.f.b.a),none,8179,13⟩,O e.f.c.c (.indexSlc 1 (t e.c.f.f) (t e.f.a.a)) 16383 14,⟨none,.store 1 (t e.f.c.c) (t e.f.c.a),none,32767,15⟩]).seq ((reg [m e.f.c.f e.b.c 0,m e.a.f e.f.c.f 1,o e.b.a (.move kt) 2]).seq NC.ret)) NC.skip)).seq ((regD [m e.f.f.a e 0,m e.f.f.b e.b.b 1,m e.f.f.c e 2,m e.f.f.f e.b.c 3,m e.a.a.a.a e 4,m e.a.a.a.b e.b.c 5,O e.a.a.a.c (.indexSlc 1 (t e.a.a.a.a) (t e.a.a.a.b)) 48 6,O e.a.a.a.f (.load1 (t e.a.a.a.c)) 112 7,m e.a.a.b.a e 8,m e.a.a.b.b e.b.b 9,O e.a.a.b.c (.indexSlc 1 (t e.a.a.b.a) (t e.a.a.b.b)) 768 10,O e.a.a.b.f (.load1 (t e.a.a.b.c)) 1792 11,O e.a.a.c.a (.indexSlc 1 (t e.f.f.a) (t e.f.f.b)) 4083 12,⟨none,.store 1 (t e.a.a.c.a) (t e.a.a.a.f),none,8179,13⟩,O e.a.a.c.b (.indexSlc 1 (t e.f.f.c) (t e.f.f.f)) 16383 14,⟨none,.store 1 (t e.a.a.c.b) (t e.a.a.b.f),none,32767,15⟩]).seq ((reg [m e.a.a.c.c e.b.b 0,b e.a.a.c.f .add (t e.a.a.c.c) (k 1) 1,m e.b.b e.a.a.c.f 2]).seq ((reg [m e.a.a.f.a e.b.c 0,b e.a.a.f.b .sub (t e.a.a.f.a) (k 1) 1,m e.b.c e.a.a.f.b 2]).seq ((NC.block 4 uq.loop).seq ((regD [m e.b.a.b.a e 0,m e.b.a.b.b e.b.c 1,m e.b.a.b.c e 2,m e.b.a.b.f e.a 3,m e.b.a.c.a e 4,m e.b.a.c.b e.a 5,O e.b.a.c.c (.indexSlc 1 (t e.b.a.c.a) (t e.b.a.c.b)) 48 6,O e.b.a.c.f (.load1 (t e.b.a.c.c)) 112 7,m e.b.a.f.a e 8,m e.b.a.f.b e.b.c 9,O e.b.a.f.c (.indexSlc 1 (t e.b.a.f.a) (t e.b.a.f.b)) 768 10,O e.b.a.f.f (.load1 (t e.b.a.f.c)) 1792 11,O e.b.b.a.a (.indexSlc 1 (t e.b.a.b.a) (t e.b.a.b.b)) 4083 12,⟨none,.store 1 (t e.b.b.a.a) (t e.b.a.c.f),none,8179,13⟩,O e.b.b.a.b (.indexSlc 1 (t e.b.a.b.c) (t e.b.a.b.f)) 16383 14,⟨none,.store 1 (t e.b.b.a.b) (t e.b.a.f.f),none,32767,15⟩]).seq ((reg [m e.b.b.a.c e.b.c 0,m e.a.f e.b.b.a.c 1,o e.b.a (.move kf) 2]).seq NC.ret))))))))))),168, [.tmp e.a.f,.tmp e.b.a]⟩
theorem sV:an Try.prog 56=some (.code wn):=by kernel_rfl
noncomputable def wb:NFun:=⟨(reg [o e.b.b (.move (k 0)) 0,o e.b.c (.move (k 0)) 1]).seq (((regD [m e.b.f e.f 0,m e.c.a e 1,m e.c.b e.b 2,O e.c.c (.indexSlc 2 (t e.c.a) (t e.c.b)) 6 3,O e.c.f (.loadN 2 (t e.c.c)) 14 4,m e.f.a e 5,m e.f.b e.a 6,O e.f.c (.indexSlc 2 (t e.f.a) (t e.f.b)) 96 7,O e.f.f (.loadN 2 (t e.f.c)) 224 8,O e.a.a.a (.call (t e.b.f) [t e.c.f,t e.f.f]) 511 9,O e.a.a.b (.bin .num .lss (t e.a.a.a) (k 0)) 1023 10]).seq (NC.cond (t e.a.a.b) ((reg [m e.a.a.c e.c 0,n e.a.a.f e.a.a.c 1,l e.a.b.a e.a.a.f 2,b e.a.b.b .add (t e.a.b.a) (k 1) 3,n e.a.b.c e.a.a.c 4,q (.store 1 (t e.a.b.c) (t e.a.b.b)) 5]).seq ((reg [m e.a.b.f e.b 0,m e.a.c.a e.a 1,m e.b.b e.a.b.f 2,m e.b.c e.a.c.a 3]).seq NC.ret)) NC.skip)).seq ((reg [m e.a.c.b e.a 0,m e.a.c.c e.b 1,m e.b.b e.a.c.b 2,m e.b.c e.a.c.c 3]).seq NC.ret)),32, [.tmp e.b.b,.tmp e.b.c]⟩
theorem r6:an Try.prog 57=some (.code wb):=by kernel_rfl
noncomputable def uf:NC:=(NC.block 1 ((reg [m e.b.c e.a.f 0,b e.b.f .mul (k 2) (t e.b.c) 1,b e.c.a .add (t e.b.f) (k 1) 2,m e.b.a e.c.a 3]).seq (((reg [m e.c.b e.b.a 0,m e.c.c e.b 1,b e.c.f .geq (t e.c.b) (t e.c.c) 2]).seq (NC.cond (t e.c.f) (NC.exit 0) NC.skip)).seq (((regD [m e.f.a e.b.a 0,O e.f.b (.bin .num .add (t e.f.a) (k 1)) 1 1,m e.f.c e.b 2,O e.f.f (.bin .num .lss (t e.f.b) (t e.f.c)) 7 3,O e.a.a.a (.move (t e.f.f)) 15 4,⟨some e.a.a.b,.move (t e),some (e.a.a.a,true),31,5⟩,⟨some e.a.a.c,.move (t e.c),some (e.a.a.a,true),31,6⟩,⟨some e.a.a.f,.move (t e.b.a),some (e.a.a.a,true),31,7⟩,⟨some e.a.b.a,.bin .num .add (t e.a.a.c) (t e.a.a.f),some (e.a.a.a,true),223,8⟩,⟨some e.a.b.b,.indexSlc 1 (t e.a.a.b) (t e.a.b.a),some (e.a.a.a,true),511,9⟩,⟨some e.a.b.c,.load1 (t e.a.b.b),some (e.a.a.a,true),1023,10⟩,⟨some e.a.b.f,.move (t e),some (e.a.a.a,true),31,11⟩,⟨some e.a.c.a,.move (t e.c),some (e.a.a.a,true),31,12⟩,⟨some e.a.c.b,.move (t e.b.a),some (e.a.a.a,true),31,13⟩,⟨some e.a.c.c,.bin .num .add (t e.a.c.a) (t e.a.c.b),some (e.a.a.a,true),12319,14⟩,⟨some e.a.c.f,.bin .num .add (t e.a.c.c) (k 1),some (e.a.a.a,true),28703,15⟩,⟨some e.a.f.a,.indexSlc 1 (t e.a.b.f) (t e.a.c.f),some (e.a.a.a,true),63519,16⟩,⟨some e.a.f.b,.load1 (t e.a.f.a),some (e.a.a.a,true),129055,17⟩,⟨some e.a.f.c,.call (F 54) [t e.a.b.c,t e.a.f.b],some (e.a.a.a,true),262143,18⟩,O e.a.f.f (.pick (t e.a.a.a) (t e.a.f.c) kf) 524287 19]).seq (NC.cond (t e.a.f.f) (reg [m e.b.a.a e.b.a 0,b e.b.a.b .add (t e.b.a.a) (k 1) 1,m e.b.a e.b.a.b 2]) NC.skip)).seq (((regD [m e.b.a.c e 0,m e.b.a.f e.c 1,m e.b.b.a e.a.f 2,O e.b.b.b (.bin .num .add (t e.b.a.f) (t e.b.b.a)) 6 3,O e.b.b.c (.indexSlc 1 (t e.b.a.c) (t e.b.b.b)) 15 4,O e.b.b.f (.load1 (t e.b.b.c)) 31 5,m e.b.c.a e 6,m e.b.c.b e.c 7,m e.b.c.c e.b.a 8,O e.b.c.f (.bin .num .add (t e.b.c.b) (t e.b.c.c)) 384 9,O e.b.f.a (.indexSlc 1 (t e.b.c.a) (t e.b.c.f)) 960 10,O e.b.f.b (.load1 (t e.b.f.a)) 1984 11,O e.b.f.c (.call (F 54) [t e.b.b.f,t e.b.f.b]) 4095 12,O e.b.f.f (.un .not (t e.b.f.c)) 8191 13]).seq (NC.cond (t e.b.f.f) NC.ret NC.skip)).seq ((regD [m e.c.a.a e 0,m e.c.a.b e.c 1,m e.c.a.c e.a.f 2,O e.c.a.f (.bin .num .add (t e.c.a.b) (t e.c.a.c)) 6 3,m e.c.b.a e 4,m e.c.b.b e.c 5,m e.c.b.c e.b.a 6,O e.c.b.f (.bin .num .add (t e.c.b.b) (t e.c.b.c)) 96 7,m e.c.c.a e 8,m e.c.c.b e.c 9,m e.c.c.c e.b.a 10,O e.c.c.f (.bin .num .add (t e.c.c.b) (t e.c.c.c)) 1536 11,O e.c.f.a (.indexSlc 1 (t e.c.c.a) (t e.c.c.f)) 3840 12,O e.c.f.b (.load1 (t e.c.f.a)) 7936 13,m e.c.f.c e 14,m e.c.f.f e.c 15,m e.f.a.a e.a.f 16,O e.f.a.b (.bin .num .add (t e.c.f.f) (t e.f.a.a)) 98304 17,O e.f.a.c (.indexSlc 1 (t e.c.f.c) (t e.f.a.b)) 245760 18,O e.f.a.f (.load1 (t e.f.a.c)) 507904 19,O e.f.b.a (.indexSlc 1 (t e.c.a.a) (t e.c.a.f)) 1048335 20,⟨none,.store 1 (t e.f.b.a) (t e.c.f.b),none,2096911,21⟩,O e.f.b.b (.indexSlc 1 (t e.c.b.a) (t e.c.b.f)) 4194303 22,⟨none,.store 1 (t e.f.b.b) (t e.f.a.f),none,8388607,23⟩]).seq (reg [m e.f.b.c e.b.a 0,m e.a.f e.f.b.c 1])))))))
noncomputable def wj:NFun:=⟨(reg [m e.b.b e.a 0,m e.a.f e.b.b 1]).seq (NC.block 0 uf.loop),76, []⟩
theorem sU:an Try.prog 58=some (.code wj):=by kernel_rfl
noncomputable def vT:NFun:=⟨(reg [o e.a.b (.move (k 0)) 0]).seq ((reg [m e.a.c e 0,m e.a.f e.a 1,b e.b.a .sub (t e.a.f) (k 1) 2,m e.b.b e.a 3,m e.b.c e.a 4,b e.b.f .add (t e.b.c) (k 1) 5,m e.c.a e.b 6,o e.c.b (.call (F 60) [t e.a.c,t e.b.a,t e.b.b,t e.b.f,t e.c.a]) 7,m e.a.b e.c.b 8]).seq NC.ret),15, [.tmp e.a.b]⟩
theorem sr:an Try.prog 59=some (.code vT):=by kernel_rfl
noncomputable def wM:NFun:=⟨(reg [o e.b.b (.move (k 0)) 0]).seq ((reg [m e.b.f e 0,m e.c.a e.a 1,m e.c.b e.b 2,m e.c.c e.f 3,o e.c.f (.call (F 61) [t e.b.f,t e.c.a,t e.c.b,t e.c.c]) 4,m e.b.c e.c.f 5,x e.f.a e.b.c 0 6,x e.f.b e.b.c 1 7,m e.a e.f.a 8,m e.b e.f.b 9]).seq ((reg [m e.f.f e 0,m e.a.a.a e.b 1,m e.a.a.b e.c 2,m e.a.a.c e.f 3,o e.a.a.f (.call (F 61) [t e.f.f,t e.a.a.a,t e.a.a.b,t e.a.a.c]) 4,m e.f.c e.a.a.f 5,x e.a.b.a e.f.c 0 6,x e.a.b.b e.f.c 1 7,m e.b e.a.b.a 8,m e.c e.a.b.b 9]).seq ((reg [m e.a.b.f e 0,m e.a.c.a e.a 1,m e.a.c.b e.b 2,m e.a.c.c e.f 3,o e.a.c.f (.call (F 61) [t e.a.b.f,t e.a.c.a,t e.a.c.b,t e.a.c.c]) 4,m e.a.b.c e.a.c.f 5,x e.a.f.a e.a.b.c 0 6,x e.a.f.b e.a.b.c 1 7,m e.a e.a.f.a 8,m e.b e.a.f.b 9]).seq ((reg [m e.a.f.c e.b 0,m e.b.b e.a.f.c 1]).seq NC.ret)))),36, [.tmp e.b.b]⟩
theorem tf:an Try.prog 60=some (.code wM):=by kernel_rfl
noncomputable def wZ:NFun:=⟨(reg [o e.a.f (.move (k 0)) 0,o e.b.a (.move (k 0)) 1]).seq (((regD [m e.b.b e 0,m e.b.c e.b 1,O e.b.f (.indexSlc 1 (t e.b.b) (t e.b.c)) 3 2,O e.c.a (.load1 (t e.b.f)) 7 3,m e.c.b e 4,m e.c.c e.a 5,O e.c.f (.indexSlc 1 (t e.c.b) (t e.c.c)) 48 6,O e.f.a (.load1 (t e.c.f)) 112 7,O e.f.b (.call (F 54) [t e.c.a,t e.f.a]) 255 8]).seq (NC.cond (t e.f.b) ((reg [m e.f.c e.c 0,n e.f.f e.f.c 1,l e.a.a.a e.f.f 2,b e.a.a.b .add (t e.a.a.a) (k 1) 3,n e.a.a.c e.f.c 4,q (.store 1 (t e.a.a.c) (t e.a.a.b)) 5]).seq ((reg [m e.a.a.f e.b 0,m e.a.b.a e.a 1,m e.a.f e.a.a.f 2,m e.b.a e.a.b.a 3]).seq NC.ret)) NC.skip)).seq ((reg [m e.a.b.b e.a 0,m e.a.b.c e.b 1,m e.a.f e.a.b.b 2,m e.b.a e.a.b.c 3]).seq NC.ret)),28, [.tmp e.a.f,.tmp e.b.a]⟩
theorem sO:an Try.prog 61=some (.code wZ):=by kernel_rfl
end OD
namespace OD
open Go Nm Go.Proofs
open Nm.D4 (e)
open Nm.NC (reg regD)
open Nm.C
noncomputable def code:Nat->Option NFn:=(az 31 (az 16 (az 9 (az 5 (az 3 (ay Try.prog 3 xY) (az 4 (ay Try.prog 4 xZ) (ay Try.prog 5 xR))) (az 7 (az 6 (ay Try.prog 6 xU) (ay Try.prog 7 xW)) (az 8 (ay Try.prog 8 xT) (ay Try.prog 9 xV)))) (az 12 (az 10 (ay Try.prog 10 wq) (az 11 (ay Try.prog 11 wO) (ay Try.prog 12 wl))) (az 14 (az 13 (ay Try.prog 13 wD) (ay Try.prog 14 xk)) (az 15 (ay Try.prog 15 xl) (ay Try.prog 16 xd))))) (az 23 (az 19 (az 17 (ay Try.prog 17 xf) (az 18 (ay Try.prog 18 wh) (ay Try.prog 19 wU))) (az 21 (az 20 (ay Try.prog 20 wJ) (ay Try.prog 21 vX)) (az 22 (ay Try.prog 22 w8) (ay Try.prog 23 vV)))) (az 27 (az 25 (az 24 (ay Try.prog 24 vS) (ay Try.prog 25 xn)) (az 26 (ay Try.prog 26 xj) (ay Try.prog 27 vU))) (az 29 (az 28 (ay Try.prog 28 xi) (ay Try.prog 29 wa)) (az 30 (ay Try.prog 30 wP) (ay Try.prog 31 xg)))))) (az 46 (az 38 (az 34 (az 32 (ay Try.prog 32 wx) (az 33 (ay Try.prog 33 v7) (ay Try.prog 34 wG))) (az 36 (az 35 (ay Try.prog 35 xm) (ay Try.prog 36 wA)) (az 37 (ay Try.prog 37 vR) (ay Try.prog 38 wF)))) (az 42 (az 40 (az 39 (ay Try.prog 39 w5) (ay Try.prog 40 wW)) (az 41 (ay Try.prog 41 xr) (ay Try.prog 42 wS))) (az 44 (az 43 (ay Try.prog 43 vZ) (ay Try.prog 44 wI)) (az 45 (ay Try.prog 45 wd) (ay Try.prog 46 w7))))) (az 53 (az 49 (az 47 (ay Try.prog 47 w6) (az 48 (ay Try.prog 48 wy) (ay Try.prog 49 vW))) (az 51 (az 50 (ay Try.prog 50 wQ) (ay Try.prog 51 wK)) (az 52 (ay Try.prog 52 wk) (ay Try.prog 53 wC)))) (az 57 (az 55 (az 54 (ay Try.prog 54 xt) (ay Try.prog 55 wN)) (az 56 (ay Try.prog 56 wn) (ay Try.prog 57 wb))) (az 59 (az 58 (ay Try.prog 58 wj) (ay Try.prog 59 vT)) (az 60 (ay Try.prog 60 wM) (ay Try.prog 61 wZ)))))))
theorem ow:dn Try.prog code:=(ag (ag (ag (ag (ag (af uL) (ag (af uI) (af ve))) (ag (ag (af uJ) (af vu)) (ag (af vd) (af vG)))) (ag (ag (af uu) (ag (af uk) (af tA))) (ag (ag (af tg) (af sa)) (ag (af tk) (af s0))))) (ag (ag (ag (af s5) (ag (af sW) (af rT))) (ag (ag (af uy) (af tY)) (ag (af th) (af sH)))) (ag (ag (ag (af sf) (af sj)) (ag (af tC) (af sy))) (ag (ag (af uj) (af tZ)) (ag (af tD) (af rW)))))) (ag (ag (ag (ag (af rQ) (ag (af tu) (af tW))) (ag (ag (af ub) (af tz)) (ag (af ur) (af s6)))) (ag (ag (ag (af uw) (af ue)) (ag (af sE) (af rR))) (ag (ag (af tV) (af sK)) (ag (af tG) (af sv))))) (ag (ag (ag (af uz) (ag (af tq) (af tN))) (ag (ag (af uc) (af se)) (ag (af sC) (af tS)))) (ag (ag (ag (af s8) (af t8)) (ag (af sV) (af r6))) (ag (ag (af sU) (af sr)) (ag (af tf) (af sO)))))))
end OD
/-
  DERIVED: THE SHELF's CONTRACTS AT THIS DUMP, IN PLAIN WORDS (tools/lay-plain.mjs out of 'TryShq.lean', which tools/lay-shelf.mjs wrote): THE SAME DECLARATIONS UNDER THE SAME NAMES: 'import', 'namespace', 'open', 'def', 'theorem' AND NOTHING ELSE: no command of the shelf's: FOR A HAND-IN. Each laying: the table of numbers ('.._ren') and one theorem, a field a fact of the dump's own or the kernel's comparison; each contract: ONE APPLICATION.
-/
namespace Go.Proofs
open Go.Shelf
def Try.keysA_ren : Go.Shelf.Ren := ⟨fun | 7 => 22 | 10 => 30 | n => n, fun | 23 => 39 | 26 => 3 | 3 => 52 | 28 => 48 | 0 => 0 | 27 => 47 | 33 => 33 | 4 => 4 | n => n, fun | n => n⟩
theorem Try.keysA : Go.Proofs.SlLaysZI.n7 Try.prog Try.keysA_ren := {
  mixed := by kernel_rfl
  f7 := ⟨Try.f22.name, by decide, Try.func22.trans (congrArg some (by kernel_rfl))⟩
  f10 := ⟨Try.f30.name, by decide, Try.func30.trans (congrArg some (by kernel_rfl))⟩
  t0 := Try.underlying0
  a0 := Try.isAgg0
  z0 := Try.sizeOf0
  v0 := Try.zeroValue0
  t4 := Try.underlying4
  a4 := Try.isAgg4
  z4 := Try.sizeOf4
  v4 := Try.zeroValue4
  t23 := Try.underlying39
  a23 := Try.isAgg39
  z23 := Try.sizeOf39
  v23 := Try.zeroValue39
  t26 := Try.underlying3
  a26 := Try.isAgg3
  z26 := Try.sizeOf3
  v26 := Try.zeroValue3
  t27 := Try.underlying47
  a27 := Try.isAgg47
  z27 := Try.sizeOf47
  v27 := Try.zeroValue47
  t28 := Try.underlying48
  a28 := Try.isAgg48
  z28 := Try.sizeOf48
  v28 := Try.zeroValue48
  t33 := Try.underlying33
  a33 := Try.isAgg33
  z33 := Try.sizeOf33
  v33 := Try.zeroValue33 }
def Try.sortedA_ren : Go.Shelf.Ren := ⟨fun | 6 => 21 | 8 => 28 | 9 => 29 | 11 => 41 | 13 => 25 | 12 => 42 | 23 => 39 | 24 => 40 | 14 => 48 | 15 => 49 | 16 => 50 | 17 => 51 | 18 => 52 | 19 => 53 | 20 => 54 | 21 => 55 | 22 => 56 | 25 => 58 | 26 => 44 | 27 => 45 | 28 => 59 | 29 => 60 | 30 => 26 | 31 => 61 | n => n, fun | 26 => 3 | 28 => 48 | 24 => 27 | 0 => 0 | 3 => 3 | 37 => 64 | 48 => 75 | 50 => 24 | 4 => 4 | 40 => 68 | 39 => 67 | 45 => 72 | 5 => 5 | 9 => 9 | 51 => 79 | 55 => 83 | 57 => 91 | 58 => 92 | 33 => 33 | n => n, fun | n => n⟩
theorem Try.sortedA : Go.Proofs.SlLaysZI.n6 Try.prog Try.sortedA_ren := {
  mixed := by kernel_rfl
  f6 := ⟨Try.f21.name, by decide, Try.func21.trans (congrArg some (by kernel_rfl))⟩
  f8 := ⟨Try.f28.name, by decide, Try.func28.trans (congrArg some (by kernel_rfl))⟩
  f11 := ⟨Try.f41.name, by decide, Try.func41.trans (congrArg some (by kernel_rfl))⟩
  t0 := Try.underlying0
  a0 := Try.isAgg0
  z0 := Try.sizeOf0
  v0 := Try.zeroValue0
  t24 := Try.underlying27
  a24 := Try.isAgg27
  z24 := Try.sizeOf27
  v24 := Try.zeroValue27
  t26 := Try.underlying3
  a26 := Try.isAgg3
  z26 := Try.sizeOf3
  v26 := Try.zeroValue3
  t28 := Try.underlying48
  a28 := Try.isAgg48
  z28 := Try.sizeOf48
  v28 := Try.zeroValue48
  i26 := by kernel_rfl }
end Go.Proofs
/-
  DERIVED: THE SHELF's CONTRACTS AT THIS DUMP, IN PLAIN WORDS (tools/lay-plain.mjs out of 'TryShq.lean', which tools/lay-shelf.mjs wrote): THE SAME DECLARATIONS UNDER THE SAME NAMES: 'import', 'namespace', 'open', 'def', 'theorem' AND NOTHING ELSE: no command of the shelf's: FOR A HAND-IN. Each laying: the table of numbers ('.._ren') and one theorem, a field a fact of the dump's own or the kernel's comparison; each contract: ONE APPLICATION.
-/
namespace Go.Proofs
open Go.Shelf
def Try.cmpInt_ren : Go.Shelf.Ren := ⟨fun | 5 => 18 | 7 => 26 | n => n, fun | 22 => 3 | 3 => 3 | 4 => 4 | n => n, fun | n => n⟩
theorem Try.cmpInt : Go.Proofs.SlLaysC2.n5 Try.prog Try.cmpInt_ren := {
  mixed := by kernel_rfl
  f5 := ⟨Try.f18.name, by decide, Try.func18.trans (congrArg some (by kernel_rfl))⟩
  f7 := ⟨Try.f26.name, by decide, Try.func26.trans (congrArg some (by kernel_rfl))⟩
  t3 := Try.underlying3
  a3 := Try.isAgg3
  z3 := Try.sizeOf3
  v3 := Try.zeroValue3
  t4 := Try.underlying4
  a4 := Try.isAgg4
  z4 := Try.sizeOf4
  v4 := Try.zeroValue4
  t22 := Try.underlying3
  a22 := Try.isAgg3
  z22 := Try.sizeOf3
  v22 := Try.zeroValue3 }
end Go.Proofs
/-
  DERIVED: THE SHELF's CONTRACTS AT THIS DUMP, IN PLAIN WORDS (tools/lay-plain.mjs out of 'TryShq.lean', which tools/lay-shelf.mjs wrote): THE SAME DECLARATIONS UNDER THE SAME NAMES: 'import', 'namespace', 'open', 'def', 'theorem' AND NOTHING ELSE: no command of the shelf's: FOR A HAND-IN. Each laying: the table of numbers ('.._ren') and one theorem, a field a fact of the dump's own or the kernel's comparison; each contract: ONE APPLICATION.
-/
namespace Go.Proofs
open Go.Shelf
def Try.sortIv_ren : Go.Shelf.Ren := ⟨fun | 6 => 16 | 15 => 25 | 14 => 24 | 28 => 39 | 29 => 40 | 20 => 31 | 21 => 32 | 22 => 33 | 23 => 34 | 24 => 35 | 25 => 36 | 26 => 37 | 27 => 38 | 46 => 43 | 47 => 44 | 48 => 45 | 49 => 46 | 50 => 47 | 57 => 57 | n => n, fun | 22 => 41 | 24 => 46 | 25 => 55 | 3 => 3 | 39 => 64 | 0 => 0 | 53 => 75 | 55 => 24 | 4 => 4 | 46 => 68 | 45 => 67 | 50 => 72 | 5 => 5 | 9 => 9 | 66 => 79 | 70 => 83 | 76 => 91 | 77 => 92 | n => n, fun | n => n⟩
theorem Try.sortIv : Go.Proofs.SlLaysF0.n6 Try.prog Try.sortIv_ren := {
  mixed := by kernel_rfl
  f6 := ⟨Try.f16.name, by decide, Try.func16.trans (congrArg some (by kernel_rfl))⟩
  f14 := ⟨Try.f24.name, by decide, Try.func24.trans (congrArg some (by kernel_rfl))⟩
  f15 := Try.func25.trans (congrArg some (by kernel_rfl))
  f20 := ⟨Try.f31.name, by decide, Try.func31.trans (congrArg some (by kernel_rfl))⟩
  f21 := ⟨Try.f32.name, by decide, Try.func32.trans (congrArg some (by kernel_rfl))⟩
  f22 := ⟨Try.f33.name, by decide, Try.func33.trans (congrArg some (by kernel_rfl))⟩
  f23 := ⟨Try.f34.name, by decide, Try.func34.trans (congrArg some (by kernel_rfl))⟩
  f24 := ⟨Try.f35.name, by decide, Try.func35.trans (congrArg some (by kernel_rfl))⟩
  f25 := ⟨Try.f36.name, by decide, Try.func36.trans (congrArg some (by kernel_rfl))⟩
  f26 := ⟨Try.f37.name, by decide, Try.func37.trans (congrArg some (by kernel_rfl))⟩
  f27 := ⟨Try.f38.name, by decide, Try.func38.trans (congrArg some (by kernel_rfl))⟩
  f28 := Try.func39.trans (congrArg some (by kernel_rfl))
  f29 := Try.func40.trans (congrArg some (by kernel_rfl))
  f46 := ⟨Try.f43.name, by decide, Try.func43.trans (congrArg some (by kernel_rfl))⟩
  f47 := Try.func44.trans (congrArg some (by kernel_rfl))
  f48 := Try.func45.trans (congrArg some (by kernel_rfl))
  f49 := ⟨Try.f46.name, by decide, Try.func46.trans (congrArg some (by kernel_rfl))⟩
  f50 := ⟨Try.f47.name, by decide, Try.func47.trans (congrArg some (by kernel_rfl))⟩
  f57 := ⟨Try.f57.name, by decide, Try.func57.trans (congrArg some (by kernel_rfl))⟩
  t0 := Try.underlying0
  a0 := Try.isAgg0
  z0 := Try.sizeOf0
  v0 := Try.zeroValue0
  t3 := Try.underlying3
  a3 := Try.isAgg3
  z3 := Try.sizeOf3
  v3 := Try.zeroValue3
  t4 := Try.underlying4
  a4 := Try.isAgg4
  z4 := Try.sizeOf4
  v4 := Try.zeroValue4
  t5 := Try.underlying5
  a5 := Try.isAgg5
  z5 := Try.sizeOf5
  v5 := Try.zeroValue5
  t9 := Try.underlying9
  a9 := Try.isAgg9
  z9 := Try.sizeOf9
  v9 := Try.zeroValue9
  t22 := Try.underlying41
  a22 := Try.isAgg41
  z22 := Try.sizeOf41
  v22 := Try.zeroValue41
  t25 := Try.underlying55
  a25 := Try.isAgg55
  z25 := Try.sizeOf55
  v25 := Try.zeroValue55
  t39 := Try.underlying64
  a39 := Try.isAgg64
  z39 := Try.sizeOf64
  v39 := Try.zeroValue64
  t45 := Try.underlying67
  a45 := Try.isAgg67
  z45 := Try.sizeOf67
  v45 := Try.zeroValue67
  t46 := Try.underlying68
  a46 := Try.isAgg68
  z46 := Try.sizeOf68
  v46 := Try.zeroValue68
  t50 := Try.underlying72
  a50 := Try.isAgg72
  z50 := Try.sizeOf72
  v50 := Try.zeroValue72
  t53 := Try.underlying75
  a53 := Try.isAgg75
  z53 := Try.sizeOf75
  v53 := Try.zeroValue75
  t55 := Try.underlying24
  a55 := Try.isAgg24
  z55 := Try.sizeOf24
  v55 := Try.zeroValue24
  t66 := Try.underlying79
  a66 := Try.isAgg79
  z66 := Try.sizeOf79
  v66 := Try.zeroValue79
  t70 := Try.underlying83
  a70 := Try.isAgg83
  z70 := Try.sizeOf83
  v70 := Try.zeroValue83
  t76 := Try.underlying91
  a76 := Try.isAgg91
  z76 := Try.sizeOf91
  v76 := Try.zeroValue91
  t77 := Try.underlying92
  a77 := Try.isAgg92
  z77 := Try.sizeOf92
  v77 := Try.zeroValue92 }
end Go.Proofs
/-
  DERIVED: THE SHELF's CONTRACTS AT THIS DUMP, IN PLAIN WORDS (tools/lay-plain.mjs out of 'TryShq.lean', which tools/lay-shelf.mjs wrote): THE SAME DECLARATIONS UNDER THE SAME NAMES: 'import', 'namespace', 'open', 'def', 'theorem' AND NOTHING ELSE: no command of the shelf's: FOR A HAND-IN. Each laying: the table of numbers ('.._ren') and one theorem, a field a fact of the dump's own or the kernel's comparison; each contract: ONE APPLICATION.
-/
namespace Go.Proofs
open Go.Shelf
def Try.sortA_ren : Go.Shelf.Ren := ⟨fun | 5 => 29 | 8 => 25 | 7 => 42 | 19 => 39 | 20 => 40 | 10 => 48 | 11 => 49 | 12 => 50 | 13 => 51 | 14 => 52 | 15 => 53 | 16 => 54 | 17 => 55 | 18 => 56 | 30 => 58 | 31 => 44 | 32 => 45 | 33 => 59 | 34 => 60 | 35 => 26 | 40 => 61 | n => n, fun | 23 => 27 | 25 => 3 | 3 => 3 | 32 => 64 | 22 => 27 | 0 => 0 | 44 => 75 | 46 => 24 | 4 => 4 | 36 => 68 | 35 => 67 | 41 => 72 | 5 => 5 | 9 => 9 | 53 => 79 | 57 => 83 | 63 => 91 | 64 => 92 | n => n, fun | n => n⟩
theorem Try.sortA : Go.Proofs.SlLaysM.n5 Try.prog Try.sortA_ren := {
  mixed := by kernel_rfl
  f5 := ⟨Try.f29.name, by decide, Try.func29.trans (congrArg some (by kernel_rfl))⟩
  f7 := ⟨Try.f42.name, by decide, Try.func42.trans (congrArg some (by kernel_rfl))⟩
  f8 := Try.func25.trans (congrArg some (by kernel_rfl))
  f10 := ⟨Try.f48.name, by decide, Try.func48.trans (congrArg some (by kernel_rfl))⟩
  f11 := ⟨Try.f49.name, by decide, Try.func49.trans (congrArg some (by kernel_rfl))⟩
  f12 := ⟨Try.f50.name, by decide, Try.func50.trans (congrArg some (by kernel_rfl))⟩
  f13 := ⟨Try.f51.name, by decide, Try.func51.trans (congrArg some (by kernel_rfl))⟩
  f14 := ⟨Try.f52.name, by decide, Try.func52.trans (congrArg some (by kernel_rfl))⟩
  f15 := ⟨Try.f53.name, by decide, Try.func53.trans (congrArg some (by kernel_rfl))⟩
  f16 := ⟨Try.f54.name, by decide, Try.func54.trans (congrArg some (by kernel_rfl))⟩
  f17 := ⟨Try.f55.name, by decide, Try.func55.trans (congrArg some (by kernel_rfl))⟩
  f18 := ⟨Try.f56.name, by decide, Try.func56.trans (congrArg some (by kernel_rfl))⟩
  f19 := Try.func39.trans (congrArg some (by kernel_rfl))
  f20 := Try.func40.trans (congrArg some (by kernel_rfl))
  f30 := ⟨Try.f58.name, by decide, Try.func58.trans (congrArg some (by kernel_rfl))⟩
  f31 := Try.func44.trans (congrArg some (by kernel_rfl))
  f32 := Try.func45.trans (congrArg some (by kernel_rfl))
  f33 := ⟨Try.f59.name, by decide, Try.func59.trans (congrArg some (by kernel_rfl))⟩
  f34 := ⟨Try.f60.name, by decide, Try.func60.trans (congrArg some (by kernel_rfl))⟩
  f35 := ⟨Try.f26.name, by decide, Try.func26.trans (congrArg some (by kernel_rfl))⟩
  f40 := ⟨Try.f61.name, by decide, Try.func61.trans (congrArg some (by kernel_rfl))⟩
  t0 := Try.underlying0
  a0 := Try.isAgg0
  z0 := Try.sizeOf0
  v0 := Try.zeroValue0
  t3 := Try.underlying3
  a3 := Try.isAgg3
  z3 := Try.sizeOf3
  v3 := Try.zeroValue3
  t4 := Try.underlying4
  a4 := Try.isAgg4
  z4 := Try.sizeOf4
  v4 := Try.zeroValue4
  t5 := Try.underlying5
  a5 := Try.isAgg5
  z5 := Try.sizeOf5
  v5 := Try.zeroValue5
  t9 := Try.underlying9
  a9 := Try.isAgg9
  z9 := Try.sizeOf9
  v9 := Try.zeroValue9
  t22 := Try.underlying27
  a22 := Try.isAgg27
  z22 := Try.sizeOf27
  v22 := Try.zeroValue27
  t23 := Try.underlying27
  a23 := Try.isAgg27
  z23 := Try.sizeOf27
  v23 := Try.zeroValue27
  t25 := Try.underlying3
  a25 := Try.isAgg3
  z25 := Try.sizeOf3
  v25 := Try.zeroValue3
  t32 := Try.underlying64
  a32 := Try.isAgg64
  z32 := Try.sizeOf64
  v32 := Try.zeroValue64
  t35 := Try.underlying67
  a35 := Try.isAgg67
  z35 := Try.sizeOf67
  v35 := Try.zeroValue67
  t36 := Try.underlying68
  a36 := Try.isAgg68
  z36 := Try.sizeOf68
  v36 := Try.zeroValue68
  t41 := Try.underlying72
  a41 := Try.isAgg72
  z41 := Try.sizeOf72
  v41 := Try.zeroValue72
  t44 := Try.underlying75
  a44 := Try.isAgg75
  z44 := Try.sizeOf75
  v44 := Try.zeroValue75
  t46 := Try.underlying24
  a46 := Try.isAgg24
  z46 := Try.sizeOf24
  v46 := Try.zeroValue24
  t53 := Try.underlying79
  a53 := Try.isAgg79
  z53 := Try.sizeOf79
  v53 := Try.zeroValue79
  t57 := Try.underlying83
  a57 := Try.isAgg83
  z57 := Try.sizeOf83
  v57 := Try.zeroValue83
  t63 := Try.underlying91
  a63 := Try.isAgg91
  z63 := Try.sizeOf91
  v63 := Try.zeroValue91
  t64 := Try.underlying92
  a64 := Try.isAgg92
  z64 := Try.sizeOf92
  v64 := Try.zeroValue92 }
end Go.Proofs
open Go Nm
namespace OD
noncomputable def S1:bn:=ra 22 (oz 30) (ra 21 (gV 30) (ra 16 (cN 17) xX))
theorem kept:lY code S1 4000 6 [] (.bool true)=true:=by kernel_rfl
noncomputable def S0:bn:=we 6 [] (.bool true) S1
theorem ws:aE code S0 20000 4 [.int .i64 (.lit 0)]=true:=by kernel_rfl
theorem wR:aE code S0 20000 4 [.int .i64 (.lit 1)]=true:=by kernel_rfl
theorem wm:aE code S0 20000 4 [.int .i64 (.lit 2)]=true:=by kernel_rfl
theorem xh:aE code S0 20000 4 [.int .i64 (.lit 3)]=true:=by kernel_rfl
theorem xu:aE code S0 20000 4 [.int .i64 (.lit 4)]=true:=by kernel_rfl
theorem wo:aE code S0 20000 4 [.int .i64 (.lit 5)]=true:=by kernel_rfl
theorem wT:aE code S0 20000 4 [.int .i64 (.lit 6)]=true:=by kernel_rfl
theorem wg:aE code S0 20000 4 [.int .i64 (.lit 7)]=true:=by kernel_rfl
theorem xo:aE code S0 20000 4 [.int .i64 (.lit 8)]=true:=by kernel_rfl
theorem wE:aE code S0 20000 4 [.int .i64 (.lit 9)]=true:=by kernel_rfl
theorem vB:aE code S0 20000 4 [.int .i64 (.lit 10)]=true:=by kernel_rfl
theorem u7:aE code S0 20000 4 [.int .i64 (.lit 11)]=true:=by kernel_rfl
theorem vC:aE code S0 20000 4 [.int .i64 (.lit 12)]=true:=by kernel_rfl
theorem u3:aE code S0 20000 4 [.int .i64 (.lit 13)]=true:=by kernel_rfl
theorem vA:aE code S0 20000 4 [.int .i64 (.lit 14)]=true:=by kernel_rfl
theorem uO:aE code S0 20000 4 [.int .i64 (.lit 15)]=true:=by kernel_rfl
theorem uP:aE code S0 20000 4 [.int .i64 (.lit 16)]=true:=by kernel_rfl
theorem u5:aE code S0 20000 4 [.int .i64 (.lit 17)]=true:=by kernel_rfl
theorem uG:aE code S0 20000 4 [.int .i64 (.lit 18)]=true:=by kernel_rfl
theorem uH:aE code S0 20000 4 [.int .i64 (.lit 19)]=true:=by kernel_rfl
theorem vp:aE code S0 20000 4 [.int .i64 (.lit 20)]=true:=by kernel_rfl
theorem va:aE code S0 20000 4 [.int .i64 (.le (-1))]=true:=by kernel_rfl
theorem vg:aE code S0 20000 4 [.int .i64 (.ge 21)]=true:=by kernel_rfl
end OD
open Go Nm Go.Proofs
namespace OD
section
variable [Val]
theorem uQ:cX Try.prog 22 (oz 30):=tJ Try.keysA rfl rfl
theorem qf (hsort:∀m,AnyZI.SortsIn Try.prog Try.sortedA_ren Fence.wide m):cX Try.prog 21 (gV 30):=
 pU (ρk:=Try.keysA_ren) {Try.keysA with} Try.sortedA hsort (enters_of Try.func29 (by kernel_rfl) rfl) rfl rfl (enters_of Try.func21 (by kernel_rfl) rfl)
end
end OD
open Go Nm Go.Proofs Go.RowKit
namespace OD
set_option maxHeartbeats 1000000 in
theorem pN (x y:Int×Int) (W:World):Calls Try.prog 17 #[.agg #[.int .i64 x.1,.int .i64 x.2],.agg #[.int .i64 y.1,.int .i64 y.2]] W fun e w'=>e= .returned (.int .i64 (Lib.compareInt x.1 y.1))/\∃q os',w'=Go.Sort.grow (W.drewN q) os':=by
 have hcon:=fun W'=>AnyG.cmp_Compare_int Try.cmpInt x.1 y.1 W'
 change ∀W',Calls Try.prog 18 _ _ _ at hcon
 generalize Lib.compareInt x.1 y.1=r at hcon ⊢
 go_enter Try.func17,Try.ntmps17
 go_wp2_with (go_at_call 18;refine (hcon _).mono ?_;rintro e w' ⟨rfl,rfl⟩)
 go_ret
 exact ⟨rfl,0,_,by rw[Go.Sort.alloc_eq_grow,Go.Sort.alloc_eq_grow,Go.Sort.grow_grow];rfl⟩
end OD
open Go Nm Go.Proofs Go.RowKit
namespace OD
theorem mixed:Try.prog.follows .mixedOrders=true:=by kernel_rfl
section
variable [Val]
theorem wi (h1:cX Try.prog 16 (cN 17)) (hsort:∀m,AnyZI.SortsIn Try.prog Try.sortedA_ren Fence.wide m):cJ Try.prog S0:=
 rY mixed Try.codeOk (kB (kB (kB rK h1) (qf hsort)) uQ) (ow.kept kept)
theorem xQ (n:Int):∃x:SI,(∀ι,VR ι (.int .i64 x) (.int .i64 n))/\aE code S0 20000 4 [.int .i64 x]=true:=by
 by_cases h1:n<=-1
 ·exact ⟨_,fun _=> .ile _ _ _ h1,va⟩
 by_cases h2:21<=n
 ·exact ⟨_,fun _=> .ige _ _ _ h2,vg⟩
 have h:n=0∨n=1∨n=2∨n=3∨n=4∨n=5∨n=6∨n=7∨n=8∨n=9∨n=10∨n=11∨n=12∨n=13∨n=14∨n=15∨n=16∨n=17∨n=18∨n=19∨n=20:=by omega
 rcases h with rfl|rfl|rfl|rfl|rfl|rfl|rfl|rfl|rfl|rfl|rfl|rfl|rfl|rfl|rfl|rfl|rfl|rfl|rfl|rfl|rfl
 ·exact ⟨_,fun _=> .int _ _,ws⟩
 ·exact ⟨_,fun _=> .int _ _,wR⟩
 ·exact ⟨_,fun _=> .int _ _,wm⟩
 ·exact ⟨_,fun _=> .int _ _,xh⟩
 ·exact ⟨_,fun _=> .int _ _,xu⟩
 ·exact ⟨_,fun _=> .int _ _,wo⟩
 ·exact ⟨_,fun _=> .int _ _,wT⟩
 ·exact ⟨_,fun _=> .int _ _,wg⟩
 ·exact ⟨_,fun _=> .int _ _,xo⟩
 ·exact ⟨_,fun _=> .int _ _,wE⟩
 ·exact ⟨_,fun _=> .int _ _,vB⟩
 ·exact ⟨_,fun _=> .int _ _,u7⟩
 ·exact ⟨_,fun _=> .int _ _,vC⟩
 ·exact ⟨_,fun _=> .int _ _,u3⟩
 ·exact ⟨_,fun _=> .int _ _,vA⟩
 ·exact ⟨_,fun _=> .int _ _,uO⟩
 ·exact ⟨_,fun _=> .int _ _,uP⟩
 ·exact ⟨_,fun _=> .int _ _,u5⟩
 ·exact ⟨_,fun _=> .int _ _,uG⟩
 ·exact ⟨_,fun _=> .int _ _,uH⟩
 ·exact ⟨_,fun _=> .int _ _,vp⟩
end
end OD
open Go Nm Go.Proofs Go.RowKit Go.Shelf Go.ChangeShapes
namespace OD
theorem vY (blk off size:Nat) (w:World):CmpLays Try.prog 17 #[] eV 2 (fun x y=>Lib.compareInt x.1 y.1) blk off size w:=fun _ _ _ _ x y=>pN x y _
section
variable [Val]
theorem np:cX Try.prog 16 (cN 17):=
 lp (enters_of Try.func16 (by kernel_rfl) rfl)
  (fun blk off cap d w hH hblk hsz=>AnyQ.slices_SortFunc Try.sortIv 2 Try.isAgg46 Try.sizeOf46 eV (fun _=>rfl) (fun x v hv=>by simp[eV] at hv;rcases hv with rfl|rfl<;>rfl) (fun x y=>Lib.compareInt x.1 y.1) po 17 #[] blk off cap d w (enters_of Try.func17 (by kernel_rfl) rfl) (vY blk off d.size w) hH hblk hsz)
  (AnyF.slices_SortFunc_none Try.sortIv)
theorem vI (m:Nat):AnyZI.SortsIn Try.prog Try.sortedA_ren Fence.wide m:=
 ⟨fun blk off cap ss W hH hblk hsz=>callsIn_wide.2 (AnyM.slices_Sort_int Try.sortA blk off cap ss W hH hblk hsz),fun p cap W=>callsIn_wide.2 (AnyM.slices_Sort_int_none Try.sortA p cap W)⟩
theorem vf:cJ Try.prog S0:=wi np vI
theorem orderKnown {W:World} {H:Type} {enc:TypeId×Value->H} {args:List Value} {ds:List (DataW H)} {ps:List MemPlace}
 (h:DataW.TrodAll enc Try.prog W 0 (fun _=>true) true [3] args ds ps) {base:Nat} (hval:∀(j:Nat) t v, [3][j]? =some t->args[j]? =some v->Value.okWide Try.prog W .any base t v):
 Calls Try.prog 4 args.toArray W fun e W'=>e= .returned (.bool true)/\Below W.heap.size W W':=by
 obtain ⟨v0,vs0,d0,ds0,p0,q0,rfl,rfl,rfl,h0,r0⟩:=trodAll_cons h
 obtain ⟨rfl,rfl,rfl⟩:=trodAll_nil r0
 obtain ⟨n,rfl,_⟩:=open_int Try.underlying3 (hval 0 3 v0 rfl rfl) h0
 obtain ⟨x,hx,hr⟩:=xQ n
 exact rf (args':= [.int .i64 n]) mixed Try.codeOk vf (ow.run hr) (.cons _ _ _ _ (hx _) .nil) W (Nat.zero_le _)
end
end OD
