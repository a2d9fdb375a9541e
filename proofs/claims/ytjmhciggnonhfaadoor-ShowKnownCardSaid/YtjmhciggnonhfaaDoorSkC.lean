/- A machine that runs the given program with memory and order of evaluation taken apart, and what it shows of the law ShowKnown: part 3. -/
import Derived.Lib.Bytealg
import Derived.Below
import Derived.WideKeyArgs
import Derived.Carry
import Derived.ChangeArms
import Derived.HandedShaped
import Derived.Test.YtjmhciggnonhfaaDoorProg
import Derived.KernelRfl
import Derived.Shelf.Strings.Builder1
import Derived.Test.YtjmhciggnonhfaaDoorRows
import Derived.OpenShut
import Derived.ProofKit
import Derived.Test.YtjmhciggnonhfaaDoorSkB
set_option linter.unusedSimpArgs false
set_option linter.unusedVariables false
set_option linter.unusedSectionVars false
set_option linter.defProp false
namespace Nm
open Go
variable [Val]
omit [Val] in
theorem x1:Extern.allNextRows.lookup "math/bits.Add64" =none:=by kernel_rfl
omit [Val] in
theorem x2:Extern.allNextRows.lookup "" =none:=by kernel_rfl
omit [Val] in
theorem x3:Extern.allGenericRows.lookup "math/bits.Add64" =none:=by kernel_rfl
omit [Val] in
theorem x4:Extern.allTypedRows.lookup "math/bits.Add64" =none:=by kernel_rfl
omit [Val] in
theorem x5:Extern.allRows.lookup "math/bits.Add64" =some add64Entry:=by kernel_rfl
omit [Val] in
theorem y1:Extern.allNextRows.lookup "internal/bytealg.IndexByteString" =none:=by kernel_rfl
omit [Val] in
theorem y3:Extern.allGenericRows.lookup "internal/bytealg.IndexByteString" =none:=by kernel_rfl
omit [Val] in
theorem y4:Extern.allTypedRows.lookup "internal/bytealg.IndexByteString" =none:=by kernel_rfl
omit [Val] in
theorem y5:Extern.allRows.lookup "internal/bytealg.IndexByteString" =some Extern.BytealgIndexByte.indexByte:=by kernel_rfl
omit [Val] in
theorem xL:Extern.allNextRows.lookup "internal/bytealg.CountString" =none:=by kernel_rfl
omit [Val] in
theorem xJ:Extern.allGenericRows.lookup "internal/bytealg.CountString" =none:=by kernel_rfl
omit [Val] in
theorem xI:Extern.allTypedRows.lookup "internal/bytealg.CountString" =none:=by kernel_rfl
omit [Val] in
theorem xK:Extern.allRows.lookup "internal/bytealg.CountString" =some Extern.BytealgCount.count:=by kernel_rfl
omit [Val] in
theorem rv (c:Nat) (hc:c<=255):∀(l:List UInt8) (n:Nat),qu c (l.map UInt8.toNat) n=n+Lib.countByte l c.toUInt8:=by
 intro l
 induction l with
 |nil=>intro n;rfl
 |cons x l ih=>
  intro n
  have e:qu c (List.map UInt8.toNat (x::l)) n=cond (Nat.beq x.toNat c) (ah (Nat.succ n) (qu c (l.map UInt8.toNat))) (qu c (l.map UInt8.toNat) n):=rfl
  rw[e,aa,ih,ih]
  unfold Lib.countByte
  rw[List.count_cons]
  have hb:(x==c.toUInt8)=Nat.beq x.toNat c:=by
   rw[Bool.eq_iff_iff]
   simp only[beq_iff_eq,Nat.beq_eq]
   constructor
   ·intro h;rw[h];simp;omega
   ·intro h;rw[←h];simp
  rw[hb]
  cases Nat.beq x.toNat c<;>simp<;>omega
omit [Val] in
theorem se (c:Nat):∀(l:List Nat) (i:Nat),pC c l i=(l.findIdx? (fun x=>x==c)).map (·+i):=by
 intro l
 induction l with
 |nil=>intro i;rfl
 |cons x l ih=>
  intro i
  have e:pC c (x::l) i=cond (Nat.beq x c) (some i) (ah (Nat.succ i) (pC c l)):=rfl
  rw[e,aa,ih,List.findIdx?_cons]
  cases h:Nat.beq x c with
  |true=>have:=xS h;simp[this]
  |false=>
   have:=Nat.ne_of_beq_eq_false h
   simp only[cond_false]
   rw[xO (by simpa using this)]
   cases List.findIdx? (fun x=>x==c) l with
   |none=>rfl
   |some j=>simp;omega
omit [Val] in
theorem nm (p:Nat->Bool):∀n,(List.range n).find? p=none↔∀i,i<n->p i=false:=by
 intro n;simp
omit [Val] in
theorem lg (s:ByteArray) (c:Nat) (hc:c<=255):firstIdx s c.toUInt8=match pC c (s.data.toList.map UInt8.toNat) 0 with|some i=>(i:Int)|none=>-1:=by
 rw[se]
 have hsz:s.data.toList.length=s.size:=aK s
 have hml:(s.data.toList.map UInt8.toNat).length=s.size:=by rw[List.length_map,hsz]
 have hat:∀i (h:i<s.size),(s[i]! ==c.toUInt8)=(((s.data.toList.map UInt8.toNat)[i]'(by rw[hml];exact h))==c):=by
  intro i h
  have e:s[i]! =s.data.toList[i]'(by rw[hsz];exact h):=by
   rw[getElem!_pos s i h];simp[ByteArray.getElem_eq_getElem_data]
  rw[e,List.getElem_map]
  rw[Bool.eq_iff_iff]
  simp only[beq_iff_eq]
  constructor
  ·intro h;rw[h];simp;omega
  ·intro h;rw[←h];simp
 unfold firstIdx
 cases hf:(s.data.toList.map UInt8.toNat).findIdx? (fun x=>x==c) with
 |none=>
  have h1:(List.range s.size).find? (fun i=>s[i]! ==c.toUInt8)=none:=by
   rw[nm]
   intro i hi
   rw[hat i hi]
   rw[List.findIdx?_eq_none_iff] at hf
   exact hf _ (List.getElem_mem _)
  rw[h1];rfl
 |some j=>
  rw[List.findIdx?_eq_some_iff_getElem] at hf
  obtain ⟨hj,h1,h2⟩:=hf
  have hj':j<s.size:=by rw[←hml];exact hj
  have h3:(List.range s.size).find? (fun i=>s[i]! ==c.toUInt8)=some j:=by
   rw[List.find?_range_eq_some]
   refine ⟨?_,by simpa using hj',fun k hk=> ?_⟩
   ·rw[hat j hj'];exact h1
   ·rw[hat k (by omega)]
    simpa using h2 k hk
  rw[h3];simp
section
variable {P:Program} {S:bp} {B:Nat}
theorem oK {ι:aB} {fn:Func} {e:Ext} {f:Nat} (hf:P.funcs[f]? =some fn) (hb:fn.body=none) (he:n9 fn=some e) {args:List NV} {args':List Value} (ha:VRL ι args args') {v:NV} (hv:gj e args=some v) (w:World):
 ∃v',(callFunc f args'.toArray).run P w= .ok (.value v') w/\VR ι v v':=by
 unfold n9 at he
 obtain ⟨ho,he⟩:=am he
 have ho':fn.origin= "" :=by simpa using ho
 cases hn:(fn.name== "math/bits.Add64") with
 |true=>
  rw[hn] at he
  cases he
  have hname:fn.name= "math/bits.Add64" :=by simpa using hn
  have hnx:Extern.findNext fn=none:=by unfold Extern.findNext;rw[hname,ho'];simp only[x1,x2];rfl
  have hfi:Extern.find fn=some add64Entry:=by unfold Extern.find;rw[hname,ho'];simp only[x3,x4,x5];rfl
  have hcall:=run_callFunc_extern hf (by rw[hname];decide) (by rw[hb];rfl) hnx hfi args'.toArray w
  unfold gj at hv
  split at hv
  ·rename_i x y c hargs
   obtain ⟨hc1,hv⟩:=am hv
   rw[aa,aa] at hv
   cases hv
   cases ha with
   |cons _ _ _ _ h1 ha=>
    cases ha with
    |cons _ _ _ _ h2 ha=>
     cases ha with
     |cons _ _ _ _ h3 ha=>
      cases ha
      cases h1;cases h2;cases h3
      have hc:=Nat.le_of_ble_eq_true hc1
      refine ⟨_, ?_,.tup [_,_] [_,_] (.cons _ _ _ _ (.int .u64 _) (.cons _ _ _ _ (.int .u64 _) .nil))⟩
      have:=run_add64 (P:=P) (Int.ofNat x) (Int.ofNat y) (Int.ofNat c) (Int.natCast_nonneg _) (Int.natCast_nonneg _) (Int.natCast_nonneg _) (by show (c:Int)<=1;omega) w
      rw[hcall]
      show Result.andThen (Sem.run P (add64Entry #[.int .u64 (Int.ofNat x),.int .u64 (Int.ofNat y),.int .u64 (Int.ofNat c)]) w) _=_
      rw[this]
      rfl
  ·rename_i h;cases h
  ·rename_i h;cases h
  ·cases hv
 |false=>
  rw[hn] at he
  simp only[cond_false] at he
  cases hn2:(fn.name== "internal/bytealg.IndexByteString") with
  |true=>
   rw[hn2] at he
   cases he
   have hname:fn.name= "internal/bytealg.IndexByteString" :=by simpa using hn2
   have hnx:Extern.findNext fn=none:=by unfold Extern.findNext;rw[hname,ho'];simp only[y1,x2];rfl
   have hfi:Extern.find fn=some Extern.BytealgIndexByte.indexByte:=by unfold Extern.find;rw[hname,ho'];simp only[y3,y4,y5];rfl
   have hcall:=run_callFunc_extern hf (by rw[hname];decide) (by rw[hb];rfl) hnx hfi args'.toArray w
   unfold gj at hv
   split at hv
   ·rename_i h;cases h
   ·rename_i s c _
    obtain ⟨hc1,hv⟩:=am hv
    have hc:=Nat.le_of_ble_eq_true hc1
    cases ha with
    |cons _ _ _ _ h1 ha=>
     cases ha with
     |cons _ _ _ _ h2 ha=>
      cases ha
      cases h2
      cases h1 with
      |str l s' hs=>
       subst hs
       have hrun:=run_indexByte_string (P:=P) s' (Int.ofNat c) w
       refine ⟨.int .i64 (firstIdx s' c.toUInt8), ?_, ?_⟩
       ·rw[hcall]
        show Result.andThen (Sem.run P (Extern.BytealgIndexByte.indexByte #[.string s',.int .u8 (Int.ofNat c)]) w) _=_
        rw[hrun]
        rfl
       ·rw[lg s' c hc]
        cases hi:pC c (s'.data.toList.map UInt8.toNat) 0 with
        |none=>rw[hi] at hv;cases hv;exact .int .i64 _
        |some i=>rw[hi] at hv;cases hv;exact .int .i64 _
   ·rename_i h;cases h
   ·cases hv
  |false=>
   rw[hn2] at he
   simp only[cond_false] at he
   obtain ⟨hn3,he⟩:=am he
   cases he
   have hname:fn.name= "internal/bytealg.CountString" :=by simpa using hn3
   have hnx:Extern.findNext fn=none:=by unfold Extern.findNext;rw[hname,ho'];simp only[xL,x2];rfl
   have hfi:Extern.find fn=some Extern.BytealgCount.count:=by unfold Extern.find;rw[hname,ho'];simp only[xJ,xI,xK];rfl
   have hcall:=run_callFunc_extern hf (by rw[hname];decide) (by rw[hb];rfl) hnx hfi args'.toArray w
   unfold gj at hv
   split at hv
   ·rename_i h;cases h
   ·rename_i h;cases h
   ·rename_i s c _
    obtain ⟨hc1,hv⟩:=am hv
    have hc:=Nat.le_of_ble_eq_true hc1
    cases hv
    cases ha with
    |cons _ _ _ _ h1 ha=>
     cases ha with
     |cons _ _ _ _ h2 ha=>
      cases ha
      cases h2
      cases h1 with
      |str l s' hs=>
       subst hs
       refine ⟨.int .i64 (Lib.countByte s'.data.toList c.toUInt8), ?_, ?_⟩
       ·rw[hcall]
        show Result.andThen (Sem.run P (Extern.BytealgCount.count #[.string s',.int .u8 (Int.ofNat c)]) w) _=_
        rw[Lib.run_countString]
        rfl
       ·rw[rv c hc,Nat.zero_add]
        exact .int .i64 _
   ·cases hv
def cS (P:Program) (S:bp):Prop:=
 ∀(ι:aB) (B:Nat) (h:NH) (w:World) (f:Nat) (args:List NV) (args':List Value) (v:NV) (h':NH),S f args h=some (v,h')->Rel P ι B h w->B<=w.heap.size->VRL ι args args'->
  jC P ι B h w ((callFunc f args'.toArray).run P w) (.val v none h')
theorem pY:cS P xF:=fun _ _ _ _ _ _ _ _ _ h=>by cases h
omit [Val] in
theorem pj {f:Nat} {e:Ext} (h:ai P f=some (.ext e)):∃fn,P.funcs[f]? =some fn/\fn.body=none/\n9 fn=some e:=by
 unfold ai at h
 split at h
 ·rename_i fn hfn
  cases hn:(fn.name== "runtime.NumGoroutine") with
  |true=>rw[hn] at h;cases h
  |false=>
   rw[hn] at h
   simp only[cond_false] at h
   split at h
   ·split at h
    ·rw[aa] at h;cases h
    ·cases h
   ·rename_i hb
    split at h
    ·rename_i e' he;cases h;exact ⟨fn,hfn,hb,he⟩
    ·cases h
 ·cases h
omit [Val] in
theorem cJ {fr:Frame} {w:World} {e:Ending} (hk:fr.kind= .normal) (h:fr.going P w e):fr.leaving P w e:=by
 cases e with
 |returned v=>exact ⟨h.1,h.2.1,hk,h.2.2⟩
 |panicked c=>exact h
 |outgrown=>trivial
theorem g9 (hK:fh P) (hS:cS P S) {n:Nat} (hO:dC P S n) (ι:aB) (B:Nat) (h:NH) (w:World) (f:Nat) (args:List NV) (args':List Value) (hR:Rel P ι B h w) (hB:B<=w.heap.size) (ha:VRL ι args args'):
 jC P ι B h w ((callFunc f args'.toArray).run P w) (bi P S (ev P S n) f args h):=by
 unfold bi
 cases hs:S f args h with
 |some v=>exact hS ι B h w f args args' v.1 v.2 hs hR hB ha
 |none=>
  dsimp only
  cases hcf:ai P f with
  |none=>trivial
  |some x=>
   cases x with
   |ext e=>
    dsimp only
    cases hx:gj e args with
    |none=>trivial
    |some v=>
     intro c cs
     obtain ⟨fn,h1,h2,h3⟩:=pj hcf
     obtain ⟨v',e1,e2⟩:=oK h1 h2 h3 ha hx w
     exact ⟨ι,v',w,e2,hR,hB,.refl _ _ _,.inl e1⟩
   |code nf=>
    dsimp only
    have hD:=gq hK hO 3 f args none h
    obtain ⟨fn,code,e1,e2,e3,_⟩:=eg hcf
    have hent:=gm (P:=P) e1 e2 e3 args'.toArray w
    cases hr:bG P (ev P S n) 3 f args none h with
    |fail=>trivial
    |val v x h'=>
     intro c cs
     obtain ⟨_,hF⟩:=hD (by rw[hr];simp)
     have hF:=hF B ι w args' .normal (c::cs) hR hB ha (fun b hb=>by unfold tryRecover;rw[hb])
     rw[hr] at hF
     obtain ⟨ι',v',w',cs',fr,f1,f2,f3,f4,f5,f6,f7,_,f8⟩:=hF
     obtain ⟨rfl,_⟩:=f5.none
     exact ⟨ι',v',w',f1,f2,f3,f4,.inr ⟨w,.inl ⟨f,args'.toArray,hent,Steps.trans f6 (.one (step_leave_returned (cJ f7 f8)))⟩⟩⟩
    |pan v x h'=>
     intro c cs
     obtain ⟨_,hF⟩:=hD (by rw[hr];simp)
     have hF:=hF B ι w args' .normal (c::cs) hR hB ha (fun b hb=>by unfold tryRecover;rw[hb])
     rw[hr] at hF
     obtain ⟨ι',v',w',cs',fr,f1,f2,f3,f4,f5,f6,f7,_,f8⟩:=hF
     obtain ⟨rfl,_⟩:=f5.none
     exact ⟨ι',v',w',f1,f2,f3,f4,w,.inl ⟨f,args'.toArray,hent,Steps.trans f6 (.one (step_leave_panicked (cJ f7 f8)))⟩⟩
noncomputable def kv:List D4->List NV->Tm->Tm
 |p::ps,v::vs,t=>kv ps vs (NT.put p v t)
 |_,_,t=>t
omit [Val] in
theorem gK {r:CR} (hr:r≠.fail) {K:Tm->CR}:∀{ps:List D4} {vs:List NV} {t:Tm},bR .fail ps vs t K=r->vs.length=ps.length/\K (kv ps vs t)=r:=by
 intro ps
 induction ps with
 |nil=>
  intro vs t h
  cases vs with
  |nil=>exact ⟨rfl,h⟩
  |cons v vs=>exact xN (show CR.fail=r from h).symm hr
 |cons p ps ih=>
  intro vs t h
  cases vs with
  |nil=>exact xN (show CR.fail=r from h).symm hr
  |cons v vs=>
   have e:bR .fail (p::ps) (v::vs) t K=NT.set p v t fun t=>bR .fail ps vs t K:=rfl
   rw[e,NT.set_eq] at h
   obtain ⟨h1,h2⟩:=ih h
   exact ⟨by simp[h1],h2⟩
theorem rO {ι:aB}:∀{ps:List Nat} {vs:List NV} {vs':List Value} {t:Tm} {a:Array Value},VRL ι vs vs'->TR ι t a->(∀q∈ps,q<a.size)->
 TR ι (kv (ps.map D4.of) vs t) ((ps.zip vs').foldl (fun tmps (t,a)=>tmps.setIfInBounds t a) a)/\((ps.zip vs').foldl (fun tmps (t,a)=>tmps.setIfInBounds t a) a).size=a.size:=by
 intro ps
 induction ps with
 |nil=>intro vs vs' t a _ hT _;cases vs<;>exact ⟨hT,rfl⟩
 |cons p ps ih=>
  intro vs vs' t a hv hT hp
  cases hv with
  |nil=>exact ⟨hT,rfl⟩
  |cons v v' vs vs' h1 h2=>
   have hT':=hT.put (hp p (by simp)) h1
   obtain ⟨q1,q2⟩:=ih h2 hT' (fun q hq=>by simp;exact hp q (by simp[hq]))
   exact ⟨q1,q2.trans (by simp)⟩
def wJ (P:Program) (B:Nat) (ι:aB) (h:NH) (w:World) (fr0:Frame) (c:Frame) (cs:List Frame):CR->Prop
 | .fail=>True
 | .val v _ h'=>∃ι' v' w',VR ι' v v'/\Rel P ι' B h' w'/\B<=w'.heap.size/\Grow ι h w ι' h' w'/\Steps P (lone fr0 (c::cs) w) (lone (c.finish v') cs w')
 | .pan v _ h'=>∃ι' v' w',VR ι' v v'/\Rel P ι' B h' w'/\B<=w'.heap.size/\Grow ι h w ι' h' w'/\Steps P (lone fr0 (c::cs) w) (lone (c.raise [{v:=v',recovered:=false}]) cs w')
theorem gG {n:Nat} (hO:dC P S n) (ι:aB) (B:Nat) (h:NH) (w:World) (l:D4) (p:Pl) (args:List NV) (args':List Value) (hR:Rel P ι B h w) (hB:B<=w.heap.size) (ha:VRL ι args args') (hp:ι l=some p):
 jC P ι B h w ((Instr.yield p.b args'.toArray).run P w) (round (ev P S n) l args h):=by
 by_cases hne:round (ev P S n) l args h= .fail
 ·rw[hne];trivial
 generalize hrr:round (ev P S n) l args h=r at hne
 have hrr':=hrr
 unfold round at hrr'
 obtain ⟨ob,ho1,ho2⟩:=hR.obj _ _ hp
 rw[ho1] at hrr'
 cases ob with
 |loop st pd tm ps na nb=>
  cases st with
  |succ st=>exact xN hrr'.symm hne
  |zero=>
   obtain ⟨L,l1,l2,l3,l4,l5,l6,l7,⟨fn,bl,la,lb,l8,l9,l10,l11,_⟩,l12⟩:=ho2
   obtain ⟨hlen,hrr2⟩:=gK hne hrr'
   have hsz:args'.toArray.size=L.params.size:=by
    have:=ha.length
    rw[l5] at hlen
    simp at hlen ⊢;omega
   have hy:=run_yield (P:=P) l1 hsz
   obtain ⟨t1,t2⟩:=rO (ps:=L.params.toList) ha l4 l12
   have hz:(L.params.zip args'.toArray).foldl (fun tmps (t,a)=>tmps.setIfInBounds t a) L.tmps=(L.params.toList.zip args').foldl (fun tmps (t,a)=>tmps.setIfInBounds t a) L.tmps:=by
    rw[←Array.foldl_toList,Array.toList_zip]
   rw[hz] at hy
   rw[←l5] at t1
   generalize (L.params.toList.zip args').foldl (fun tmps (t,a)=>tmps.setIfInBounds t a) L.tmps=tmps at hy t1 t2
   let b:Frame:={(default:Frame) with fn:=L.fn,kind:= .normal,roundOf:=some p.b}
   have hfr:Frame.round p.b L.fn tmps L.assign L.body .normal=b.atR {tmps:=tmps,defers:= []} [.code L.assign,.beginRound,.code L.body]:=by
    simp[Frame.round,Frame.atR,b]
   cases hev:ev P S n (some l) na ⟨kv ps args tm, [],none,h⟩ with
   |fail=>rw[hev] at hrr2;exact xN hrr2.symm hne
   |mk o d=>
    rw[hev] at hrr2
    cases o with
    |norm=>
     dsimp only at hrr2
     cases hdd:d.dfs with
     |cons x xs=>rw[hdd] at hrr2;exact xN hrr2.symm hne
     |nil=>
      rw[hdd] at hrr2
      have hrb:bk (ev P S n) l nb d.t d.h=r:=hrr2
      have main:∀(c:Frame) (cs:List Frame),wJ P B ι h w (Frame.round p.b L.fn tmps L.assign L.body .normal) c cs r:=by
       intro c cs
       have hctx:∀ι:aB,mX ι b.kind (c::cs) none:=fun ι b' hb'=>by unfold tryRecover;rw[hb']
       have hs:Sd P ι B (some l) [] none h b ([]:List Deferred) (c::cs) w:=⟨trivial,hctx ι,hR,hB,⟨p,hp,rfl⟩⟩
       have hgo:=hO L.assign na fn [] [] l6 l10 (some l) ⟨kv ps args tm, [],none,h⟩ .norm d hev (.code L.assign) (.inl rfl) B b [.beginRound,.code L.body] ι {tmps:=tmps,defers:= []} (c::cs) w l8 t1 hs (by rw[t2];exact l9)
       obtain ⟨ι1,a1,cs1,w1,g1,g2,g3,g4⟩:=hgo
       obtain ⟨rfl,hctx1⟩:=g3.ca.none
       have sd1:=g3.sd
       have hdef1:a1.defers= []:=by
        have:=sd1.df
        rw[hdd] at this
        cases hq:a1.defers with
        |nil=>rfl
        |cons d ds=>rw[hq] at this;exact this.elim
       have hp1:ι1 l=some p:=g3.gr.le _ _ hp
       obtain ⟨ob1,ho3,ho4⟩:=sd1.rel.obj _ _ hp1
       have hrb':=hrb
       unfold bk at hrb'
       rw[ho3] at hrb'
       cases ob1 with
       |loop st1 pd1 tm1 ps1 na1 nb1=>
        cases st1 with
        |succ st1=>exact xN hrb'.symm hne
        |zero=>
         replace hrb':d.h.set l (.loop 1 pd1 tm1 ps1 na1 nb1) (fun h=>match ev P S n (some l) nb ⟨d.t, [],none,h⟩ with
          | .mk o d=>(match o with
           | .pan v=>(match d.dfs with| []=>CR.pan v none d.h|_=> .fail)
           |o=>cO l o d.h)
          | .fail=> .fail)=r:=hrb'
         rw[NH.set_eq] at hrb'
         obtain ⟨L1,m1,m2,m3⟩:=ho4
         have hbr:=run_beginRound (P:=P) m1 m2
         have hlt1:=sd1.rel.lt _ _ hp1
         have hst1:SR 1 ({L1 with state:= .busy}:Loop).state:=rfl
         obtain ⟨u1,u2⟩:=sd1.rel.turn (w':=w1.putObj p.b (.loop {L1 with state:= .busy})) hp1 (by rw[ho3];simp) (.loop 1 pd1 tm1 ps1 na1 nb1)
          ⟨_,World.putObj_heap_same hlt1,hst1,m3⟩ (by simp) rfl rfl rfl (fun q hq=>World.putObj_heap_other hq)
         have hbeg:=stepR_beginRound (P:=P) (b:=b) (a:=a1) (k:= [.code L.body]) (cs:=c::cs) rfl hbr
         have hs2:Sd P ι1 B (some l) [] none (d.h.put l (.loop 1 pd1 tm1 ps1 na1 nb1)) b a1.defers (c::cs) (w1.putObj p.b (.loop {L1 with state:= .busy})):=
          ⟨by rw[hdef1];trivial,hctx ι1,u1,by simpa using sd1.base,⟨p,hp1,rfl⟩⟩
         generalize w1.putObj p.b (.loop {L1 with state:= .busy})=w2 at *
         generalize d.h.put l (.loop 1 pd1 tm1 ps1 na1 nb1)=h2 at *
         cases hev2:ev P S n (some l) nb ⟨d.t, [],none,h2⟩ with
         |fail=>rw[hev2] at hrb';exact xN hrb'.symm hne
         |mk o2 d2=>
          rw[hev2] at hrb'
          have hgo2:=hO L.body nb fn bl la l7 l11 (some l) ⟨d.t, [],none,h2⟩ o2 d2 hev2 (.code L.body) (.inl rfl) B b [] ι1 a1 (c::cs) w2 l8 g2 hs2 (by rw[g4,t2];exact l9)
          obtain ⟨ι3,a3,cs3,w3,e1,e2,e3,e4⟩:=hgo2
          obtain ⟨rfl,_⟩:=e3.ca.none
          have hp3:ι3 l=some p:=e3.gr.le _ _ hp1
          have hpre:Steps P (lone (Frame.round p.b L.fn tmps L.assign L.body .normal) (c::cs) w) (lone (b.atR a1 [.code L.body]) (c::cs) w2):=by
           rw[hfr];exact Steps.trans g1 (.one hbeg)
          have hgr:=(g3.gr.trans u2).trans e3.gr
          have fin:∀(jump:Option Code) (st':Nat) (pd':Jump),cO l o2 d2.h=r->(∀tm ps na nb,(match o2 with
           | .norm=>(d2.h.set l (.loop 0 .none tm ps na nb) fun h=>CR.val (.bool true) none h)
           | .ret=>d2.h.set l (.loop 2 .ret tm ps na nb) fun h=> .val (.bool false) none h
           | .exit id=>d2.h.set l (.loop 2 (.exit id) tm ps na nb) fun h=> .val (.bool false) none h
           | .pan _=> .fail)= .val (.bool jump.isNone) none (d2.h.put l (.loop st' pd' tm ps na nb)))->
           (SR st' (if jump.isNone then .ready else .done))->JR pd' jump->
           (∀(v:Value) (w4:World),(Instr.endRound p.b jump).run P w3= .ok v w4->Steps P (lone (b.atR a1 [.code L.body]) (c::cs) w2) (lone (c.finish v) cs w4))->
           wJ P B ι h w (Frame.round p.b L.fn tmps L.assign L.body .normal) c cs r:=by
           intro jump st' pd' hre hval hSR hJR hsteps
           unfold cO at hre
           obtain ⟨ob3,ho5,ho6⟩:=e3.sd.rel.obj _ _ hp3
           rw[ho5] at hre
           cases ob3 with
           |loop st3 pd3 tm3 ps3 na3 nb3=>
            have hre':=(hval tm3 ps3 na3 nb3).symm.trans hre
            rw[←hre']
            obtain ⟨L3,k1,k2,k3,k4⟩:=ho6
            have hend:=run_endRound (P:=P) jump k1
            have hlt3:=e3.sd.rel.lt _ _ hp3
            obtain ⟨z1,z2⟩:=e3.sd.rel.turn (w':=w3.putObj p.b (.loop {L3 with state:=if jump.isNone then .ready else .done,pending:=jump})) hp3 (by rw[ho5];simp) (.loop st' pd' tm3 ps3 na3 nb3)
             ⟨_,World.putObj_heap_same hlt3,hSR,hJR,k4⟩ (by simp) rfl rfl rfl (fun q hq=>World.putObj_heap_other hq)
            exact ⟨ι3,.bool jump.isNone,_,.bool _,z1,by simpa using e3.sd.base,hgr.trans z2,hpre.trans (hsteps _ _ hend)⟩
           |_=>exact xN hre.symm hne
          cases o2 with
          |norm=>
           exact fin none 0 .none hrb' (fun tm ps na nb=>NH.set_eq _ _ _ _) rfl rfl fun v w4 he=>Steps.trans e1 (.one (stepR_round_end rfl rfl he))
          |ret=>
           obtain ⟨k0,e1⟩:=e1
           exact fin (some .ret) 2 .ret hrb' (fun tm ps na nb=>NH.set_eq _ _ _ _) rfl rfl fun v w4 he=>Steps.trans e1 (.one (stepR_round_ret rfl rfl he))
          |exit id=>
           obtain ⟨k0,e0,e1⟩:=e1
           exact fin (some (.exit id)) 2 (.exit id) hrb' (fun tm ps na nb=>NH.set_eq _ _ _ _) rfl rfl fun v w4 he=>Steps.trans e1 (.one (stepR_round_exit rfl rfl (by rw[e0];rfl) he))
          |pan v=>
           dsimp only at hrb'
           cases hd2:d2.dfs with
           |cons x xs=>rw[hd2] at hrb';exact xN hrb'.symm hne
           |nil=>
            rw[hd2] at hrb'
            rw[←show CR.pan v none d2.h=r from hrb']
            obtain ⟨td,v',f1,f2⟩:=e1
            have hdef3:a3.defers= []:=by
             have:=e3.sd.df
             rw[hd2] at this
             cases hq:a3.defers with
             |nil=>rfl
             |cons d ds=>rw[hq] at this;exact this.elim
            refine ⟨ι3,v',w3,f1,e3.sd.rel,e3.sd.base,hgr,hpre.trans (Steps.trans f2 (.one (step_leave_panicked ⟨rfl,hdef3,fn,l8⟩)))⟩
       |_=>exact xN hrb'.symm hne
      cases r with
      |fail=>trivial
      |val v x h'=>
       intro c cs
       obtain ⟨ι',v',w',q1,q2,q3,q4,q5⟩:=main c cs
       exact ⟨ι',v',w',q1,q2,q3,q4,.inr ⟨w,.inr ⟨p.b,L.fn,tmps,L.assign,L.body,hy,q5⟩⟩⟩
      |pan v x h'=>
       intro c cs
       obtain ⟨ι',v',w',q1,q2,q3,q4,q5⟩:=main c cs
       exact ⟨ι',v',w',q1,q2,q3,q4,w,.inr ⟨p.b,L.fn,tmps,L.assign,L.body,hy,q5⟩⟩
    |_=>exact xN hrr2.symm hne
 |_=>exact xN hrr'.symm hne
theorem m5 (hM:P.follows .mixedOrders=true) (hK:fh P) (hS:cS P S):∀n,dC P S n/\CallsOK P S (ev P S n):=by
 intro n
 induction n with
 |zero=>
  have h0:dC P S 0:=fun c nc fn bl la _ _ rnd d o d' h=>by cases h
  exact ⟨h0,⟨g9 hK hS h0,gG h0⟩⟩
 |succ n ih=>
  have h1:dC P S (n+1):=oY hM ih.1 ih.2
  exact ⟨h1,⟨g9 hK hS h1,gG h1⟩⟩
end
end Nm
namespace Nm
open Go Go.RowKit
noncomputable def pZ (n:Nat):NT NO:=Nat.rec .leaf (fun k t=>NT.put (D4.of k) .dead t) n
noncomputable def G0:NH:=⟨pZ NG,D4.of NG⟩
theorem oJ (n k:Nat):NT.get (D4.of k) (pZ n)=if k<n then some .dead else none:=by
 induction n with
 |zero=>exact NT.get_leaf _
 |succ n ih=>
  show NT.get (D4.of k) (NT.put (D4.of n) .dead (pZ n))=_
  by_cases e:k=n
  ·subst e;rw[NT.get_put_same,xP (Nat.lt_succ_self k)]
  ·rw[NT.get_put_ne (fun x=>e (D4.of_inj x)),ih]
   by_cases h:k<n
   ·rw[xP h,xP (by omega)]
   ·rw[xO h,xO (by omega)]
theorem qz (i:D4):G0.get i=if i.toNat<NG then some .dead else none:=by
 rw[←oJ NG i.toNat,D4.of_toNat];rfl
def ι0:aB:=fun i=>if i.toNat<NG then some ⟨i.toNat,0,GN i.toNat⟩ else none
theorem qU {i:D4} {p:Pl} (h:ι0 i=some p):i.toNat<NG/\p=⟨i.toNat,0,GN i.toNat⟩:=by
 unfold ι0 at h
 split at h
 ·exact ⟨‹_›,(Option.some.inj h).symm⟩
 ·cases h
theorem vt:uT ι0:=fun g hg=>by unfold ι0;rw[D4.toNat_of,xP hg]
theorem eh {i:D4} {p:Pl} (h:ι0 i=some p):G0.get i=some .dead:=by rw[qz,xP (qU h).1]
theorem bE:¬Live (some .dead):=fun h=>h.1 rfl
variable [Val]
theorem ub (P:Program) (w:World) (hw:NG<=w.heap.size):Rel P ι0 w.heap.size G0 w where
 obj:=fun i p h=>⟨.dead,eh h,trivial⟩
 inj:=fun i j p q h _ _ hl _=>xN (eh h▸hl) bE
 base:=fun i p h hl=>xN (eh h▸hl) bE
 lt:=fun i p h=>by have:=qU h;rw[this.2];exact Nat.lt_of_lt_of_le this.1 hw
 fresh:=fun i o h=>by
  rw[qz] at h
  split at h
  ·show i.toNat<(D4.of NG).toNat;rw[D4.toNat_of];assumption
  ·cases h
 gl:=vt
theorem Rel.room {P:Program} {ι:aB} {B:Nat} {h:NH} {w:World} (r:Rel P ι B h w):NG<=w.heap.size:=by
 rcases Nat.eq_zero_or_pos NG with h0|h0
 ·rw[h0];exact Nat.zero_le _
 ·have h1:=r.gl (NG - 1) (by omega)
  have h2:=r.lt _ _ h1
  dsimp only at h2
  omega
noncomputable def jV (m:NH) (cf:Nat->Option NFn) (S:bp) (n f:Nat) (args:List NV):CR:=bG cf (ev cf S n) 3 f args none m
noncomputable def nI (cf:Nat->Option NFn) (S:bp) (n f:Nat) (args:List NV):CR:=jV G0 cf S n f args
noncomputable def mJ (r:CR):Bool:=
 match r with
 | .val (.bool b) _ _=>b
 |_=>false
noncomputable def a6 (cf:Nat->Option NFn) (S:bp) (n f:Nat) (args:List NV):Bool:=mJ (nI cf S n f args)
theorem lC {P:Program} {S:bp} (hM:P.follows .mixedOrders=true) (hP:P.check= .ok ()) (hS:cS P S) {m:NH} {n f:Nat} {args:List NV} {v:NV} {x:Option NV} {h:NH} (hr:jV m P S n f args= .val v x h)
 {ι:aB} {w:World} (hR:Rel P ι w.heap.size m w) (hlive:∀i p,ι i=some p->¬Live (m.get i)) {args':List Value} (ha:VRL ι args args'):
 Calls P f args'.toArray w fun e w'=>(∃ι v',e= .returned v'/\VR ι v v'/\Rel P ι w.heap.size h w')/\Below w.heap.size w w':=by
 intro cs
 obtain ⟨hO,_⟩:=m5 hM (lz hP) hS n
 have hD:=gq (lz hP) hO 3 f args none m
 obtain ⟨_,hF⟩:=hD (by rw[show bG P (ev P S n) 3 f args none m= .val v x h from hr];simp)
 have hF:=hF w.heap.size ι w args' .normal cs hR (Nat.le_refl _) ha (fun b hb=>by unfold tryRecover;rw[hb])
 rw[show bG P (ev P S n) 3 f args none m= .val v x h from hr] at hF
 obtain ⟨ι',v',w',cs',fr,f1,f2,f3,f4,f5,f6,f7,f8,f9⟩:=hF
 obtain ⟨rfl,_⟩:=f5.none
 refine ⟨.returned v',w',fr,⟨⟨ι',v',rfl,f1,f2⟩,⟨f4.os,f4.tape,f4.output,f4.size,fun k hk=>f4.frame k hk fun i p hi hl=>xN hl (hlive i p hi)⟩⟩,f6,f8,cJ f7 f9⟩
theorem rx {P:Program} {S:bp} (hM:P.follows .mixedOrders=true) (hP:P.check= .ok ()) (hS:cS P S) {n f:Nat} {args:List NV} {v:NV} {x:Option NV} {h:NH} (hr:nI P S n f args= .val v x h) {args':List Value} (ha:VRL ι0 args args') (w:World) (hw:NG<=w.heap.size):
 Calls P f args'.toArray w fun e w'=>(∃ι v',e= .returned v'/\VR ι v v'/\Rel P ι w.heap.size h w')/\Below w.heap.size w w':=
 lC hM hP hS hr (ub P w hw) (fun i p hi=>by rw[eh hi];exact bE) ha
theorem oZ {P:Program} {S:bp} (hM:P.follows .mixedOrders=true) (hP:P.check= .ok ()) (hS:cS P S) {m:NH} {n f:Nat} {args:List NV} (hr:mJ (jV m P S n f args)=true)
 {ι:aB} {w:World} (hR:Rel P ι w.heap.size m w) (hlive:∀i p,ι i=some p->¬Live (m.get i)) {args':List Value} (ha:VRL ι args args'):
 Calls P f args'.toArray w fun e w'=>e= .returned (.bool true)/\Below w.heap.size w w':=by
 unfold mJ at hr
 split at hr
 ·rename_i b x h hv
  subst hr
  refine (lC hM hP hS hv hR hlive ha).mono ?_
  rintro e w' ⟨⟨ι,v',he,hvr,_⟩,hb⟩
  cases hvr
  exact ⟨he,hb⟩
 ·cases hr
theorem qt {P:Program} {S:bp} (hM:P.follows .mixedOrders=true) (hP:P.check= .ok ()) (hS:cS P S) {n f:Nat} {args:List NV} (hr:a6 P S n f args=true) {args':List Value} (ha:VRL ι0 args args') (w:World) (hw:NG<=w.heap.size):
 Calls P f args'.toArray w fun e w'=>e= .returned (.bool true)/\Below w.heap.size w w':=
 oZ hM hP hS hr (ub P w hw) (fun i p hi=>by rw[eh hi];exact bE) ha
end Nm
namespace Nm
open Go Go.RowKit
variable [Val]
mutual
def cd:NV->Bool
 | .bool _| .int _ _| .str _| .nilp| .nils| .nilm| .nilf| .nili=>true
 | .ifc _ v=>cd v
 | .agg l=>eK l
 | .tup l=>eK l
 |_=>false
def eK:List NV->Bool
 | []=>true
 |v::l=>cd v&&eK l
end
mutual
theorem VR.plain {ι ι':aB}:∀{v:NV} {v':Value},VR ι v v'->cd v=true->VR ι' v v'
 |_,_,.bool b,_=> .bool b
 |_,_,.int k n,_=> .int k n
 |_,_,.ige k a n h,_=> .ige k a n h
 |_,_,.ile k a n h,_=> .ile k a n h
 |_,_,.sym k c ts n h hn,_=> .sym k c ts n h hn
 |_,_,.str l s h,_=> .str l s h
 |_,_,.nilp,_=> .nilp
 |_,_,.ptr ..,h=>by simp[cd] at h
 |_,_,.nils,_=> .nils
 |_,_,.slc ..,h=>by simp[cd] at h
 |_,_,.nilm,_=> .nilm
 |_,_,.map ..,h=>by simp[cd] at h
 |_,_,.nilf,_=> .nilf
 |_,_,.fn ..,h=>by simp[cd] at h
 |_,_,.yld ..,h=>by simp[cd] at h
 |_,_,.nili,_=> .nili
 |_,_,.ifc t v v' h,k=> .ifc t v v' (VR.plain h (by simpa [cd] using k))
 |_,_,.agg l l' h h1,k=> .agg l l' (VRL.plain h (by simpa [cd] using k)) h1
 |_,_,.tup l l' h,k=> .tup l l' (VRL.plain h (by simpa [cd] using k))
theorem VRL.plain {ι ι':aB}:∀{l:List NV} {l':List Value},VRL ι l l'->eK l=true->VRL ι' l l'
 |_,_,.nil,_=> .nil
 |_,_,.cons v v' l l' h hl,k=> .cons v v' l l' (VR.plain h (by simp[eK] at k;exact k.1)) (VRL.plain hl (by simp[eK] at k;exact k.2))
end
noncomputable def vQ (f:Nat) (args:List NV) (v:NV) (S:bp):bp:=fun g l=>
 cond (Nat.beq g f) (cond (fJ (cE 3) l args) (fun h=>some (v,h)) (S g l)) (S g l)
noncomputable def lE (cf:Nat->Option NFn) (S:bp) (n f:Nat) (args:List NV) (v:NV):Bool:=
 match nI cf S n f args with
 | .val u _ _=>cond (eK args) (cond (cd v) (cE 5 u v) false) false
 |_=>false
omit [Val] in
theorem lD {P:Program} {self:Option D4->NC->Dyn->Res} {d f:Nat} {args:List NV} {ctx:Option NV} {h:NH} (hn:bG P self d f args ctx h≠.fail):∃nf,ai P f=some (.code nf):=by
 cases d with
 |zero=>exact xN rfl hn
 |succ d=>
  rw[eM] at hn
  cases hc:ai P f with
  |none=>rw[hc] at hn;exact xN rfl hn
  |some x=>
   cases x with
   |code nf=>exact ⟨nf,rfl⟩
   |ext e=>rw[hc] at hn;exact xN rfl hn
theorem rz {P:Program} {S:bp} (hM:P.follows .mixedOrders=true) (hP:P.check= .ok ()) (hS:cS P S) {n f:Nat} {args:List NV} {v:NV} (hr:lE P S n f args v=true):cS P (vQ f args v S):=by
 intro ι B h w g l l' u hh hg hR hB hl
 have hg':cond (Nat.beq g f) (cond (fJ (cE 3) l args) (fun h=>some (v,h)) (S g l)) (S g l) h=some (u,hh):=hg
 by_cases h1:Nat.beq g f=true/\fJ (cE 3) l args=true
 ·obtain ⟨h2,h3⟩:=h1
  rw[h2,h3] at hg'
  cases hg'
  have:=xS h2
  subst this
  have:=e9 (fo 3) h3
  subst this
  unfold lE at hr
  split at hr
  ·rename_i u x h0 hrun
   obtain ⟨p1,hr⟩:=bF hr
   obtain ⟨p2,hr⟩:=bF hr
   have:=fo _ _ _ hr
   subst this
   intro c cs
   have hcalls:=rx hM hP hS hrun (hl.plain p1) w hR.room
   obtain ⟨e,w',fr,⟨⟨ι1,v',he,hv,_⟩,hb⟩,hcomes,hfn,hleave⟩:=hcalls (c::cs)
   subst he
   obtain ⟨nf,hnf⟩:=lD (show bG P (ev P S n) 3 g l none G0≠.fail by rw[show bG P (ev P S n) 3 g l none G0=_ from hrun];simp)
   obtain ⟨fn,code,e1,e2,e3,_⟩:=eg hnf
   refine ⟨ι,v',w',hv.plain p2,⟨fun i p hi=> ?_,hR.inj,hR.base,fun i p hi=>Nat.lt_of_lt_of_le (hR.lt i p hi) hb.size,hR.fresh,hR.gl⟩,Nat.le_trans hB hb.size, ?_,.inr ⟨w,.inl ⟨g,l'.toArray,gm e1 e2 e3 _ w,Steps.trans hcomes (.one (step_leave_returned hleave))⟩⟩⟩
   ·obtain ⟨o,o1,o2⟩:=hR.obj i p hi
    exact ⟨o,o1,o2.mono (aB.le_refl _) (hb.block _ (hR.lt i p hi))⟩
   ·exact ⟨aB.le_refl _,Nat.le_refl _,fun _ _ x=> .inl x,fun i p x y=> .inr ⟨i,p,x,y,rfl⟩,fun _ _ _=>rfl,hb.size,hb.os,hb.tape,hb.output,fun b hb' _=>hb.block b hb'⟩
  ·cases hr
 ·have:S g l h=some (u,hh):=by
   cases h2:Nat.beq g f with
   |false=>rw[h2] at hg';exact hg'
   |true=>
    rw[h2] at hg'
    cases h3:fJ (cE 3) l args with
    |false=>rw[h3] at hg';exact hg'
    |true=>exact xN ⟨h2,h3⟩ h1
  exact hS ι B h w g l l' u hh this hR hB hl
noncomputable def ap (P:Program) (k:Nat) (nf:NFun) (f:Nat):Option NFn:=cond (Nat.beq f k) (some (.code nf)) (ai P f)
noncomputable def au (m:Nat) (a b:Nat->Option NFn) (f:Nat):Option NFn:=cond (Nat.ble f m) (a f) (b f)
def dh (P:Program) (cf:Nat->Option NFn):Prop:=∀f,cf f=ai P f
omit [Val] in
theorem ab {P:Program} {k:Nat} {nf:NFun} (h:ai P k=some (.code nf)):dh P (ap P k nf):=fun f=>by
 unfold ap
 cases hb:Nat.beq f k with
 |false=>rfl
 |true=>rw[xS hb];exact h.symm
omit [Val] in
theorem ae {P:Program} {m:Nat} {a b:Nat->Option NFn} (ha:dh P a) (hb:dh P b):dh P (au m a b):=fun f=>by
 unfold au
 cases Nat.ble f m with
 |false=>exact hb f
 |true=>exact ha f
omit [Val] in
theorem dh.run {P:Program} {cf:Nat->Option NFn} (h:dh P cf) {S:bp} {n f:Nat} {args:List NV} (hr:a6 cf S n f args=true):a6 P S n f args=true:=by
 have e:cf=ai P:=funext h
 rw[e] at hr;exact hr
omit [Val] in
theorem dh.kept {P:Program} {cf:Nat->Option NFn} (h:dh P cf) {S:bp} {n f:Nat} {args:List NV} {v:NV} (hr:lE cf S n f args v=true):lE P S n f args v=true:=by
 have e:cf=ai P:=funext h
 rw[e] at hr;exact hr
end Nm
namespace Nm
open Go Go.RowKit
noncomputable section
end
end Nm
namespace Nm
open Go Go.RowKit
def Le (a b:Option D4->NC->Dyn->Res):Prop:=∀r c d o d',a r c d= .mk o d'->b r c d= .mk o d'
section
variable {P:Program} {S:bp} {a b:Option D4->NC->Dyn->Res}
theorem dD {F G:Nat->List NV->Option NV->NH->CR} (h:∀f l p m r,F f l p m=r->r≠.fail->G f l p m=r) {K:Option NV->NH->CR}:∀(l:List Dfr) (p:Option NV) (m:NH) (r:CR),unwind F K l p m=r->r≠.fail->unwind G K l p m=r:=by
 intro l
 induction l with
 |nil=>exact fun p m r e _=>e
 |cons c l ih=>
  intro p m r e hr
  rw[gB] at e ⊢
  cases c with
  |mark id=>
   dsimp only at e ⊢
   split at e
   ·exact ih _ _ _ e hr
   ·exact xN e.symm hr
  |call f cap=>
   dsimp only at e ⊢
   cases hf:F f cap p m with
   |fail=>rw[hf] at e;exact xN e.symm hr
   |pan v x m'=>rw[hf] at e;exact xN e.symm hr
   |val v x m'=>
    rw[hf] at e
    rw[h f cap p m _ hf (by simp)]
    exact ih _ _ _ e hr
theorem nC (h:Le a b):∀(d f:Nat) (l:List NV) (p:Option NV) (m:NH) (r:CR),bG P a d f l p m=r->r≠.fail->bG P b d f l p m=r:=by
 intro d
 induction d with
 |zero=>intro f l p m r e hr;exact xN e.symm hr
 |succ d ih=>
  intro f l p m r e hr
  rw[eM] at e ⊢
  cases hc:ai P f with
  |none=>rw[hc] at e;exact xN e.symm hr
  |some x=>
   cases x with
   |ext x=>rw[hc] at e;exact xN e.symm hr
   |code nf=>
    rw[hc] at e
    dsimp only at e ⊢
    cases ha:a none nf.body ⟨cX l 0 .leaf, [],p,m⟩ with
    |fail=>rw[ha] at e;exact xN e.symm hr
    |mk o d'=>
     rw[ha] at e
     rw[h _ _ _ _ _ ha]
     cases o with
     |norm=>exact dD (fun f l p m r=>ih f l p m r) _ _ _ _ e hr
     |ret=>exact dD (fun f l p m r=>ih f l p m r) _ _ _ _ e hr
     |pan v=>exact dD (fun f l p m r=>ih f l p m r) _ _ _ _ e hr
     |exit id=>exact xN e.symm hr
theorem cm (h:Le a b) {f:Nat} {l:List NV} {m:NH} {r:CR} (e:bi P S a f l m=r) (hr:r≠.fail):bi P S b f l m=r:=by
 unfold bi at e ⊢
 cases hs:S f l m with
 |some v=>rw[hs] at e;exact e
 |none=>
  rw[hs] at e
  dsimp only at e ⊢
  cases hc:ai P f with
  |none=>rw[hc] at e;exact e
  |some x=>
   rw[hc] at e
   cases x with
   |ext x=>exact e
   |code nf=>exact nC h _ _ _ _ _ _ e hr
theorem iN (h:Le a b) {l:D4} {bd:NC} {t:Tm} {m:NH} {r:CR} (e:bk a l bd t m=r) (hr:r≠.fail):bk b l bd t m=r:=by
 unfold bk at e ⊢
 split at e
 ·rename_i p tm ps assign body hm
  rw[NH.set_eq] at e ⊢
  cases ha:a (some l) bd ⟨t, [],none,m.put l (.loop 1 p tm ps assign body)⟩ with
  |fail=>rw[ha] at e;exact xN e.symm hr
  |mk o d=>rw[ha] at e;rw[h _ _ _ _ _ ha];exact e
 ·exact xN e.symm hr
theorem mf (h:Le a b) {l:D4} {args:List NV} {m:NH} {r:CR} (e:round a l args m=r) (hr:r≠.fail):round b l args m=r:=by
 unfold round at e ⊢
 split at e
 ·rename_i x tm ps assign body hm
  obtain ⟨h1,h2⟩:=gK hr e
  have key:∀K:Tm->CR,bR .fail ps args tm K=K (kv ps args tm):=by
   clear e h2 hm
   intro K
   induction ps generalizing args tm with
   |nil=>cases args with
    |nil=>rfl
    |cons=>simp at h1
   |cons q ps ih=>
    cases args with
    |nil=>simp at h1
    |cons v vs=>
     have e:bR .fail (q::ps) (v::vs) tm K=NT.set q v tm fun t=>bR .fail ps vs t K:=rfl
     rw[e,NT.set_eq]
     exact ih _ (by simpa using h1)
  rw[key]
  cases ha:a (some l) assign ⟨kv ps args tm, [],none,m⟩ with
  |fail=>rw[ha] at h2;exact xN h2.symm hr
  |mk o d=>
   rw[ha] at h2
   rw[h _ _ _ _ _ ha]
   cases o with
   |norm=>
    dsimp only at h2 ⊢
    split at h2
    ·exact iN h h2 hr
    ·exact xN h2.symm hr
   |_=>exact xN h2.symm hr
 ·exact xN e.symm hr
theorem ip (h:Le a b) {rnd:Option D4} {dfs:List Dfr} {ctx:Option NV} {m:NH} {x:NR} {r:OpO} (e:bT P S a rnd dfs ctx m x=r) (hr:r≠.fail):bT P S b rnd dfs ctx m x=r:=by
 cases x with
 |call f l=>
  have e':pH dfs ctx (bi P S a f l m)=r:=e
  have hn:bi P S a f l m≠.fail:=fun hh=>by rw[hh] at e';exact hr e'.symm
  show pH dfs ctx (bi P S b f l m)=r
  rw[cm h rfl hn];exact e'
 |yld l args=>
  have e':pH dfs ctx (round a l args m)=r:=e
  have hn:round a l args m≠.fail:=fun hh=>by rw[hh] at e';exact hr e'.symm
  show pH dfs ctx (round b l args m)=r
  rw[mf h rfl hn];exact e'
 |_=>exact e
theorem ri {dst:Option D4} {K L:Dyn->Res} (hk:∀d o d',K d= .mk o d'->L d= .mk o d') {t:Tm} {dfs:List Dfr} {ctx:Option NV} {x:OpO} {o:Out} {d':Dyn} (e:qV dst K t dfs ctx x= .mk o d'):qV dst L t dfs ctx x= .mk o d':=by
 cases x with
 |fail=>cases e
 |next v dfs ctx h=>exact hk _ _ _ e
 |pan v h=>exact e
theorem uC {dst:Option D4} {K:Dyn->Res} {t:Tm} {dfs:List Dfr} {ctx:Option NV} {x:OpO} {o:Out} {d':Dyn} (e:qV dst K t dfs ctx x= .mk o d'):x≠.fail:=by
 rintro rfl;cases e
theorem gt (h:Le a b) {rnd:Option D4}:∀(l:List NOper) (d:Dyn) (o:Out) (d':Dyn),bJ P S a rnd l d= .mk o d'->bJ P S b rnd l d= .mk o d':=by
 intro l
 induction l with
 |nil=>exact fun d o d' e=>e
 |cons x l ih=>
  rintro ⟨t,dfs,ctx,m⟩ o d' e
  rw[bL] at e ⊢
  cases hg:ay t x.guard with
  |none=>rw[hg] at e;cases e
  |some on=>
   rw[hg] at e
   cases on with
   |false=>exact ih _ _ _ e
   |true=>
    dsimp only at e ⊢
    rw[ip h rfl (uC e)]
    exact ri ih e
theorem jB (h:Le a b) {rnd:Option D4}:∀(l:List NOper) (hs:List (Nat×NH)) (rs:List (Nat×(NH->NR)×NV)) (d:Dyn) (o:Out) (d':Dyn),aZ P S a rnd l hs rs d= .mk o d'->aZ P S b rnd l hs rs d= .mk o d':=by
 intro l
 induction l with
 |nil=>exact fun hs rs d o d' e=>e
 |cons x l ih=>
  rintro hs rs ⟨t,dfs,ctx,m⟩ o d' e
  rw[bM] at e ⊢
  cases hg:ay t x.guard with
  |none=>rw[hg] at e;cases e
  |some on=>
   rw[hg] at e
   cases on with
   |false=>exact ih _ _ _ _ _ e
   |true=>
    dsimp only at e ⊢
    cases hcl:ak x.op with
    |pure=>
     rw[hcl] at e
     dsimp only at e ⊢
     cases hop:af x.op t m<;>rw[hop] at e<;>first|exact ih _ _ _ _ _ e|cases e
    |alloc=>
     rw[hcl] at e
     dsimp only at e ⊢
     cases ha:ahead x.pre hs with
     |false=>rw[ha] at e;cases e
     |true=>
      rw[ha] at e
      simp only[cond_true] at e ⊢
      cases hop:af x.op t m<;>rw[hop] at e<;>first|exact ih _ _ _ _ _ e|cases e
    |read=>
     rw[hcl] at e
     dsimp only at e ⊢
     cases hop:af x.op t m with
     |val v=>
      rw[hop] at e
      dsimp only at e ⊢
      cases hst:dS x.pre (af x.op t) v hs with
      |false=>rw[hst] at e;cases e
      |true=>rw[hst] at e;exact ih _ _ _ _ _ e
     |_=>rw[hop] at e;cases e
    |eff=>
     rw[hcl] at e
     dsimp only at e ⊢
     cases ha:ahead x.pre hs with
     |false=>rw[ha] at e;cases e
     |true=>
      rw[ha] at e
      simp only[cond_true] at e ⊢
      have hk:∀d o d',cond (bc x.pre d.h rs) (aZ P S a rnd l ((x.idx,m)::hs) rs d) .fail= .mk o d'->cond (bc x.pre d.h rs) (aZ P S b rnd l ((x.idx,m)::hs) rs d) .fail= .mk o d':=by
       intro d o d' e
       cases hs':bc x.pre d.h rs with
       |false=>rw[hs'] at e;cases e
       |true=>rw[hs'] at e;exact ih _ _ _ _ _ e
      have hne:bT P S a rnd dfs ctx m (af x.op t m)≠.fail:=by
       intro hh
       rw[hh] at e
       cases e
      rw[ip h rfl hne]
      cases hoo:bT P S a rnd dfs ctx m (af x.op t m) with
      |fail=>exact xN hoo hne
      |pan v m'=>rw[hoo] at e;exact e
      |next v dfs1 ctx1 m'=>
       rw[hoo] at e
       have e':ce (bP x.idx l) (cond (bc x.pre m' rs) (aZ P S a rnd l ((x.idx,m)::hs) rs ⟨aM x.dst v t,dfs1,ctx1,m'⟩) .fail)= .mk o d':=e
       show ce (bP x.idx l) (cond (bc x.pre m' rs) (aZ P S b rnd l ((x.idx,m)::hs) rs ⟨aM x.dst v t,dfs1,ctx1,m'⟩) .fail)= .mk o d'
       cases hin:cond (bc x.pre m' rs) (aZ P S a rnd l ((x.idx,m)::hs) rs ⟨aM x.dst v t,dfs1,ctx1,m'⟩) .fail with
       |fail=>rw[hin] at e';cases e'
       |mk o2 d2=>
        have:=hk ⟨aM x.dst v t,dfs1,ctx1,m'⟩ o2 d2 hin
        rw[hin] at e'
        rw[show cond (bc x.pre m' rs) (aZ P S b rnd l ((x.idx,m)::hs) rs ⟨aM x.dst v t,dfs1,ctx1,m'⟩) .fail= .mk o2 d2 from this]
        exact e'
theorem e8 (h:Le a b) {f:Nat} {cap:List NV} {ps:List D4} {x y:NC} {t:Tm} {dfs:List Dfr} {ctx:Option NV} {m:NH} {o:Out} {d':Dyn} (e:bo P S a f cap ps x y t dfs ctx m= .mk o d'):bo P S b f cap ps x y t dfs ctx m= .mk o d':=by
 unfold bo at e ⊢
 rw[NH.new_eq] at e ⊢
 cases hc:bi P S a f (.yld m.next::cap) (m.add (.loop 0 .none t ps x y)) with
 |fail=>rw[hc] at e;cases e
 |val v c m'=>rw[hc] at e;rw[cm h hc (by simp)];exact e
 |pan v c m'=>rw[hc] at e;rw[cm h hc (by simp)];exact e
theorem mT (h:Le a b):Le (gZ P S a) (gZ P S b):=by
 intro r c d o d' e
 cases c with
 |skip=>exact e
 |reg l=>exact gt h _ _ _ _ e
 |regD l=>
  have e':(match aZ P S a r l [] [] d with| .mk (.pan v) d=>Res.mk (.pan v) ⟨jx l d.t,d.dfs,d.ctx,d.h⟩|r=>r)= .mk o d':=e
  show (match aZ P S b r l [] [] d with| .mk (.pan v) d=>Res.mk (.pan v) ⟨jx l d.t,d.dfs,d.ctx,d.h⟩|r=>r)= .mk o d'
  cases hr:aZ P S a r l [] [] d with
  |fail=>rw[hr] at e';cases e'
  |mk o2 d2=>rw[hr] at e';rw[jB h _ _ _ _ _ _ hr];exact e'
 |seq x y=>
  have e':(match a r x d with| .mk o d=>(match o with| .norm=>a r y d|o=> .mk o d)| .fail=> .fail)=Res.mk o d':=(nD (cf:=P) (S:=S)).symm.trans e
  refine (nD (cf:=P) (S:=S)).trans ?_
  show (match b r x d with| .mk o d=>(match o with| .norm=>b r y d|o=> .mk o d)| .fail=> .fail)=Res.mk o d'
  cases hx:a r x d with
  |fail=>rw[hx] at e';cases e'
  |mk o2 d2=>
   rw[hx] at e'
   rw[h _ _ _ _ _ hx]
   cases o2 with
   |norm=>exact h _ _ _ _ _ e'
   |_=>exact e'
 |cond g x y=>
  have e':(match ρ d.t g with|some (.bool c)=>(Bool.rec (a r y d) (a r x d) c:Res)|_=> .fail)=Res.mk o d':=(j7 (cf:=P) (S:=S)).symm.trans e
  refine (j7 (cf:=P) (S:=S)).trans ?_
  show (match ρ d.t g with|some (.bool c)=>(Bool.rec (b r y d) (b r x d) c:Res)|_=> .fail)=Res.mk o d'
  cases hg:ρ d.t g with
  |none=>rw[hg] at e';cases e'
  |some v=>
   rw[hg] at e'
   cases v with
   |bool q=>cases q<;>exact h _ _ _ _ _ e'
   |_=>cases e'
 |block id x=>
  have e':(match a r x d with| .mk o d=>(match o with| .exit i=>cond (Nat.beq i id) (.mk .norm d) (.mk (.exit i) d)|o=> .mk o d)| .fail=> .fail)=Res.mk o d':=(hZ (cf:=P) (S:=S)).symm.trans e
  refine (hZ (cf:=P) (S:=S)).trans ?_
  show (match b r x d with| .mk o d=>(match o with| .exit i=>cond (Nat.beq i id) (.mk .norm d) (.mk (.exit i) d)|o=> .mk o d)| .fail=> .fail)=Res.mk o d'
  cases hx:a r x d with
  |fail=>rw[hx] at e';cases e'
  |mk o2 d2=>rw[hx] at e';rw[h _ _ _ _ _ hx];exact e'
 |loop x=>
  have e':(match a r x d with| .mk o d=>(match o with| .norm=>a r (.loop x) d|o=> .mk o d)| .fail=> .fail)=Res.mk o d':=(ko (cf:=P) (S:=S)).symm.trans e
  refine (ko (cf:=P) (S:=S)).trans ?_
  show (match b r x d with| .mk o d=>(match o with| .norm=>b r (.loop x) d|o=> .mk o d)| .fail=> .fail)=Res.mk o d'
  cases hx:a r x d with
  |fail=>rw[hx] at e';cases e'
  |mk o2 d2=>
   rw[hx] at e'
   rw[h _ _ _ _ _ hx]
   cases o2 with
   |norm=>exact h _ _ _ _ _ e'
   |_=>exact e'
 |rangeFunc f ps x y=>
  obtain ⟨t,dfs,ctx,m⟩:=d
  have e':(match ρ t f with
   |some (.fn f cap)=>(match (generalizing:=false) r with
    |none=>m.new (.defd true) fun q m=>bo P S a f cap ps x y t (.mark q::dfs) ctx m
    |some l=>(match m.get l with
     |some (.loop ..)=>bo P S a f cap ps x y t dfs ctx m
     |_=> .fail))
   |_=> .fail)=Res.mk o d':=e
  show (match ρ t f with
   |some (.fn f cap)=>(match (generalizing:=false) r with
    |none=>m.new (.defd true) fun q m=>bo P S b f cap ps x y t (.mark q::dfs) ctx m
    |some l=>(match m.get l with
     |some (.loop ..)=>bo P S b f cap ps x y t dfs ctx m
     |_=> .fail))
   |_=> .fail)=Res.mk o d'
  cases hf:ρ t f with
  |none=>rw[hf] at e';cases e'
  |some v=>
   rw[hf] at e'
   cases v with
   |fn f cap=>
    dsimp only at e' ⊢
    cases r with
    |none=>
     dsimp only at e' ⊢
     rw[NH.new_eq] at e' ⊢
     exact e8 h e'
    |some l=>
     dsimp only at e' ⊢
     split at e'
     ·exact e8 h e'
     ·cases e'
   |_=>cases e'
 |exit id=>exact e
 |ret=>exact e
theorem r9:∀n,Le (ev P S n) (ev P S (n+1)):=by
 intro n
 induction n with
 |zero=>intro r c d o d' e;cases e
 |succ n ih=>exact mT ih
theorem bZ {n m:Nat} (hnm:n<=m):Le (ev P S n) (ev P S m):=by
 induction m with
 |zero=>
  have:n=0:=by omega
  subst this;exact fun _ _ _ _ _ e=>e
 |succ m ih=>
  by_cases h:n=m+1
  ·subst h;exact fun _ _ _ _ _ e=>e
  ·exact fun r c d o d' e=>r9 m r c d o d' (ih (by omega) r c d o d' e)
end
def fK (P:Program) (S:bp) (r:Option D4) (c:NC) (d:Dyn) (o:Out) (d':Dyn):Prop:=∃n,ev P S n r c d= .mk o d'
def Call (P:Program) (S:bp) (f:Nat) (l:List NV) (m:NH) (x:CR):Prop:=x≠.fail/\∃n,bi P S (ev P S n) f l m=x
def om (P:Program) (S:bp) (r:Option D4) (l:List NOper) (d:Dyn) (o:Out) (d':Dyn):Prop:=∃n,bJ P S (ev P S n) r l d= .mk o d'
section
variable {P:Program} {S:bp} {r:Option D4}
theorem fK.skip (d:Dyn):fK P S r .skip d .norm d:=⟨1,rfl⟩
theorem fK.ret (d:Dyn):fK P S r .ret d .ret d:=⟨1,rfl⟩
theorem fK.exit (id:Nat) (d:Dyn):fK P S r (.exit id) d (.exit id) d:=⟨1,rfl⟩
theorem fK.seq {x y:NC} {d d1 d2:Dyn} {o:Out} (hx:fK P S r x d .norm d1) (hy:fK P S r y d1 o d2):fK P S r (.seq x y) d o d2:=by
 obtain ⟨n,hn⟩:=hx
 obtain ⟨m,hm⟩:=hy
 refine ⟨max n m+1, ?_⟩
 refine rj.trans ?_
 show (match ev P S (max n m) r x d with| .mk o d=>(match o with| .norm=>ev P S (max n m) r y d|o=> .mk o d)| .fail=> .fail)=Res.mk o d2
 rw[bZ (Nat.le_max_left n m) _ _ _ _ _ hn]
 exact bZ (Nat.le_max_right n m) _ _ _ _ _ hm
theorem fK.cond {g:NOpd} {q:Bool} {x y:NC} {d d1:Dyn} {o:Out} (hg:ρ d.t g=some (.bool q)) (h:fK P S r (if q then x else y) d o d1):fK P S r (.cond g x y) d o d1:=by
 obtain ⟨n,hn⟩:=h
 refine ⟨n+1, ?_⟩
 refine oa.trans ?_
 show (match ρ d.t g with|some (.bool c)=>(Bool.rec (ev P S n r y d) (ev P S n r x d) c:Res)|_=> .fail)=Res.mk o d1
 rw[hg]
 cases q<;>exact hn
theorem fK.block {id:Nat} {x:NC} {d d1:Dyn} {o:Out} (h:fK P S r x d o d1):fK P S r (.block id x) d (match o with| .exit i=>_root_.cond (Nat.beq i id) .norm (.exit i)|o=>o) d1:=by
 obtain ⟨n,hn⟩:=h
 refine ⟨n+1, ?_⟩
 refine lq.trans ?_
 show (match ev P S n r x d with| .mk o d=>(match o with| .exit i=>_root_.cond (Nat.beq i id) (Res.mk .norm d) (Res.mk (.exit i) d)|o=>Res.mk o d)| .fail=>Res.fail)=_
 rw[hn]
 cases o with
 |exit i=>dsimp only;cases Nat.beq i id<;>rfl
 |_=>rfl
theorem fK.loop {x:NC} {d d1 d2:Dyn} {o:Out} (hx:fK P S r x d .norm d1) (hy:fK P S r (.loop x) d1 o d2):fK P S r (.loop x) d o d2:=by
 obtain ⟨n,hn⟩:=hx
 obtain ⟨m,hm⟩:=hy
 refine ⟨max n m+1, ?_⟩
 refine jI.trans ?_
 show (match ev P S (max n m) r x d with| .mk o d=>(match o with| .norm=>ev P S (max n m) r (.loop x) d|o=> .mk o d)| .fail=> .fail)=Res.mk o d2
 rw[bZ (Nat.le_max_left n m) _ _ _ _ _ hn]
 exact bZ (Nat.le_max_right n m) _ _ _ _ _ hm
theorem fK.loop_out {x:NC} {d d1:Dyn} {o:Out} (hx:fK P S r x d o d1) (ho:o≠.norm):fK P S r (.loop x) d o d1:=by
 obtain ⟨n,hn⟩:=hx
 refine ⟨n+1, ?_⟩
 refine jI.trans ?_
 show (match ev P S n r x d with| .mk o d=>(match o with| .norm=>ev P S n r (.loop x) d|o=> .mk o d)| .fail=> .fail)=Res.mk o d1
 rw[hn]
 cases o<;>first|rfl|exact xN rfl ho
theorem om.nil (d:Dyn):om P S r [] d .norm d:=⟨0,rfl⟩
theorem om.val {x:NOper} {l:List NOper} {t:Tm} {dfs:List Dfr} {ctx:Option NV} {m:NH} {o:Out} {d1:Dyn} {v:NV} (hg:ay t x.guard=some true) (hop:af x.op t m= .val v)
 (h:om P S r l ⟨aM x.dst v t,dfs,ctx,m⟩ o d1):om P S r (x::l) ⟨t,dfs,ctx,m⟩ o d1:=by
 obtain ⟨n,hn⟩:=h
 refine ⟨n, ?_⟩
 rw[bL,hg,hop]
 exact hn
theorem om.mem {x:NOper} {l:List NOper} {t:Tm} {dfs:List Dfr} {ctx:Option NV} {m m':NH} {o:Out} {d1:Dyn} {v:NV} (hg:ay t x.guard=some true) (hop:af x.op t m= .mem v m')
 (h:om P S r l ⟨aM x.dst v t,dfs,ctx,m'⟩ o d1):om P S r (x::l) ⟨t,dfs,ctx,m⟩ o d1:=by
 obtain ⟨n,hn⟩:=h
 refine ⟨n, ?_⟩
 rw[bL,hg,hop]
 exact hn
theorem om.call {x:NOper} {l:List NOper} {t:Tm} {dfs:List Dfr} {ctx:Option NV} {m m':NH} {o:Out} {d1:Dyn} {f:Nat} {args:List NV} {v:NV} {c:Option NV} (hg:ay t x.guard=some true) (hop:af x.op t m= .call f args)
 (hc:Call P S f args m (.val v c m')) (h:om P S r l ⟨aM x.dst v t,dfs,ctx,m'⟩ o d1):om P S r (x::l) ⟨t,dfs,ctx,m⟩ o d1:=by
 obtain ⟨n,hn⟩:=h
 obtain ⟨hne,k,hk⟩:=hc
 refine ⟨max n k, ?_⟩
 rw[bL,hg,hop]
 show qV x.dst (bJ P S (ev P S (max n k)) r l) t dfs ctx (pH dfs ctx (bi P S (ev P S (max n k)) f args m))=_
 rw[cm (bZ (Nat.le_max_right n k)) hk hne]
 exact gt (bZ (Nat.le_max_left n k)) _ _ _ _ hn
variable [Val] in
end
end Nm
namespace Nm
open Go Go.RowKit
noncomputable def kx:List (D4×NV)->Tm->Tm
 | [],t=>t
 |p::l,t=>NT.put p.1 p.2 (kx l t)
theorem mU (k:D4):fk k k=true:=by
 induction k with
 |e=>rfl
 |a d ih=>exact ih
 |b d ih=>exact ih
 |c d ih=>exact ih
 |f d ih=>exact ih
def cz (P:Program) (S:bp) (r:Option D4) (l:List NOper) (hs:List (Nat×NH)) (rs:List (Nat×(NH->NR)×NV)) (d:Dyn) (o:Out) (d':Dyn):Prop:=∃n,aZ P S (ev P S n) r l hs rs d= .mk o d'
section
variable {P:Program} {S:bp} {r:Option D4} {x:NOper} {l:List NOper} {hs:List (Nat×NH)} {rs:List (Nat×(NH->NR)×NV)} {t:Tm} {dfs:List Dfr} {ctx:Option NV} {m m':NH} {o:Out} {d d1:Dyn} {v:NV}
theorem cz.nil (d:Dyn):cz P S r [] hs rs d .norm d:=⟨0,rfl⟩
theorem cz.pure (hg:ay t x.guard=some true) (hc:ak x.op= .pure) (hop:af x.op t m= .val v) (h:cz P S r l hs rs ⟨aM x.dst v t,dfs,ctx,m⟩ o d1):cz P S r (x::l) hs rs ⟨t,dfs,ctx,m⟩ o d1:=by
 obtain ⟨n,hn⟩:=h
 exact ⟨n,by rw[bM,hg];dsimp only;rw[hc];dsimp only;rw[hop];exact hn⟩
theorem cz.alloc (hg:ay t x.guard=some true) (hc:ak x.op= .alloc) (ha:ahead x.pre hs=true) (hop:af x.op t m= .mem v m') (h:cz P S r l hs rs ⟨aM x.dst v t,dfs,ctx,m'⟩ o d1):cz P S r (x::l) hs rs ⟨t,dfs,ctx,m⟩ o d1:=by
 obtain ⟨n,hn⟩:=h
 exact ⟨n,by rw[bM,hg];dsimp only;rw[hc];dsimp only;rw[ha,hop];exact hn⟩
theorem cz.eff (hg:ay t x.guard=some true) (hc:ak x.op= .eff) (ha:ahead x.pre hs=true) (hop:af x.op t m= .mem v m') (hst:bc x.pre m' rs=true)
 (h:cz P S r l ((x.idx,m)::hs) rs ⟨aM x.dst v t,dfs,ctx,m'⟩ .norm d1):cz P S r (x::l) hs rs ⟨t,dfs,ctx,m⟩ .norm d1:=by
 obtain ⟨n,hn⟩:=h
 refine ⟨n, ?_⟩
 rw[bM,hg];dsimp only;rw[hc];dsimp only;rw[ha,hop]
 show ce (bP x.idx l) (cond (bc x.pre m' rs) (aZ P S (ev P S n) r l ((x.idx,m)::hs) rs ⟨aM x.dst v t,dfs,ctx,m'⟩) .fail)=_
 rw[hst]
 show ce (bP x.idx l) (aZ P S (ev P S n) r l ((x.idx,m)::hs) rs ⟨aM x.dst v t,dfs,ctx,m'⟩)=_
 rw[hn];rfl
theorem cz.call {f:Nat} {args:List NV} {c:Option NV} (hg:ay t x.guard=some true) (hc:ak x.op= .eff) (ha:ahead x.pre hs=true) (hop:af x.op t m= .call f args) (hcall:Call P S f args m (.val v c m')) (hst:bc x.pre m' rs=true)
 (h:cz P S r l ((x.idx,m)::hs) rs ⟨aM x.dst v t,dfs,ctx,m'⟩ .norm d1):cz P S r (x::l) hs rs ⟨t,dfs,ctx,m⟩ .norm d1:=by
 obtain ⟨n,hn⟩:=h
 obtain ⟨hne,k,hk⟩:=hcall
 refine ⟨max n k, ?_⟩
 rw[bM,hg];dsimp only;rw[hc];dsimp only;rw[ha,hop]
 show ce (bP x.idx l) (qV x.dst (fun d=>cond (bc x.pre d.h rs) (aZ P S (ev P S (max n k)) r l ((x.idx,m)::hs) rs d) .fail) t dfs ctx (pH dfs ctx (bi P S (ev P S (max n k)) f args m)))=_
 rw[cm (bZ (Nat.le_max_right n k)) hk hne]
 show ce (bP x.idx l) (cond (bc x.pre m' rs) (aZ P S (ev P S (max n k)) r l ((x.idx,m)::hs) rs ⟨aM x.dst v t,dfs,ctx,m'⟩) .fail)=_
 rw[hst]
 show ce (bP x.idx l) (aZ P S (ev P S (max n k)) r l ((x.idx,m)::hs) rs ⟨aM x.dst v t,dfs,ctx,m'⟩)=_
 rw[jB (bZ (Nat.le_max_left n k)) _ _ _ _ _ _ hn];rfl
end
def w9 (P:Program) (S:bp) (l:D4) (args:List NV) (m:NH) (x:CR):Prop:=x≠.fail/\∃n,round (ev P S n) l args m=x
section
variable {P:Program} {S:bp} {r:Option D4} {x:NOper} {l:List NOper} {hs:List (Nat×NH)} {rs:List (Nat×(NH->NR)×NV)} {t:Tm} {dfs:List Dfr} {ctx:Option NV} {m m':NH} {o:Out} {d1:Dyn} {v:NV} {q:D4} {args:List NV} {c:Option NV}
end
section
variable {P:Program} {S:bp} {r:Option D4} {x:NOper} {l:List NOper} {hs:List (Nat×NH)} {rs:List (Nat×(NH->NR)×NV)} {L:List (D4×NV)} {t:Tm} {dfs:List Dfr} {ctx:Option NV} {m m':NH} {o:Out} {d1:Dyn} {v:NV} {k:D4}
theorem cz.p (hd:x.dst=some k) (hg:ay (kx L t) x.guard=some true) (hc:ak x.op= .pure) (hop:af x.op (kx L t) m= .val v) (h:cz P S r l hs rs ⟨kx ((k,v)::L) t,dfs,ctx,m⟩ o d1):cz P S r (x::l) hs rs ⟨kx L t,dfs,ctx,m⟩ o d1:=
 cz.pure hg hc hop (by rw[hd];exact h)
theorem cz.c {f:Nat} {args:List NV} {c:Option NV} (hd:x.dst=some k) (hg:ay (kx L t) x.guard=some true) (hc:ak x.op= .eff) (ha:ahead x.pre hs=true) (hop:af x.op (kx L t) m= .call f args) (hcall:Call P S f args m (.val v c m')) (hst:bc x.pre m' rs=true)
 (h:cz P S r l ((x.idx,m)::hs) rs ⟨kx ((k,v)::L) t,dfs,ctx,m'⟩ .norm d1):cz P S r (x::l) hs rs ⟨kx L t,dfs,ctx,m⟩ .norm d1:=
 cz.call hg hc ha hop hcall hst (by rw[hd];exact h)
end
section
variable {t:Tm} {m:NH}
end
end Nm
namespace Nm
open Go Go.RowKit
section
variable {P:Program} {S:bp} {r:Option D4}
theorem om.pan {x:NOper} {l:List NOper} {t:Tm} {dfs:List Dfr} {ctx:Option NV} {m:NH} {v:NV} (hg:ay t x.guard=some true) (hop:af x.op t m= .pan v):om P S r (x::l) ⟨t,dfs,ctx,m⟩ (.pan v) ⟨t,dfs,ctx,m⟩:=by
 refine ⟨0, ?_⟩
 rw[bL,hg,hop];rfl
end
structure PE where
 p:Program
 E:NV->NH->Prop
instance:Coe Program PE:=⟨fun P=>⟨P,fun _ _=>False⟩⟩
def WF (P:PE) (S:bp) (f:Nat) (args:List NV) (m:NH) (K:NV->NH->Prop):Prop:=(∃v c m',Call P.p S f args m (.val v c m')/\K v m')∨∃v c m',Call P.p S f args m (.pan v c m')/\P.E v m'
def qE (P:PE) (Q:Out->Dyn->Prop) (o:Out) (d:Dyn):Prop:=match o with| .pan v=>d.dfs= []/\P.E v d.h|o=>Q o d
section
variable (P:PE) (S:bp) (r:Option D4)
def W (c:NC) (d:Dyn) (Q:Out->Dyn->Prop):Prop:=∃o d',fK P.p S r c d o d'/\qE P Q o d'
end
section
variable {P:PE} {S:bp} {r:Option D4}
theorem WF.ret' {P:Program} {f:Nat} {args:List NV} {m:NH} {K:NV->NH->Prop} (h:WF P S f args m K):∃v c m',Call P S f args m (.val v c m')/\K v m':=by
 rcases h with h|⟨_,_,_,_,h⟩
 ·exact h
 ·exact h.elim
theorem W.loop {c:NC} {Q:Out->Dyn->Prop} (I:Nat->Dyn->Prop) (h:∀k d,I k d->W P S r c d (fun o d'=>match o with| .norm=>∃j,j<k/\I j d'|o=>Q o d')):∀k d,I k d->W P S r (.loop c) d Q:=by
 intro k
 induction k using Nat.strongRecOn with
 |ind k ih=>
  intro d hd
  obtain ⟨o,d',h1,h2⟩:=h k d hd
  cases o with
  |norm=>
   obtain ⟨j,hj,hI⟩:=h2
   obtain ⟨o,d2,h3,h4⟩:=ih j hj d' hI
   exact ⟨o,d2,fK.loop h1 h3,h4⟩
  |_=>exact ⟨_,_,fK.loop_out h1 (by simp),h2⟩
theorem W.mono {c:NC} {d:Dyn} {Q Q':Out->Dyn->Prop} (h:W P S r c d Q) (hq:∀o d,Q o d->Q' o d):W P S r c d Q':=by
 obtain ⟨o,d',h1,h2⟩:=h
 refine ⟨o,d',h1, ?_⟩
 cases o with
 |pan v=>exact h2
 |_=>exact hq _ _ h2
end
end Nm
namespace Nm
open Go Go.RowKit
section
variable {P:PE} {S:bp} {r:Option D4} {dst:Option D4} {op:NOp} {pre idx:Nat} {l:List NOper} {hs:List (Nat×NH)} {rs:List (Nat×(NH->NR)×NV)}
 {L:List (D4×NV)} {t:Tm} {dfs:List Dfr} {ctx:Option NV} {m m':NH} {v:NV} {k k':D4} {d:Dyn} {Q:Out->Dyn->Prop} {K:Dyn->Prop} {A B:Prop}
section
variable {f:NH->NR}
end
end
section
variable {t:Tm} {m:NH}
end
end Nm
namespace Nm
open Go Go.RowKit
section
variable {P:Program} {S:bp} {L:List (D4×NV)} {t:Tm} {ctx:Option NV} {m:NH} {K:NV->NH->Prop} {k k1 k2 k3:D4}
end
end Nm
namespace Nm
open Go Go.RowKit
def na (m:NH) (j:Nat):D4:=D4.of (m.next.toNat+j)
def jJ (m:NH) (id:D4):Prop:=id.toNat<m.next.toNat
instance (m:NH) (id:D4):Decidable (jJ m id):=inferInstanceAs (Decidable (_<_))
inductive AK where
 |n (j:Nat)
 |o (id:D4)
noncomputable def xg (m:NH):List (AK×NO)->NT NO
 | []=>m.m
 |(.n j,x)::l=>NT.put (na m j) x (xg m l)
 |(.o id,x)::l=>if jJ m id then NT.put id x (xg m l) else xg m l
noncomputable def hp (l:List (AK×NO)) (k:Nat) (m:NH):NH:=⟨xg m l,na m k⟩
section
variable {m:NH} {l:List (AK×NO)} {k j:Nat} {o:NO} {id:D4}
end
structure Chg (S:List D4) (m m':NH):Prop where
 next:m.next.toNat<=m'.next.toNat
 get:∀{id},jJ m id->id∉S->m'.get id=m.get id
theorem Chg.old {S:List D4} {m m':NH} {id:D4} (h:Chg S m m') (ho:jJ m id):jJ m' id:=Nat.lt_of_lt_of_le ho h.next
theorem Chg.trans {S T:List D4} {a b c:NH} (h:Chg S a b) (h':Chg T b c) (hs:∀id,id∈T->jJ a id->id∈S):Chg S a c:=
 ⟨Nat.le_trans h.1 h'.1,fun {id} ho hi=>(h'.2 (h.old ho) fun q=>hi (hs id q ho)).trans (h.2 ho hi)⟩
def xo (P:Program) (S:bp) (f:Nat) (args:List NV) (m:NH) (v:NV) (m':NH):Prop:=∃c,Call P S f args m (.val v c m')
section
variable {P:Program} {S:bp} {f:Nat} {args:List NV} {m:NH}
theorem WF.ret {K:NV->NH->Prop} (h:WF P S f args m K):∃v m',xo P S f args m v m'/\K v m':=by
 obtain ⟨v,c,m',hc,hk⟩:=WF.ret' h;exact ⟨v,m',⟨c,hc⟩,hk⟩
end
section
variable {t:Tm} {m:NH}
end
end Nm
namespace Nm
open Go Go.RowKit
section
variable {P:Program} {S:bp}
theorem w9.of {l:D4} {args:List NV} {m:NH} {p p1:Jump} {tm tm1:NT NV} {ps ps1:List D4} {a b a1 b1:NC} {d1 d2:Dyn} {o:Out} {x:CR}
 (hm:m.get l=some (.loop 0 p tm ps a b)) (hlen:args.length=ps.length) (ha:fK P S (some l) a ⟨kv ps args tm, [],none,m⟩ .norm d1) (hd1:d1.dfs= [])
 (hm1:d1.h.get l=some (.loop 0 p1 tm1 ps1 a1 b1)) (hb:fK P S (some l) b ⟨d1.t, [],none,d1.h.put l (.loop 1 p1 tm1 ps1 a1 b1)⟩ o d2) (ho:∀v,o≠.pan v) (hr:cO l o d2.h=x) (hne:x≠.fail):w9 P S l args m x:=by
 obtain ⟨n,hn⟩:=ha
 obtain ⟨k,hk⟩:=hb
 refine ⟨hne,max n k, ?_⟩
 have key:∀(ps:List D4) (args:List NV) (tm:Tm) (K:Tm->CR),args.length=ps.length->bR .fail ps args tm K=K (kv ps args tm):=by
  intro ps
  induction ps with
  |nil=>intro args tm K h;cases args with
   |nil=>rfl
   |cons=>simp at h
  |cons q ps ih=>
   intro args tm K h
   cases args with
   |nil=>simp at h
   |cons v vs=>
    have e:bR .fail (q::ps) (v::vs) tm K=NT.set q v tm fun t=>bR .fail ps vs t K:=rfl
    rw[e,NT.set_eq]
    exact ih _ _ _ (by simpa using h)
 unfold round
 rw[hm]
 show bR .fail ps args tm (fun t=>match ev P S (max n k) (some l) a ⟨t, [],none,m⟩ with
  | .mk .norm d=>(match d.dfs with| []=>bk (ev P S (max n k)) l b d.t d.h|_=> .fail)
  |_=> .fail)=x
 rw[key _ _ _ _ hlen,bZ (Nat.le_max_left n k) _ _ _ _ _ hn]
 show (match d1.dfs with| []=>bk (ev P S (max n k)) l b d1.t d1.h|_=> .fail)=x
 rw[hd1]
 show bk (ev P S (max n k)) l b d1.t d1.h=x
 unfold bk
 rw[hm1]
 show (d1.h.set l (.loop 1 p1 tm1 ps1 a1 b1) fun h=>(match ev P S (max n k) (some l) b ⟨d1.t, [],none,h⟩ with
  | .mk o d=>(match o with
   | .pan v=>(match d.dfs with| []=>CR.pan v none d.h|_=> .fail)
   |o=>cO l o d.h)
  | .fail=> .fail))=x
 rw[NH.set_eq,bZ (Nat.le_max_right n k) _ _ _ _ _ hk]
 cases o with
 |pan v=>exact xN rfl (ho v)
 |_=>exact hr
end
end Nm
namespace Nm
open Go Go.RowKit
section
variable {t:Tm} {m:NH}
end
end Nm
namespace Nm
open Go Go.RowKit
section
variable {t:Tm} {m:NH}
end
end Nm
namespace Nm
open Go Go.RowKit
section
variable {t:Tm} {m:NH}
end
end Nm
namespace Nm
open Go Go.RowKit
section
variable {P:PE} {S:bp} {r:Option D4} {dst:Option D4} {op:NOp} {pre idx:Nat} {l:List NOper} {hs:List (Nat×NH)} {rs:List (Nat×(NH->NR)×NV)}
 {L:List (D4×NV)} {t:Tm} {dfs:List Dfr} {ctx:Option NV} {m m':NH} {v:NV} {k k' g:D4} {d:Dyn} {Q:Out->Dyn->Prop} {K:Dyn->Prop} {A B:Dyn->Prop} {b q:Bool}
end
theorem da (d:D4):fk d d=true:=mU d
theorem pS (l:List Nat):pU l l=true:=by
 induction l with
 |nil=>rfl
 |cons x l ih=>show cond (Nat.beq x x) (pU l l) false=true;rw[Nat.beq_refl];exact ih
theorem m7 (l:List ST):jv l l=true:=by
 induction l with
 |nil=>rfl
 |cons x l ih=>
  obtain ⟨m,i,lo,hi⟩:=x
  show cond (Nat.beq m m) (cond (Nat.beq i i) (cond (Nat.beq lo lo) (cond (Nat.beq hi hi) (jv l l) false) false) false) false=true
  simp[ih]
def tU (v:NV):Prop:=match v with| .agg _| .tup _| .fn _ _| .ifc _ _| .int _ (.ge _)| .int _ (.le _)=>False|_=>True
theorem oD {n:Nat} {v:NV} (h:tU v):cE (n+1) v v=true:=by
 show n8 (cE n) v v=true
 have hi:∀z:Int,eF z z=true:=fun z=>by rw[aV];simp
 cases v with
 |bool b=>cases b<;>rfl
 |int k x=>cases x with
  |lit z=>show cond (eu k k) (eF z z) false=true;rw[hi];cases k<;>rfl
  |sym c ts=>show cond (eu k k) (cond (eF c c) (jv ts ts) false) false=true;rw[hi,m7];cases k<;>rfl
  |ge z=>exact h.elim
  |le z=>exact h.elim
 |str s=>exact pS s
 |ptr id o=>show cond (fk id id) (Nat.beq o o) false=true;rw[da];simp
 |slc id o n e k=>show cond (fk id id) (cond (Nat.beq o o) (cond (Nat.beq n n) (cond (Nat.beq e e) (Nat.beq k k) false) false) false) false=true;rw[da];simp
 |map id=>exact da id
 |yld id=>exact da id
 |agg l=>exact h.elim
 |tup l=>exact h.elim
 |fn f c=>exact h.elim
 |ifc t v=>exact h.elim
 |_=>rfl
end Nm
namespace Nm
open Go Go.RowKit
section
variable {m:NH}
end
section
variable {t:Tm} {m:NH}
end
end Nm
namespace Nm
open Go Go.RowKit
section
variable {t:Tm} {m:NH}
end
end Nm
namespace Nm
open Go Go.RowKit
def ids:NV->List D4
 | .slc id _ _ _ _=> [id]
 |_=> []
def Sl (m:NH) (v:NV) (e:Nat) (C:List (List NV)):Prop:=(∀x∈C,x.length=e)/\((v= .nils/\C= [])∨
 ∃id off kc w c,v= .slc id off C.length e kc/\m.get id=some (.cells w c)/\jJ m id/\off+C.length*e<=c.length/\(c.drop off).take (C.length*e)=C.flatten)
def uX (B m:NH) (v:NV) (e:Nat) (C:List (List NV)):Prop:=(∀x∈C,x.length=e)/\((v= .nils/\C= [])∨
 ∃id off kc c,v= .slc id off C.length e kc/\¬jJ B id/\m.get id=some (.cells true c)/\jJ m id/\off+C.length*e<=c.length/\off+kc*e<=c.length/\(c.drop off).take (C.length*e)=C.flatten)
theorem qd {e:Nat} {C:List (List NV)} (h:∀x∈C,x.length=e):C.flatten.length=C.length*e:=by
 induction C with
 |nil=>simp
 |cons a C ih=>
  rw[List.flatten_cons,List.length_append,h a (List.mem_cons_self ..),ih fun x hx=>h x (List.mem_cons_of_mem _ hx),List.length_cons,Nat.succ_mul]
  omega
section
variable {m:NH} {v:NV} {e:Nat} {C:List (List NV)}
theorem Sl.one (h:Sl m v e C):cellsOf v=some [v]:=by
 obtain ⟨_,⟨rfl,rfl⟩|⟨id,off,kc,w,c,rfl,_⟩⟩:=h<;>rfl
theorem Sl.old (h:Sl m v e C):∀id∈ids v,jJ m id:=by
 obtain ⟨h0,⟨rfl,rfl⟩|⟨id,off,kc,w,c,rfl,h1,h2,h3,h4⟩⟩:=h
 ·intro id hid;simp[ids] at hid
 ·intro i hi;simp[ids] at hi;rw[hi];exact h2
theorem uX.new {B m:NH} (h:uX B m v e C):∀id∈ids v,¬jJ B id:=by
 obtain ⟨h0,⟨rfl,rfl⟩|⟨id,off,kc,c,rfl,hb,h1,h2,h3,h4⟩⟩:=h
 ·intro id hid;simp[ids] at hid
 ·intro i hi;simp[ids] at hi;rw[hi];exact hb
theorem uX.nil {B m:NH}:uX B m .nils e []:=⟨fun x hx=>by simp at hx,Or.inl ⟨rfl,rfl⟩⟩
theorem Sl.nil:Sl m .nils e []:=⟨fun x hx=>by simp at hx,Or.inl ⟨rfl,rfl⟩⟩
theorem uX.of {B m:NH} {id:D4} {n k:Nat} {c:List NV} (h:∀x∈C,x.length=e) (hb:¬jJ B id) (hg:m.get id=some (.cells true c)) (ho:jJ m id) (hc:c=C.flatten) (hn:n=C.length) (hk:k=C.length):uX B m (.slc id 0 n e k) e C:=by
 subst hn hk hc
 have hl:=qd h
 exact ⟨h,Or.inr ⟨id,0,_,_,rfl,hb,hg,ho,by omega,by omega,by rw[List.drop_zero,←hl,List.take_length]⟩⟩
theorem Chg.put (m:NH) (id:D4) (o:NO):Chg [id] m (m.put id o):=
 ⟨Nat.le_refl _,fun {i} _ hn=>NH.get_put_ne m o (by simpa using hn)⟩
theorem jJ.next_ne {m:NH} {i:D4} (h:jJ m i):i≠m.next:=by
 intro e;rw[e] at h;exact Nat.lt_irrefl _ h
theorem Chg.add (m:NH) (o:NO):Chg [] m (m.add o):=
 ⟨by show m.next.toNat<=m.next.nxt.toNat;rw[D4.toNat_nxt];omega,fun {i} ho _=>NH.get_add_ne m o ho.next_ne⟩
theorem k8 (m:NH) (o:NO):jJ (m.add o) m.next:=by
 show m.next.toNat<m.next.nxt.toNat;rw[D4.toNat_nxt];omega
theorem Sl.flat (h:Sl m v e C):tU v:=by
 obtain ⟨_,⟨rfl,rfl⟩|⟨id,off,kc,w,c,rfl,_⟩⟩:=h<;>trivial
theorem Sl.same (h:Sl m v e C) {n:Nat}:cE (n+1) v v=true:=oD h.flat
end
end Nm
namespace Nm
open Go Go.RowKit
section
variable {L:List (D4×NV)} {t:Tm} {ctx:Option NV} {m:NH} {K:NV->NH->Prop}
end
end Nm
namespace Nm
open Go Go.RowKit
def xm (P:Program) (S:bp) (q:D4) (args:List NV) (m:NH) (v:NV) (m':NH):Prop:=∃c,w9 P S q args m (.val v c m')
def WY (P:Program) (S:bp) (q:D4) (args:List NV) (m:NH) (K:NV->NH->Prop):Prop:=∃v c m',w9 P S q args m (.val v c m')/\K v m'
section
variable {P:Program} {S:bp} {f:Nat} {q:D4} {args:List NV} {m:NH}
section
variable {K:NV->NH->Prop} {st:Nat} {p:Jump} {tm:NT NV} {ps:List D4} {a b:NC} {i:Nat}
end
theorem WY.ret {K:NV->NH->Prop} (h:WY P S q args m K):∃v m',xm P S q args m v m'/\K v m':=by
 obtain ⟨v,c,m',hc,hk⟩:=h;exact ⟨v,m',⟨c,hc⟩,hk⟩
def pD (ks:List D4) (t t':Tm):Prop:=∀k,k∉ks->NT.get k t'=NT.get k t
theorem pD.get {ks:List D4} {t t':Tm} (h:pD ks t t') {k:D4} {v:Option NV} (g:NT.get k t=v) (hk:k∉ks):NT.get k t'=v:=(h k hk).trans g
theorem pD.trans {ks ls:List D4} {a b c:Tm} (h:pD ks a b) (h':pD ls b c) (hs:∀k∈ls,k∈ks):pD ks a c:=fun k hk=>(h' k fun q=>hk (hs k q)).trans (h k hk)
end
end Nm
namespace Nm
open Go Go.RowKit
section
variable (P:PE) (S:bp) (r:Option D4)
end
section
variable {P:PE} {S:bp} {r:Option D4} {dst:Option D4} {op:NOp} {pre idx:Nat} {l:List NOper} {hs:List (Nat×NH)} {rs:List (Nat×(NH->NR)×NV)}
 {L:List (D4×NV)} {t:Tm} {dfs:List Dfr} {ctx:Option NV} {m m':NH} {v:NV} {k g:D4} {d:Dyn} {Q:Out->Dyn->Prop} {K:Dyn->Prop} {b:Bool}
section
variable {f:NH->NR}
end
end
end Nm
namespace Nm
open Go Go.RowKit
section
variable {t:Tm} {m:NH}
end
end Nm
namespace Nm
open Go Go.RowKit
section
variable {t:Tm} {m:NH}
end
end Nm
namespace Nm
open Go Go.RowKit
section
variable {P:Program} {S:bp}
end
section
variable {P:PE} {S:bp} {dst:D4} {L:List (D4×NV)} {t:Tm} {dfs:List Dfr} {ctx:Option NV} {l:List NOper} {K:Dyn->Prop} {B m:NH} {v:NV} {e:Nat} {C:List (List NV)} {x:D4} {w:Bool} {cs:List NV} {kc bytes:Nat}
end
section
variable {P:Program} {S:bp} {f:Nat} {args:List NV} {m:NH} {K:NV->NH->Prop}
variable {E:NV->NH->Prop}
end
section
variable {P:PE} {S:bp} {r:Option D4} {a b:NC} {d:Dyn} {Q:Out->Dyn->Prop}
end
section
variable {P:Program} {S:bp} {q:D4} {args:List NV} {m:NH} {K:NV->NH->Prop}
end
section
variable {P:Program} {S:bp} {f:Nat} {q:D4} {args:List NV} {m:NH}
end
end Nm
namespace Nm
open Go Go.RowKit
section
variable [Val]
def Ro (P:Program) (W:World) (ι:aB) (m:NH):Prop:=Rel P ι W.heap.size m W/\∀i p,ι i=some p->¬Live (m.get i)
def ext (ι:aB) (i:D4) (p:Pl):aB:=fun j=>if j.toNat=i.toNat then some p else ι j
theorem Ro.addE {P:Program} {W:World} {ι:aB} {m:NH} (h:Ro P W ι m) {b o:Nat} {c:List NV} {cur:Array Value} {T:TypeId} {fz:Nat×Nat} (hb:W.heap[b]? =some (.cells cur T fz)) (hn:o+c.length<=cur.size)
 (hc:∀i v,c[i]? =some v->∃v',cur[o+i]? =some v'/\VR ι v v'/\v'.oneCell'=true):
 ∃ι',Ro P W ι' (m.add (.cells false c))/\ι.le ι'/\Chg [] m (m.add (.cells false c))/\ι' m.next=some ⟨b,o,cur.size⟩/\(m.add (.cells false c)).get m.next=some (.cells false c)/\jJ (m.add (.cells false c)) m.next:=by
 obtain ⟨hR,hL⟩:=h
 have hold:∀i p,ι i=some p->jJ m i:=fun i p hi=>by
  obtain ⟨x,hx,_⟩:=hR.obj i p hi
  exact hR.fresh i x hx
 have hext:∀i p,ι i=some p->ext ι m.next ⟨b,o,cur.size⟩ i=some p:=fun i p hi=>by
  unfold ext;rw[xO (Nat.ne_of_lt (hold i p hi))];exact hi
 have hle:ι.le (ext ι m.next ⟨b,o,cur.size⟩):=hext
 have hinv:∀i p,ext ι m.next ⟨b,o,cur.size⟩ i=some p->(i=m.next/\p=⟨b,o,cur.size⟩)∨(ι i=some p/\i≠m.next):=fun i p hi=>by
  unfold ext at hi
  by_cases e:i.toNat=m.next.toNat
  ·rw[xP e] at hi;injection hi with hi;exact Or.inl ⟨D4.toNat_inj e,hi.symm⟩
  ·rw[xO e] at hi;exact Or.inr ⟨hi,fun q=>e (by rw[q])⟩
 have hnl:∀i p,ext ι m.next ⟨b,o,cur.size⟩ i=some p->¬Live ((m.add (.cells false c)).get i):=fun i p hi=>by
  rcases hinv i p hi with ⟨rfl,_⟩|⟨hi,hne⟩
  ·rw[NH.get_add_same];exact fun q=>q.2 c rfl
  ·rw[NH.get_add_ne _ _ hne];exact hL i p hi
 refine ⟨ext ι m.next ⟨b,o,cur.size⟩,⟨⟨?_, ?_, ?_, ?_, ?_,hR.gl.mono hle⟩,hnl⟩,hle,Chg.add m _,by unfold ext;rw[xP rfl],NH.get_add_same m _,k8 m _⟩
 ·intro i p hi
  rcases hinv i p hi with ⟨rfl,rfl⟩|⟨hi,hne⟩
  ·refine ⟨.cells false c,NH.get_add_same m _, ?_⟩
   show ∃(cur':Array Value) (T:TypeId) (fz:Nat×Nat),W.heap[b]? =some (.cells cur' T fz)/\(false=true->fz=(0,0))/\cur'.size=cur.size/\o+c.length<=cur.size/\∀i v,c[i]? =some v->∃v',cur'[o+i]? =some v'/\VR (ext ι m.next ⟨b,o,cur.size⟩) v v'/\v'.oneCell'=true
   refine ⟨cur,T,fz,hb,fun q=>Bool.noConfusion q,rfl,hn,fun i v hv=> ?_⟩
   obtain ⟨v',h1,h2,h3⟩:=hc i v hv
   exact ⟨v',h1,h2.mono hle,h3⟩
  ·obtain ⟨x,h1,h2⟩:=hR.obj i p hi
   exact ⟨x,(NH.get_add_ne m _ hne).trans h1,h2.mono hle rfl⟩
 ·intro i j p q hi hj hne hl _
  exact xN hl (hnl i p hi)
 ·intro i p hi hl;exact xN hl (hnl i p hi)
 ·intro i p hi
  rcases hinv i p hi with ⟨rfl,rfl⟩|⟨hi,_⟩
  ·exact (Array.getElem?_eq_some_iff.mp hb).1
  ·exact hR.lt i p hi
 ·intro i x hx
  by_cases e:i=m.next
  ·subst e;exact k8 m _
  ·rw[NH.get_add_ne _ _ e] at hx
   exact (Chg.add m (.cells false c)).old (hR.fresh i x hx)
theorem Ro.add {P:Program} {W:World} {ι:aB} {m:NH} (h:Ro P W ι m) {b o:Nat} {c:List NV} {cur:Array Value} {T:TypeId} {fz:Nat×Nat} (hb:W.heap[b]? =some (.cells cur T fz)) (hn:o+c.length<=cur.size)
 (hc:∀i v,c[i]? =some v->∃v',cur[o+i]? =some v'/\VR ι v v'/\v'.oneCell'=true):
 ∃ι' m',Ro P W ι' m'/\ι.le ι'/\Chg [] m m'/\ι' m.next=some ⟨b,o,cur.size⟩/\m'.get m.next=some (.cells false c)/\jJ m' m.next:=by
 obtain ⟨ι',h⟩:=h.addE hb hn hc
 exact ⟨ι',_,h⟩
theorem Ro.nil (P:Program) (W:World) (hw:NG<=W.heap.size):Ro P W ι0 G0:=⟨ub P W hw,fun i p h=>by rw[eh h];exact bE⟩
theorem VRL.append {ι:aB} {a:List NV} {a':List Value} {b:List NV} {b':List Value} (h:VRL ι a a') (k:VRL ι b b'):VRL ι (a++b) (a'++b'):=by
 induction a generalizing a' with
 |nil=>cases h;exact k
 |cons v l ih=>cases h with
  |cons _ v' _ l' h hl=>exact .cons _ _ _ _ h (ih hl)
def Cs (W:World) (ι:aB) (a:Addr) (l:List NV):Prop:=∀(j:Nat) (v:NV),l[j]? =some v->∃v',W.cell? (a.add j)=some v'/\VR ι v v'/\v'.oneCell'=true
theorem Cs.mono {W:World} {ι ι':aB} (hι:ι.le ι') {a:Addr} {l:List NV} (h:Cs W ι a l):Cs W ι' a l:=fun j v hv=>let ⟨v',h1,h2,h3⟩:=h j v hv;⟨v',h1,h2.mono hι,h3⟩
omit [Val] in
theorem trodAll_stays {P:Program} (hl:laidOutB P=true) {W W':World} (hb:Below W.heap.size W W') {H:Type} {enc:TypeId×Value->H} {sp:Nat->Bool}:∀(ts:List TypeId) (args:List Value) (ds:List (DataW H)) (ps:List MemPlace),(∀t∈ts,P.readableRec t=true/\t<P.types.size)->
 DataW.TrodAll enc P W 0 (fun _=>true) true ts args ds ps->(∀p∈ps,p.block<W.heap.size)->(∀p∈ps,sp p.block=true)->DataW.TrodAll enc P W' 0 sp true ts args ds ps:=by
 intro ts
 induction ts with
 |nil=>
  intro args ds ps _ h _ _
  cases args with
  |nil=>cases ds with
   |nil=>exact h
   |cons=>cases h
  |cons=>cases h
 |cons t ts ih=>
  intro args ds ps hr h hlt hsp
  cases args with
  |nil=>cases h
  |cons v args=>
   cases ds with
   |nil=>cases h
   |cons d ds=>
    obtain ⟨p,q,hd,hq,rfl⟩:=h
    exact ⟨p,q,WideElems.Trod_stays hl (hr t (List.mem_cons_self ..)).1 (hr t (List.mem_cons_self ..)).2 hd (fun x hx=>hb.same (hlt x (List.mem_append_left _ hx))) (fun x hx=>hsp x (List.mem_append_left _ hx)),
     ih args ds q (fun t ht=>hr t (List.mem_cons_of_mem _ ht)) hq (fun x hx=>hlt x (List.mem_append_right _ hx)) (fun x hx=>hsp x (List.mem_append_right _ hx)),rfl⟩
omit [Val] in
theorem xo.kept {P:Program} {S:bp} {f:Nat} {args:List NV} {v:NV} (h:S f args=fun h=>some (v,h)) (m:NH):xo P S f args m v m:=by
 refine ⟨none,by simp,0, ?_⟩
 unfold bi;rw[h]
omit [Val] in
theorem trodAll_len {P:Program} {W:World} {base:Nat} {sp:Nat->Bool} {hd:Bool} {H:Type} {enc:TypeId×Value->H}:∀{ts:List TypeId} {vs:List Value} {ds:List (DataW H)} {ps:List MemPlace},DataW.TrodAll enc P W base sp hd ts vs ds ps->ds.length=ts.length:=by
 intro ts
 induction ts with
 |nil=>intro vs ds ps h;cases vs<;>cases ds<;>first|rfl|cases h
 |cons t ts ih=>
  intro vs ds ps h
  cases vs with
  |nil=>cases h
  |cons v vs=>cases ds with
   |nil=>cases h
   |cons d ds=>obtain ⟨_,_,_,h,_⟩:=h;simp[ih h]
end
end Nm
namespace Nm
open Go Go.RowKit
namespace C
abbrev t (a:D4):NOpd:= .tmp a
abbrev k (z:Int):NOpd:= .const (.int .i64 (.lit z))
abbrev kb (z:Int):NOpd:= .const (.int .u8 (.lit z))
abbrev ku (z:Int):NOpd:= .const (.int .u64 (.lit z))
abbrev kt:NOpd:= .const (.bool true)
abbrev kf:NOpd:= .const (.bool false)
abbrev kn:NOpd:= .const .nils
abbrev F (n:Nat):NOpd:= .const (.fn n [])
abbrev o (d:D4) (p:NOp) (i:Nat):NOper:=⟨some d,p,none,0,i⟩
abbrev O (d:D4) (p:NOp) (q i:Nat):NOper:=⟨some d,p,none,q,i⟩
abbrev G (d:D4) (p:NOp) (g:D4) (b:Bool) (i:Nat):NOper:=⟨some d,p,some (g,b),0,i⟩
abbrev m (d s:D4) (i:Nat):NOper:=⟨some d,.move (.tmp s),none,0,i⟩
abbrev f (n:Nat) (d s:D4) (i:Nat):NOper:=⟨some d,.fieldAddr n (.tmp s),none,0,i⟩
abbrev l (d s:D4) (i:Nat):NOper:=⟨some d,.load1 (.tmp s),none,0,i⟩
abbrev L (d s:D4) (i:Nat):NOper:=⟨some d,.lenSlc (.tmp s),none,0,i⟩
abbrev n (d s:D4) (i:Nat):NOper:=⟨some d,.nilCheck (.tmp s),none,0,i⟩
abbrev x (d s:D4) (j i:Nat):NOper:=⟨some d,.extract (.tmp s) j,none,0,i⟩
abbrev q (p:NOp) (i:Nat):NOper:=⟨none,p,none,0,i⟩
abbrev b (d:D4) (p:BinOp) (a c:NOpd) (i:Nat):NOper:=⟨some d,.bin .num p a c,none,0,i⟩
end C
end Nm
namespace Nm
open Go Go.RowKit
noncomputable def sv (f:Nat) (F:List NV->NH->Option (NV×NH)) (S:bp):bp:=fun g=>cond (Nat.beq g f) F (S g)
section
variable [Val]
def iW (P:Program) (f:Nat) (F:List NV->NH->Option (NV×NH)):Prop:=
 ∀(ι:aB) (B:Nat) (h:NH) (w:World) (args:List NV) (args':List Value) (v:NV) (h':NH),F args h=some (v,h')->Rel P ι B h w->B<=w.heap.size->VRL ι args args'->
  jC P ι B h w ((callFunc f args'.toArray).run P w) (.val v none h')
theorem nO {P:Program} {S:bp} {f:Nat} {F:List NV->NH->Option (NV×NH)} (hS:cS P S) (hF:iW P f F):cS P (sv f F S):=by
 intro ι B h w g args args' v h' hg hR hB hl
 unfold sv at hg
 cases hb:Nat.beq g f with
 |true=>
  rw[hb] at hg
  obtain rfl:=xS hb
  exact hF ι B h w args args' v h' hg hR hB hl
 |false=>
  rw[hb] at hg
  exact hS ι B h w g args args' v h' hg hR hB hl
theorem iW.of {P:Program} {f:Nat} {F:List NV->NH->Option (NV×NH)} (hen:∀args w,(callFunc f args).run P w= .ok (.enter f args) w)
 (H:∀(ι:aB) (B:Nat) (h:NH) (w:World) (args:List NV) (args':List Value) (v:NV) (h':NH),F args h=some (v,h')->Rel P ι B h w->B<=w.heap.size->VRL ι args args'->
  Calls P f args'.toArray w fun e w'=>∃ι' v',e= .returned v'/\VR ι' v v'/\Rel P ι' B h' w'/\B<=w'.heap.size/\Grow ι h w ι' h' w'):iW P f F:=by
 intro ι B h w args args' v h' hF hR hB hl c0 cs
 obtain ⟨e,w',fr,⟨ι',v',he,hv,hR',hB',hG⟩,hcomes,hfn,hleave⟩:=H ι B h w args args' v h' hF hR hB hl (c0::cs)
 subst he
 exact ⟨ι',v',w',hv,hR',hB',hG,.inr ⟨w,.inl ⟨f,args'.toArray,hen _ w,Steps.trans hcomes (.one (step_leave_returned hleave))⟩⟩⟩
theorem Rel.below {P:Program} {ι:aB} {B:Nat} {h:NH} {w w':World} (hR:Rel P ι B h w) (hb:Below w.heap.size w w'):Rel P ι B h w':=
 ⟨fun i p hi=>by
  obtain ⟨o,o1,o2⟩:=hR.obj i p hi
  exact ⟨o,o1,o2.mono (aB.le_refl _) (hb.block _ (hR.lt i p hi))⟩,hR.inj,hR.base,fun i p hi=>Nat.lt_of_lt_of_le (hR.lt i p hi) hb.size,hR.fresh,hR.gl⟩
omit [Val] in
theorem Grow.below {ι:aB} {h:NH} {w w':World} (hb:Below w.heap.size w w'):Grow ι h w ι h w':=
 ⟨aB.le_refl _,Nat.le_refl _,fun _ _ x=> .inl x,fun i p x y=> .inr ⟨i,p,x,y,rfl⟩,fun _ _ _=>rfl,hb.size,hb.os,hb.tape,hb.output,fun b hb' _=>hb.block b hb'⟩
end
end Nm
namespace SK
open Go Nm Go.Proofs
open Nm.D4 (e)
open Nm.NC (reg regD)
open Nm.C
noncomputable def xC:NFun:=⟨(reg [o e.b (.move kf) 0]).seq ((reg [o e.b.a (.call (F 4) []) 0,m e.c e.b.a 1]).seq ((reg [o e.b.b (.buildSlice [.str [],.str [],.str [],.str [],.str [],.str [],.str [],.str [],.str [],.str []] 1 10 9 [(0,1,.const (.str [99,101,108,108,32,97,59,99,101,108,108,32,98,91,52,93,59])),(1,1,.const (.str [116,104,114,101,97,100,32,116,123,115,101,116,32,120,32,49,43,121,42,50,59,125])),(2,1,.const (.str [116,104,114,101,97,100,32,116,123,108,111,97,100,32,118,32,97,59,108,111,97,100,32,118,32,97,91,48,93,59,108,111,97,100,32,118,32,97,91,105,43,49,93,59,125])),(3,1,.const (.str [116,104,114,101,97,100,32,116,123,115,116,111,114,101,32,97,32,49,59,115,116,111,114,101,32,97,91,120,93,121,59,125])),(4,1,.const (.str [116,104,114,101,97,100,32,116,123,99,97,115,32,118,32,97,91,49,93,48,32,120,43,49,59,125])),(5,1,.const (.str [116,104,114,101,97,100,32,116,123,102,101,110,99,101,59,111,117,116,32,120,60,49,59,125])),(6,1,.const (.str [116,104,114,101,97,100,32,116,123,105,102,32,120,123,111,117,116,32,49,59,125,101,108,115,101,123,111,117,116,32,50,59,125,105,102,32,120,123,125,101,108,115,101,123,125,125])),(7,1,.const (.str [116,104,114,101,97,100,32,116,123,119,104,105,108,101,32,120,123,119,104,105,108,101,32,121,123,102,101,110,99,101,59,125,125,125])),(8,1,.const (.str [114,101,99,111,118,101,114,123,111,117,116,32,55,59,125,116,104,114,101,97,100,32,116,123,125])),(9,1,.const (.str [114,101,99,111,118,101,114,123,125,99,101,108,108,32,99,91,49,93,59]))]) 0,m e.f e.b.b 1]).seq ((reg [o e.b.c (.buildSlice [.str [],.str [],.str [],.str [],.str [],.str [],.str [],.str [],.str [],.str []] 1 10 9 [(0,1,.const (.str [99,101,108,108,32,97,59,10,99,101,108,108,32,98,91,52,93,59,10])),(1,1,.const (.str [116,104,114,101,97,100,32,116,32,123,10,32,32,115,101,116,32,120,32,40,40,49,32,43,32,121,41,32,42,32,50,41,59,10,125,10])),(2,1,.const (.str [116,104,114,101,97,100,32,116,32,123,10,32,32,108,111,97,100,32,118,32,97,59,10,32,32,108,111,97,100,32,118,32,97,59,10,32,32,108,111,97,100,32,118,32,97,91,40,105,32,43,32,49,41,93,59,10,125,10])),(3,1,.const (.str [116,104,114,101,97,100,32,116,32,123,10,32,32,115,116,111,114,101,32,97,32,49,59,10,32,32,115,116,111,114,101,32,97,91,120,93,32,121,59,10,125,10])),(4,1,.const (.str [116,104,114,101,97,100,32,116,32,123,10,32,32,99,97,115,32,118,32,97,91,49,93,32,48,32,40,120,32,43,32,49,41,59,10,125,10])),(5,1,.const (.str [116,104,114,101,97,100,32,116,32,123,10,32,32,102,101,110,99,101,59,10,32,32,111,117,116,32,40,120,32,60,32,49,41,59,10,125,10])),(6,1,.const (.str [116,104,114,101,97,100,32,116,32,123,10,32,32,105,102,32,120,32,123,10,32,32,32,32,111,117,116,32,49,59,10,32,32,125,32,101,108,115,101,32,123,10,32,32,32,32,111,117,116,32,50,59,10,32,32,125,10,32,32,105,102,32,120,32,123,10,32,32,125,10,125,10])),(7,1,.const (.str [116,104,114,101,97,100,32,116,32,123,10,32,32,119,104,105,108,101,32,120,32,123,10,32,32,32,32,119,104,105,108,101,32,121,32,123,10,32,32,32,32,32,32,102,101,110,99,101,59,10,32,32,32,32,125,10,32,32,125,10,125,10])),(8,1,.const (.str [116,104,114,101,97,100,32,116,32,123,10,125,10,114,101,99,111,118,101,114,32,123,10,32,32,111,117,116,32,55,59,10,125,10])),(9,1,.const (.str [99,101,108,108,32,99,59,10]))]) 0,m e.a.a e.b.c 1]).seq (((reg [m e.b.f e.c 0,o e.c.a (.un .not (t e.b.f)) 1,m e.c.b e.c.a 2,G e.c.c (.move (t e)) e.c.b false 3,G e.c.f (.bin .num .lss (t e.c.c) (k 0)) e.c.b false 4,o e.f.a (.pick (t e.c.b) kt (t e.c.f)) 5,m e.f.b e.f.a 6,G e.f.c (.move (t e)) e.f.b false 7,G e.f.f (.move (t e.f)) e.f.b false 8,G e.a.a.a (.lenSlc (t e.f.f)) e.f.b false 9,G e.a.a.b (.bin .num .geq (t e.f.c) (t e.a.a.a)) e.f.b false 10,o e.a.a.c (.pick (t e.f.b) kt (t e.a.a.b)) 11]).seq (NC.cond (t e.a.a.c) ((reg [m e.a.a.f e.c 0,m e.b e.a.a.f 1]).seq NC.ret) NC.skip)).seq ((reg [m e.a.b.b e.f 0,m e.a.b.c e 1,o e.a.b.f (.indexSlc 1 (t e.a.b.b) (t e.a.b.c)) 2,l e.a.c.a e.a.b.f 3,o e.a.c.b (.strToBytes 5 (t e.a.c.a)) 4,o e.a.c.c (.call (F 5) [t e.a.c.b]) 5,m e.a.b.a e.a.c.c 6,x e.a.c.f e.a.b.a 0 7,x e.a.f.a e.a.b.a 1 8,x e.a.f.b e.a.b.a 2 9,o e.a.b (.alloc [.nils,.nils,.nils] 28) 10,q (.store 3 (t e.a.b) (t e.a.c.f)) 11,m e.a.c e.a.f.a 12,m e.a.f e.a.f.b 13]).seq ((regD [m e.a.f.c e.a.f 0,O e.a.f.f (.call (F 6) [t e.a.f.c]) 1 1,O e.b.a.a (.bin .num .eql (t e.a.f.f) (k 0)) 3 2,O e.b.a.b (.move (t e.b.a.a)) 7 3,⟨some e.b.a.c,.loadN 3 (t e.a.b),some (e.b.a.b,true),15,4⟩,⟨some e.b.b.a,.move (t e.a.a),some (e.b.a.b,true),15,6⟩,⟨some e.b.b.b,.move (t e),some (e.b.a.b,true),15,7⟩,⟨some e.b.b.c,.indexSlc 1 (t e.b.b.a) (t e.b.b.b),some (e.b.a.b,true),207,8⟩,⟨some e.b.b.f,.load1 (t e.b.b.c),some (e.b.a.b,true),463,9⟩,⟨some e.b.a.f,.call (F 7) [t e.b.a.c],some (e.b.a.b,true),31,5⟩,⟨some e.b.c.a,.bin .num .eql (t e.b.a.f) (t e.b.b.f),some (e.b.a.b,true),1023,10⟩,O e.b.c.b (.pick (t e.b.a.b) (t e.b.c.a) kf) 2047 11,O e.b (.move (t e.b.c.b)) 4095 12]).seq NC.ret)))))),47, [.tmp e.b]⟩
theorem uz:ai Tryd.prog 3=some (.code xC):=by kernel_rfl
noncomputable def xB:NFun:=⟨(reg [o e (.move kf) 0]).seq ((reg [o e.a (.build [.nils,.nils,.nils] []) 0,o e.b (.call (F 7) [t e.a]) 1,b e.c .eql (t e.b) (.const (.str [])) 2,m e.f e.c 3,G e.a.a (.build [.int .i64 (.lit 0),.int .u64 (.lit 0),.int .u8 (.lit 0),.str [],.nils] [(1,1,ku 5)]) e.f true 4,G e.a.b (.call (F 8) [t e.a.a]) e.f true 5,G e.a.c (.bin .num .eql (t e.a.b) (.const (.str [53]))) e.f true 6,o e.a.f (.pick (t e.f) (t e.a.c) kf) 7,m e e.a.f 8]).seq NC.ret),9, [.tmp e]⟩
theorem uP:ai Tryd.prog 4=some (.code xB):=by kernel_rfl
noncomputable def xD:NFun:=⟨(reg [o e.b (.alloc [.nils,.nils,.nils] 28) 0,o e.c (.alloc [.int .i64 (.lit 0)] 3) 1,o e.f (.alloc [.int .i64 (.lit 0)] 29) 2]).seq ((reg [m e.a.f e 0,o e.b.a (.call (F 9) [t e.a.f]) 1,m e.a.c e.b.a 2,x e.b.b e.a.c 0 3,x e.b.c e.a.c 1 4,x e.b.f e.a.c 2 5,o e.a.a (.alloc [.nils] 41) 6,q (.store 1 (t e.a.a) (t e.b.b)) 7,q (.store 1 (t e.c) (t e.b.c)) 8,q (.store 1 (t e.f) (t e.b.f)) 9]).seq (((reg [l e.c.a e.f 0,b e.c.b .neq (t e.c.a) (k 0) 1]).seq (NC.cond (t e.c.b) ((regD [o e.c.c (.build [.nils,.nils,.nils] []) 0,l e.c.f e.c 1,l e.f.a e.f 2,⟨none,.store 3 (t e.b) (t e.c.c),none,1,3⟩,⟨none,.store 1 (t e.c) (t e.c.f),none,11,4⟩,⟨none,.store 1 (t e.f) (t e.f.a),none,31,5⟩]).seq NC.ret) NC.skip)).seq ((reg [o e.f.b (.mkFn 10 [t e.a.a,t e.b,t e.c,t e.f]) 0,q (.defer (t e.f.b)) 1]).seq ((reg [l e.f.c e.a.a 0,o e.f.f (.build [.nils,.int .i64 (.lit 0)] [(0,1,t e.f.c)]) 1,o e.a.a.a (.box (t e.f.f) 51) 2,m e.a.b e.a.a.a 3]).seq ((reg [m e.a.a.b e.a.b 0,o e.a.a.c (.call (F 12) [t e.a.a.b]) 1,m e.a.a.f e 2,L e.a.b.a e.a.a.f 3,q (.store 3 (t e.b) (t e.a.a.c)) 4,q (.store 1 (t e.c) (t e.a.b.a)) 5,q (.store 1 (t e.f) (k 0)) 6]).seq NC.ret))))),26, [.cellN e.b 3,.cell1 e.c,.cell1 e.f]⟩
theorem ux:ai Tryd.prog 5=some (.code xD):=by kernel_rfl
noncomputable def xG:NFun:=⟨(reg [o e.b (.move (k 0)) 0]).seq ((reg [m e.c e 0,m e.b e.c 1]).seq NC.ret),4, [.tmp e.b]⟩
theorem uF:ai Tryd.prog 6=some (.code xG):=by kernel_rfl
noncomputable def uJ:NC:=((reg [b e.c.b .lss (t e.c.a) (t e.b.f) 0]).seq ((NC.cond (t e.c.b) NC.skip (NC.exit 0)).seq ((NC.block 1 ((reg [o e.c.c (.indexSlc 2 (t e.b.c) (t e.c.a)) 0,o e.c.f (.loadN 2 (t e.c.c)) 1,o e.a.a (.alloc [.str [],.int .i64 (.lit 0)] 60) 2,q (.store 2 (t e.a.a) (t e.c.f)) 3]).seq (reg [m e.f.a e.c 0,o e.f.b (.loadN 2 (t e.a.a)) 1,o e.f.c (.call (F 13) [t e.f.a,t e.f.b]) 2]))).seq (reg [b e.f.f .add (t e.c.a) (k 1) 0,m e.c.a e.f.f 1]))))
noncomputable def uc:NC:=((reg [b e.a.b.a .lss (t e.a.a.f) (t e.a.a.c) 0]).seq ((NC.cond (t e.a.b.a) NC.skip (NC.exit 2)).seq ((NC.block 3 ((reg [o e.a.b.b (.indexSlc 2 (t e.a.a.b) (t e.a.a.f)) 0,o e.a.b.c (.loadN 2 (t e.a.b.b)) 1,o e.a.c (.alloc [.str [],.nils] 63) 2,q (.store 2 (t e.a.c) (t e.a.b.c)) 3]).seq ((reg [m e.a.b.f e.c 0,f 0 e.a.c.a e.a.c 1,l e.a.c.b e.a.c.a 2,o e.a.c.c (.buildSlice [.str [],.str [],.str []] 1 3 9 [(0,1,.const (.str [116,104,114,101,97,100,32])),(1,1,t e.a.c.b),(2,1,.const (.str [32,123]))]) 3,o e.a.c.f (.call (F 14) [t e.a.b.f,t e.a.c.c]) 4]).seq ((reg [m e.a.f.a e.c 0,f 1 e.a.f.b e.a.c 1,l e.a.f.c e.a.f.b 2,o e.a.f.f (.call (F 15) [t e.a.f.a,t e.a.f.c]) 3]).seq (reg [m e.b.a.a e.c 0,o e.b.a.b (.buildSlice [.str []] 1 1 9 [(0,1,.const (.str [125]))]) 1,o e.b.a.c (.call (F 14) [t e.b.a.a,t e.b.a.b]) 2]))))).seq (reg [b e.b.a.f .add (t e.a.a.f) (k 1) 0,m e.a.a.f e.b.a.f 1]))))
noncomputable def xA:NFun:=⟨(reg [o e.a (.box (t e) 28) 0,o e.b (.move (.const (.str []))) 1]).seq ((reg [o e.a.f (.build [.nilp,.nils,.int .i64 (.lit 0)] []) 0,o e.b.a (.box (t e.a.f) 58) 1,m e.c e.b.a 2]).seq (((reg [f 0 e.b.b e.a 0,l e.b.c e.b.b 1,L e.b.f e.b.c 2,o e.c.a (.move (k 0)) 3]).seq (NC.block 0 uJ.loop)).seq (((reg [f 1 e.a.a.a e.a 0,l e.a.a.b e.a.a.a 1,L e.a.a.c e.a.a.b 2,o e.a.a.f (.move (k 0)) 3]).seq (NC.block 2 uc.loop)).seq (((reg [f 2 e.b.b.a e.a 0,l e.b.b.b e.b.b.a 1,L e.b.b.c e.b.b.b 2,b e.b.b.f .gtr (t e.b.b.c) (k 0) 3]).seq (NC.cond (t e.b.b.f) ((reg [m e.b.c.a e.c 0,o e.b.c.b (.buildSlice [.str []] 1 1 9 [(0,1,.const (.str [114,101,99,111,118,101,114,32,123]))]) 1,o e.b.c.c (.call (F 14) [t e.b.c.a,t e.b.c.b]) 2]).seq ((reg [m e.b.c.f e.c 0,f 2 e.b.f.a e.a 1,l e.b.f.b e.b.f.a 2,o e.b.f.c (.call (F 15) [t e.b.c.f,t e.b.f.b]) 3]).seq (reg [m e.b.f.f e.c 0,o e.c.a.a (.buildSlice [.str []] 1 1 9 [(0,1,.const (.str [125]))]) 1,o e.c.a.b (.call (F 14) [t e.b.f.f,t e.c.a.a]) 2]))) NC.skip)).seq ((reg [m e.c.a.c e.c 0,n e.c.a.f e.c.a.c 1,f 0 e.c.b.a e.c.a.f 2,o e.c.b.b (.call (F 16) [t e.c.b.a]) 3,m e.b e.c.b.b 4]).seq NC.ret))))),59, [.tmp e.b]⟩
theorem ud:ai Tryd.prog 7=some (.code xA):=by kernel_rfl
noncomputable def xE:NFun:=⟨(reg [o e.a (.box (t e) 40) 0,o e.b (.move (.const (.str []))) 1]).seq ((NC.block 0 ((reg [f 0 e.f e.a 0,l e.a.a e.f 1,b e.a.b .eql (t e.a.a) (k 0) 2,m e.c e.a.b 3]).seq (NC.cond (t e.c) ((reg [f 1 e.a.c e.a 0,l e.a.f e.a.c 1,o e.b.a (.call (F 17) [t e.a.f,k 10]) 2,m e.b e.b.a 3]).seq NC.ret) ((reg [f 0 e.b.c e.a 0,l e.b.f e.b.c 1,b e.c.a .eql (t e.b.f) (k 1) 2,m e.b.b e.c.a 3]).seq (NC.cond (t e.b.b) ((reg [f 3 e.c.b e.a 0,l e.c.c e.c.b 1,m e.b e.c.c 2]).seq NC.ret) ((reg [f 0 e.f.a e.a 0,l e.f.b e.f.a 1,b e.f.c .eql (t e.f.b) (k 2) 2,m e.f.f e.f.c 3,G e.a.a.a (.fieldAddr 4 (t e.a)) e.f.f true 4,G e.a.a.b (.load1 (t e.a.a.a)) e.f.f true 5,G e.a.a.c (.lenSlc (t e.a.a.b)) e.f.f true 6,G e.a.a.f (.bin .num .eql (t e.a.a.c) (k 2)) e.f.f true 7,o e.a.b.a (.pick (t e.f.f) (t e.a.a.f) kf) 8,m e.c.f e.a.b.a 9]).seq (NC.cond (t e.c.f) ((regD [f 4 e.a.b.b e.a 0,O e.a.b.c (.load1 (t e.a.b.b)) 1 1,O e.a.b.f (.indexSlc 5 (t e.a.b.c) (k 0)) 3 2,O e.a.c.a (.loadN 5 (t e.a.b.f)) 7 3,f 2 e.a.f.a e.a 7,O e.a.f.b (.load1 (t e.a.f.a)) 128 8,O e.a.f.c (.buildSlice [.int .u8 (.lit 0)] 1 1 5 [(0,1,t e.a.f.b)]) 384 9,O e.a.f.f (.bytesToStr (t e.a.f.c)) 896 10,f 4 e.b.a.c e.a 13,O e.b.a.f (.load1 (t e.b.a.c)) 8192 14,O e.b.b.a (.indexSlc 5 (t e.b.a.f) (k 1)) 24576 15,O e.b.b.b (.loadN 5 (t e.b.b.a)) 57344 16,O e.a.c.b (.call (F 8) [t e.a.c.a]) 15 4,O e.a.c.c (.bin .num .add (.const (.str [40])) (t e.a.c.b)) 31 5,O e.a.c.f (.bin .num .add (t e.a.c.c) (.const (.str [32]))) 63 6,O e.b.a.a (.bin .num .add (t e.a.c.f) (t e.a.f.f)) 2047 11,O e.b.a.b (.bin .num .add (t e.b.a.a) (.const (.str [32]))) 4095 12,O e.b.b.c (.call (F 8) [t e.b.b.b]) 122911 17,O e.b.b.f (.bin .num .add (t e.b.a.b) (t e.b.b.c)) 262143 18,O e.b.c.a (.bin .num .add (t e.b.b.f) (.const (.str [41]))) 524287 19,O e.b (.move (t e.b.c.a)) 1048575 20]).seq NC.ret) NC.skip))))))).seq ((reg [o e.b (.move (.const (.str [48]))) 0]).seq NC.ret)),46, [.tmp e.b]⟩
theorem uU:ai Tryd.prog 8=some (.code xE):=by kernel_rfl
noncomputable def uR:NC:=(reg [o e.a.f (.alloc [.int .i64 (.lit 0),.str [],.int .u64 (.lit 0),.int .i64 (.lit 0)] 48) 0,q (.store 4 (t e.a.f) (t e.c.c)) 1])
noncomputable def uO:NC:=(NC.block 1 (reg [l e.c.f e.a.c 0,o e.f.a (.loadN 4 (t e.a.f)) 1,o e.f.b (.buildSlice [.int .i64 (.lit 0),.str [],.int .u64 (.lit 0),.int .i64 (.lit 0)] 4 1 48 [(0,4,t e.f.a)]) 2,o e.f.c (.append 4 40 48 (t e.c.f) (t e.f.b)) 3,q (.store 1 (t e.a.c) (t e.f.c)) 4]))
noncomputable def xz:NFun:=⟨(reg [o e.b (.move kn) 0,o e.c (.move (k 0)) 1,o e.f (.move (k 0)) 2]).seq (((reg [m e.b.a e 0,L e.b.b e.b.a 1,b e.b.c .gtr (t e.b.b) (k 16384) 2]).seq (NC.cond (t e.b.c) ((reg [o e.b (.move kn) 0,o e.c (.move (k 0)) 1,o e.f (.move (k 3)) 2]).seq NC.ret) NC.skip)).seq ((reg [o e.a.a (.alloc [.int .i64 (.lit 0)] 3) 0,o e.a.b (.alloc [.bool false] 4) 1,q (.store 1 (t e.a.a) (k 0)) 2,q (.store 1 (t e.a.b) kf) 3]).seq ((reg [o e.a.c (.alloc [.nils] 41) 0]).seq (((reg [m e.b.f e 0,o e.c.a (.bytesToStr (t e.b.f)) 1,o e.c.b (.call (F 18) [t e.c.a,t e.a.a,t e.a.b]) 2]).seq (NC.block 0 (NC.rangeFunc (t e.c.b) [e.c.c] uR uO))).seq (((reg [l e.f.f e.a.b 0]).seq (NC.cond (t e.f.f) ((regD [l e.a.a.a e.a.a 0,o e.b (.move kn) 1,O e.c (.move (t e.a.a.a)) 3 2,O e.f (.move (k 2)) 7 3]).seq NC.ret) NC.skip)).seq ((regD [l e.a.a.b e.a.c 0,l e.a.a.c e.a.a 1,O e.b (.move (t e.a.a.b)) 1 2,O e.c (.move (t e.a.a.c)) 7 3,O e.f (.move (k 0)) 15 4]).seq NC.ret)))))),24, [.tmp e.b,.tmp e.c,.tmp e.f]⟩
theorem uh:ai Tryd.prog 9=some (.code xz):=by kernel_rfl
noncomputable def uZ:NFun:=⟨(reg [o e.a.b (.recover) 0,m e.f e.a.b 1]).seq ((reg [m e.a.c e.f 0,o e.a.f (.bin .ifc .neq (t e.a.c) (.const .nili)) 1]).seq (NC.cond (t e.a.f) ((reg [m e.b.a e.f 0,o e.b.b (.call (F 11) [t e.b.a]) 1,o e.a.a (.alloc [.int .i64 (.lit 0),.int .i64 (.lit 0)] 45) 2,q (.store 2 (t e.a.a) (t e.b.b)) 3]).seq (regD [o e.b.c (.build [.nils,.nils,.nils] []) 0,l e.b.f e 1,f 1 e.c.a e.a.a 2,O e.c.b (.load1 (t e.c.a)) 4 3,l e.c.c e 4,O e.c.f (.lenSlc (t e.c.c)) 16 5,O e.f.a (.bin .num .sub (t e.c.f) (k 1)) 48 6,O e.f.b (.minmax false [t e.c.b,t e.f.a]) 124 7,O e.f.c (.indexSlc 4 (t e.b.f) (t e.f.b)) 254 8,O e.f.f (.fieldAddr 3 (t e.f.c)) 510 9,O e.a.a.a (.load1 (t e.f.f)) 1022 10,f 0 e.a.a.b e.a.a 11,O e.a.a.c (.load1 (t e.a.a.b)) 2048 12,⟨none,.store 3 (t e.a) (t e.b.c),none,2047,13⟩,⟨none,.store 1 (t e.b) (t e.a.a.a),none,10239,14⟩,⟨none,.store 1 (t e.c) (t e.a.a.c),none,32767,15⟩])) NC.skip)),24, []⟩
theorem sg:ai Tryd.prog 10=some (.code uZ):=by kernel_rfl
noncomputable def wS:NFun:=⟨(reg [o e.b (.alloc [.int .i64 (.lit 0),.int .i64 (.lit 0)] 45) 0]).seq ((reg [m e.a.b e 0,o e.a.c (.typeAssert 45 (.agg [.int .i64 (.lit 0),.int .i64 (.lit 0)]) (t e.a.b)) 1,m e.a.a e.a.c 2,x e.a.f e.a.a 0 3,x e.b.a e.a.a 1 4,o e.c (.alloc [.int .i64 (.lit 0),.int .i64 (.lit 0)] 45) 5,q (.store 2 (t e.c) (t e.a.f)) 6,m e.f e.b.a 7]).seq (((reg [m e.b.b e.f 0,o e.b.c (.un .not (t e.b.b)) 1]).seq (NC.cond (t e.b.c) (reg [m e.b.f e 0,q (.panic (t e.b.f)) 1]) NC.skip)).seq ((reg [o e.c.a (.loadN 2 (t e.c)) 0,q (.store 2 (t e.b) (t e.c.a)) 1]).seq NC.ret))),14, [.cellN e.b 2]⟩
theorem sw:ai Tryd.prog 11=some (.code wS):=by kernel_rfl
noncomputable def tE:NC:=(((reg [m e.a.b e 0,o e.a.c (.call (F 19) [t e.a.b]) 1,o e.a.f (.field1 0 (t e.a.c)) 2,b e.b.a .neq (t e.a.f) (k 5) 3]).seq (NC.cond (t e.b.a) NC.skip (NC.exit 0))).seq (NC.block 1 (NC.block 2 ((reg [m e.c.a e 0,o e.c.b (.call (F 20) [t e.c.a,k 4,.const (.str [99,101,108,108])]) 1,m e.b.f e.c.b 2]).seq (NC.cond (t e.b.f) (regD [f 0 e.c.c e.c 0,O e.c.f (.load1 (t e.c.c)) 1 1,m e.f.a e 2,O e.f.b (.call (F 21) [t e.f.a]) 4 3,O e.f.c (.buildSlice [.str [],.int .i64 (.lit 0)] 2 1 60 [(0,2,t e.f.b)]) 12 4,O e.f.f (.append 2 24 60 (t e.c.f) (t e.f.c)) 31 5,O e.a.a.a (.fieldAddr 0 (t e.c)) 63 6,⟨none,.store 1 (t e.a.a.a) (t e.f.f),none,127,7⟩]) ((reg [m e.a.a.c e 0,o e.a.a.f (.call (F 20) [t e.a.a.c,k 4,.const (.str [116,104,114,101,97,100])]) 1,m e.a.a.b e.a.a.f 2]).seq (NC.cond (t e.a.a.b) ((reg [m e.a.b.a e 0,o e.a.b.b (.call (F 22) [t e.a.b.a,k 1]) 1,o e.a.b.c (.field1 1 (t e.a.b.b)) 2,m e.a.a e.a.b.c 3]).seq (regD [f 1 e.a.b.f e.c 0,O e.a.c.a (.load1 (t e.a.b.f)) 1 1,m e.a.c.b e.a.a 2,m e.a.c.c e 3,O e.a.c.f (.call (F 23) [t e.a.c.c,k 0]) 8 4,O e.a.f.a (.build [.str [],.nils] [(0,1,t e.a.c.b),(1,1,t e.a.c.f)]) 28 5,O e.a.f.b (.buildSlice [.str [],.nils] 2 1 63 [(0,2,t e.a.f.a)]) 60 6,O e.a.f.c (.append 2 40 63 (t e.a.c.a) (t e.a.f.b)) 127 7,O e.a.f.f (.fieldAddr 1 (t e.c)) 255 8,⟨none,.store 1 (t e.a.f.f) (t e.a.f.c),none,511,9⟩])) ((reg [m e.b.a.b e.f 0,m e.b.a.c e.b.a.b 1,G e.b.a.f (.move (t e)) e.b.a.c true 2,G e.b.b.a (.call (F 24) [t e.b.a.f,k 4,.const (.str [114,101,99,111,118,101,114])]) e.b.a.c true 3,o e.b.b.b (.pick (t e.b.a.c) (t e.b.b.a) kf) 4,m e.b.a.a e.b.b.b 5]).seq (NC.cond (t e.b.a.a) (reg [m e.b.b.c e 0,o e.b.b.f (.call (F 25) [t e.b.b.c,k 5]) 1]) ((reg [m e.b.c.b e 0,o e.b.c.c (.call (F 20) [t e.b.c.b,k 4,.const (.str [114,101,99,111,118,101,114])]) 1,m e.b.c.a e.b.c.c 2]).seq (NC.cond (t e.b.c.a) ((reg [o e.f (.move kt) 0]).seq (reg [m e.b.c.f e 0,o e.b.f.a (.call (F 23) [t e.b.c.f,k 0]) 1,f 2 e.b.f.b e.c 2,q (.store 1 (t e.b.f.b) (t e.b.f.a)) 3])) (reg [m e.b.b e 0,o e.b.c (.call (F 25) [t e.b.b,k 2]) 1]))))))))))))
noncomputable def wN:NFun:=⟨(reg [o e.b (.alloc [.nils,.nils,.nils] 28) 0]).seq ((reg [o e.c (.alloc [.nils,.nils,.nils] 28) 0]).seq ((reg [o e.f (.move kf) 0]).seq ((NC.block 0 tE.loop).seq ((reg [o e.b.f.c (.loadN 3 (t e.c)) 0,q (.store 3 (t e.b) (t e.b.f.c)) 1]).seq NC.ret)))),52, [.cellN e.b 3]⟩
theorem sD:ai Tryd.prog 12=some (.code wN):=by kernel_rfl
noncomputable def v6:NFun:=⟨(reg [o e.c (.box (t e.a) 60) 0]).seq (((reg [f 1 e.f e.c 0,l e.a.a e.f 1,b e.a.b .eql (t e.a.a) (k 1) 2]).seq (NC.cond (t e.a.b) ((reg [m e.a.c e 0,f 0 e.a.f e.c 1,l e.b.a e.a.f 2,o e.b.b (.buildSlice [.str [],.str [],.str []] 1 3 9 [(0,1,.const (.str [99,101,108,108,32])),(1,1,t e.b.a),(2,1,.const (.str [59]))]) 3,o e.b.c (.call (F 14) [t e.a.c,t e.b.b]) 4]).seq NC.ret) NC.skip)).seq (regD [m e.b.f e 0,f 0 e.c.a e.c 1,O e.c.b (.load1 (t e.c.a)) 2 2,f 1 e.c.c e.c 3,O e.c.f (.load1 (t e.c.c)) 8 4,O e.f.a (.minmax true [k 0,t e.c.f]) 24 5,O e.f.b (.call (F 26) [t e.f.a]) 56 6,O e.f.c (.buildSlice [.str [],.str [],.str [],.str [],.str []] 1 5 9 [(0,1,.const (.str [99,101,108,108,32])),(1,1,t e.c.b),(2,1,.const (.str [91])),(3,1,t e.f.b),(4,1,.const (.str [93,59]))]) 126 7,O e.f.f (.call (F 14) [t e.b.f,t e.f.c]) 255 8])),21, []⟩
theorem rR:ai Tryd.prog 13=some (.code v6):=by kernel_rfl
noncomputable def ru:NC:=((reg [b e.f.b .lss (t e.f.a) (t e.c.f) 0]).seq ((NC.cond (t e.f.b) NC.skip (NC.exit 0)).seq ((NC.block 1 ((reg [o e.f.c (.indexSlc 1 (t e.c.c) (t e.f.a)) 0,l e.f.f e.f.c 1,m e.a.a e.f.f 2]).seq (reg [m e.a.a.a e 0,n e.a.a.b e.a.a.a 1,f 0 e.a.a.c e.a.a.b 2,m e.a.a.f e.a.a 3,o e.a.b.a (.call (F 27) [t e.a.a.c,t e.a.a.f]) 4]))).seq (reg [b e.a.b.b .add (t e.f.a) (k 1) 0,m e.f.a e.a.b.b 1]))))
noncomputable def u6:NFun:=⟨(regD [m e.a.b e 0,O e.a.c (.nilCheck (t e.a.b)) 1 1,O e.a.f (.fieldAddr 0 (t e.a.c)) 3 2,m e.b.a e 3,O e.b.b (.nilCheck (t e.b.a)) 8 4,O e.b.c (.fieldAddr 2 (t e.b.b)) 24 5,O e.b.f (.load1 (t e.b.c)) 56 6,O e.c.a (.call (F 28) [.const (.str [32,32]),t e.b.f]) 120 7,O e.c.b (.call (F 27) [t e.a.f,t e.c.a]) 255 8]).seq (((reg [m e.c.c e.a 0,L e.c.f e.c.c 1,o e.f.a (.move (k 0)) 2]).seq (NC.block 0 ru.loop)).seq (reg [m e.a.b.c e 0,n e.a.b.f e.a.b.c 1,f 0 e.a.c.a e.a.b.f 2,o e.a.c.b (.call (F 27) [t e.a.c.a,.const (.str [10])]) 3])),31, []⟩
theorem ss:ai Tryd.prog 14=some (.code u6):=by kernel_rfl
noncomputable def rS:NC:=((reg [b e.c.f .lss (t e.c.c) (t e.c.b) 0]).seq ((NC.cond (t e.c.f) NC.skip (NC.exit 0)).seq ((NC.block 1 ((reg [o e.f.a (.indexSlc 21 (t e.c.a) (t e.c.c)) 0,o e.f.b (.loadN 21 (t e.f.a)) 1,o e.a.a (.alloc [.int .i64 (.lit 0),.int .i64 (.lit 0),.str [],.str [],.int .i64 (.lit 0),.int .u64 (.lit 0),.int .u8 (.lit 0),.str [],.nils,.int .i64 (.lit 0),.int .u64 (.lit 0),.int .u8 (.lit 0),.str [],.nils,.int .i64 (.lit 0),.int .u64 (.lit 0),.int .u8 (.lit 0),.str [],.nils,.nils,.nils] 87) 2,q (.store 21 (t e.a.a) (t e.f.b)) 3]).seq (reg [m e.f.c e 0,o e.f.f (.loadN 21 (t e.a.a)) 1,o e.a.a.a (.call (F 29) [t e.f.c,t e.f.f]) 2]))).seq (reg [b e.a.a.b .add (t e.c.c) (k 1) 0,m e.c.c e.a.a.b 1]))))
noncomputable def wm:NFun:=⟨(reg [m e.a.b e 0,n e.a.c e.a.b 1,f 2 e.a.f e.a.c 2,l e.b.a e.a.f 3,b e.b.b .add (t e.b.a) (k 1) 4,n e.b.c e.a.b 5,f 2 e.b.f e.b.c 6,q (.store 1 (t e.b.f) (t e.b.b)) 7]).seq (((reg [m e.c.a e.a 0,L e.c.b e.c.a 1,o e.c.c (.move (k 0)) 2]).seq (NC.block 0 rS.loop)).seq (reg [m e.a.a.c e 0,n e.a.a.f e.a.a.c 1,f 2 e.a.b.a e.a.a.f 2,l e.a.b.b e.a.b.a 3,b e.a.b.c .sub (t e.a.b.b) (k 1) 4,n e.a.b.f e.a.a.c 5,f 2 e.a.c.a e.a.b.f 6,q (.store 1 (t e.a.c.a) (t e.a.b.c)) 7])),30, []⟩
theorem rX:ai Tryd.prog 15=some (.code wm):=by kernel_rfl
noncomputable def vB:NFun:=⟨(reg [o e.b (.move (.const (.str []))) 0]).seq ((regD [m e.c e 0,O e.f (.nilCheck (t e.c)) 1 1,O e.a.a (.fieldAddr 1 (t e.f)) 3 2,O e.a.b (.load1 (t e.a.a)) 7 3,m e.a.f e 5,O e.b.a (.nilCheck (t e.a.f)) 32 6,O e.b.b (.fieldAddr 1 (t e.b.a)) 96 7,O e.b.c (.load1 (t e.b.b)) 224 8,O e.b.f (.lenSlc (t e.b.c)) 480 9,O e.a.c (.fail) 15 4,O e.c.a (.fail) 1023 10,O e.b (.move (t e.c.a)) 2047 11]).seq NC.ret),14, [.tmp e.b]⟩
theorem sQ:ai Tryd.prog 16=some (.code vB):=by kernel_rfl
noncomputable def vC:NFun:=⟨(reg [o e.f (.move (.const (.str []))) 0]).seq ((reg [m e.a.a e 0,m e.a.b e.a 1,o e.a.c (.call (F 30) [t e.a.a,t e.a.b]) 2,m e.f e.a.c 3]).seq NC.ret),8, [.tmp e.f]⟩
theorem rA:ai Tryd.prog 17=some (.code vC):=by kernel_rfl
noncomputable def vE:NFun:=⟨(reg [o e.c (.box (t e) 9) 0,o e.f (.box (t e.a) 71) 1,o e.a.a (.box (t e.b) 72) 2,o e.a.b (.move (.const .nilf)) 3]).seq ((reg [o e.a.c (.mkFn 31 [t e.c,t e.f,t e.a.a]) 0,m e.a.b e.a.c 1]).seq NC.ret),8, [.tmp e.a.b]⟩
theorem rP:ai Tryd.prog 18=some (.code vE):=by kernel_rfl
noncomputable def vA:NFun:=⟨(reg [o e.b (.alloc [.int .i64 (.lit 0),.str [],.int .u64 (.lit 0),.int .i64 (.lit 0)] 48) 0]).seq (((regD [m e.c e 0,O e.f (.nilCheck (t e.c)) 1 1,O e.a.a (.fieldAddr 1 (t e.f)) 3 2,O e.a.b (.load1 (t e.a.a)) 7 3,O e.a.c (.bin .num .lss (t e.a.b) (k 0)) 15 4,O e.a.f (.move (t e.a.c)) 31 5,⟨some e.b.a,.move (t e),some (e.a.f,false),63,6⟩,⟨some e.b.b,.nilCheck (t e.b.a),some (e.a.f,false),127,7⟩,⟨some e.b.c,.fieldAddr 1 (t e.b.b),some (e.a.f,false),255,8⟩,⟨some e.b.f,.load1 (t e.b.c),some (e.a.f,false),511,9⟩,⟨some e.c.a,.move (t e),some (e.a.f,false),63,10⟩,⟨some e.c.b,.nilCheck (t e.c.a),some (e.a.f,false),1087,11⟩,⟨some e.c.c,.fieldAddr 0 (t e.c.b),some (e.a.f,false),3135,12⟩,⟨some e.c.f,.load1 (t e.c.c),some (e.a.f,false),7231,13⟩,⟨some e.f.a,.lenSlc (t e.c.f),some (e.a.f,false),15423,14⟩,⟨some e.f.b,.bin .num .geq (t e.b.f) (t e.f.a),some (e.a.f,false),32767,15⟩,O e.f.c (.pick (t e.a.f) kt (t e.f.b)) 65535 16]).seq (NC.cond (t e.f.c) ((reg [o e.f.f (.build [.int .i64 (.lit 0),.str [],.int .u64 (.lit 0),.int .i64 (.lit 0)] []) 0,q (.store 4 (t e.b) (t e.f.f)) 1]).seq NC.ret) NC.skip)).seq ((regD [m e.a.a.a e 0,O e.a.a.b (.nilCheck (t e.a.a.a)) 1 1,O e.a.a.c (.fieldAddr 0 (t e.a.a.b)) 3 2,O e.a.a.f (.load1 (t e.a.a.c)) 7 3,m e.a.b.a e 4,O e.a.b.b (.nilCheck (t e.a.b.a)) 16 5,O e.a.b.c (.fieldAddr 1 (t e.a.b.b)) 48 6,O e.a.b.f (.load1 (t e.a.b.c)) 112 7,O e.a.c.a (.indexSlc 4 (t e.a.a.f) (t e.a.b.f)) 255 8,O e.a.c.b (.loadN 4 (t e.a.c.a)) 511 9,⟨none,.store 4 (t e.b) (t e.a.c.b),none,1023,10⟩]).seq NC.ret)),31, [.cellN e.b 4]⟩
theorem tl:ai Tryd.prog 19=some (.code vA):=by kernel_rfl
noncomputable def vv:NFun:=⟨(reg [o e.a.b (.move kf) 0]).seq ((reg [m e.a.f e 0,m e.b.a e.a 1,m e.b.b e.b 2,o e.b.c (.call (F 24) [t e.a.f,t e.b.a,t e.b.b]) 3,m e.a.c e.b.c 4]).seq (((reg [m e.b.f e.a.c 0]).seq (NC.cond (t e.b.f) (reg [m e.c.a e 0,n e.c.b e.c.a 1,f 1 e.c.c e.c.b 2,l e.c.f e.c.c 3,b e.f.a .add (t e.c.f) (k 1) 4,n e.f.b e.c.a 5,f 1 e.f.c e.f.b 6,q (.store 1 (t e.f.c) (t e.f.a)) 7]) NC.skip)).seq ((reg [m e.f.f e.a.c 0,m e.a.b e.f.f 1]).seq NC.ret))),21, [.tmp e.a.b]⟩
theorem sB:ai Tryd.prog 20=some (.code vv):=by kernel_rfl
noncomputable def wh:NFun:=⟨(reg [o e.b (.alloc [.str [],.int .i64 (.lit 0)] 60) 0]).seq ((reg [m e.f e 0,o e.a.a (.call (F 22) [t e.f,k 1]) 1,o e.a.b (.field1 1 (t e.a.a)) 2,o e.a.c (.build [.str [],.int .i64 (.lit 0)] [(0,1,t e.a.b),(1,1,k 1)]) 3,o e.c (.alloc [.str [],.int .i64 (.lit 0)] 60) 4,q (.store 2 (t e.c) (t e.a.c)) 5]).seq (((reg [m e.a.f e 0,o e.b.a (.call (F 20) [t e.a.f,k 3,.const (.str [91])]) 1]).seq (NC.cond (t e.b.a) ((reg [m e.b.b e 0,o e.b.c (.call (F 22) [t e.b.b,k 2]) 1,o e.b.f (.field1 2 (t e.b.c)) 2,o e.c.a (.minmax false [t e.b.f,ku 1048576]) 3,o e.c.b (.toInt .i64 (t e.c.a)) 4,f 1 e.c.c e.c 5,q (.store 1 (t e.c.c) (t e.c.b)) 6]).seq (reg [m e.c.f e 0,o e.f.a (.call (F 34) [t e.c.f,.const (.str [93])]) 1])) NC.skip)).seq ((reg [m e.f.b e 0,o e.f.c (.call (F 34) [t e.f.b,.const (.str [59])]) 1]).seq ((reg [o e.f.f (.loadN 2 (t e.c)) 0,q (.store 2 (t e.b) (t e.f.f)) 1]).seq NC.ret)))),21, [.cellN e.b 2]⟩
theorem tv:ai Tryd.prog 21=some (.code wh):=by kernel_rfl
noncomputable def vD:NFun:=⟨(reg [o e.f (.alloc [.int .i64 (.lit 0),.str [],.int .u64 (.lit 0),.int .i64 (.lit 0)] 48) 0]).seq ((reg [m e.a.b e 0,o e.a.c (.call (F 19) [t e.a.b]) 1,o e.a.a (.alloc [.int .i64 (.lit 0),.str [],.int .u64 (.lit 0),.int .i64 (.lit 0)] 48) 2,q (.store 4 (t e.a.a) (t e.a.c)) 3]).seq (((reg [f 0 e.a.f e.a.a 0,l e.b.a e.a.f 1,m e.b.b e.a 2,b e.b.c .neq (t e.b.a) (t e.b.b) 3]).seq (NC.cond (t e.b.c) (reg [m e.b.f e 0,o e.c.a (.call (F 25) [t e.b.f,k 2]) 1]) NC.skip)).seq ((reg [m e.c.b e 0,n e.c.c e.c.b 1,f 1 e.c.f e.c.c 2,l e.f.a e.c.f 3,b e.f.b .add (t e.f.a) (k 1) 4,n e.f.c e.c.b 5,f 1 e.f.f e.f.c 6,q (.store 1 (t e.f.f) (t e.f.b)) 7]).seq ((reg [o e.a.a.a (.loadN 4 (t e.a.a)) 0,q (.store 4 (t e.f) (t e.a.a.a)) 1]).seq NC.ret)))),22, [.cellN e.f 4]⟩
theorem rK:ai Tryd.prog 22=some (.code vD):=by kernel_rfl
noncomputable def su:NC:=(((reg [m e.c.f e 0,o e.f.a (.call (F 20) [t e.c.f,k 3,.const (.str [125])]) 1,o e.f.b (.un .not (t e.f.a)) 2]).seq (NC.cond (t e.f.b) NC.skip (NC.exit 0))).seq (NC.block 1 (reg [m e.f.c e.a.a 0,m e.f.f e 1,m e.a.a.a e.a 2,o e.a.a.b (.call (F 35) [t e.f.f,t e.a.a.a]) 3,o e.a.a.c (.buildSlice [.int .i64 (.lit 0),.int .i64 (.lit 0),.str [],.str [],.int .i64 (.lit 0),.int .u64 (.lit 0),.int .u8 (.lit 0),.str [],.nils,.int .i64 (.lit 0),.int .u64 (.lit 0),.int .u8 (.lit 0),.str [],.nils,.int .i64 (.lit 0),.int .u64 (.lit 0),.int .u8 (.lit 0),.str [],.nils,.nils,.nils] 21 1 87 [(0,21,t e.a.a.b)]) 4,o e.a.a.f (.append 21 288 87 (t e.f.c) (t e.a.a.c)) 5,m e.a.a e.a.a.f 6])))
noncomputable def vL:NFun:=⟨(reg [o e.f (.move kn) 0]).seq (((reg [m e.a.b e 0,o e.a.c (.call (F 24) [t e.a.b,k 3,.const (.str [123])]) 1,m e.a.f e.a.c 2,G e.b.a (.move (t e.a)) e.a.f true 3,G e.b.b (.bin .num .gtr (t e.b.a) (k 29)) e.a.f true 4,o e.b.c (.pick (t e.a.f) (t e.b.b) kf) 5]).seq (NC.cond (t e.b.c) (reg [m e.b.f e 0,o e.c.a (.call (F 25) [t e.b.f,k 11]) 1]) NC.skip)).seq ((reg [m e.c.b e 0,o e.c.c (.call (F 34) [t e.c.b,.const (.str [123])]) 1]).seq ((reg [o e.a.a (.move kn) 0]).seq ((NC.block 0 su.loop).seq ((reg [m e.a.b.a e.a.a 0,m e.f e.a.b.a 1]).seq NC.ret))))),26, [.tmp e.f]⟩
theorem tF:ai Tryd.prog 23=some (.code vL):=by kernel_rfl
noncomputable def vd:NFun:=⟨(reg [o e.a.b (.move kf) 0]).seq ((reg [m e.a.f e 0,o e.b.a (.call (F 19) [t e.a.f]) 1,o e.a.c (.alloc [.int .i64 (.lit 0),.str [],.int .u64 (.lit 0),.int .i64 (.lit 0)] 48) 2,q (.store 4 (t e.a.c) (t e.b.a)) 3]).seq ((reg [f 0 e.b.b e.a.c 0,l e.b.c e.b.b 1,m e.b.f e.a 2,b e.c.a .eql (t e.b.c) (t e.b.f) 3,m e.c.b e.c.a 4,G e.c.c (.fieldAddr 1 (t e.a.c)) e.c.b true 5,G e.c.f (.load1 (t e.c.c)) e.c.b true 6,G e.f.a (.move (t e.b)) e.c.b true 7,G e.f.b (.bin .num .eql (t e.c.f) (t e.f.a)) e.c.b true 8,o e.f.c (.pick (t e.c.b) (t e.f.b) kf) 9,m e.a.b e.f.c 10]).seq NC.ret)),20, [.tmp e.a.b]⟩
theorem s8:ai Tryd.prog 24=some (.code vd):=by kernel_rfl
noncomputable def vH:NFun:=⟨reg [m e.f e.a 0,m e.a.a e 1,n e.a.b e.a.a 2,f 1 e.a.c e.a.b 3,l e.a.f e.a.c 4,o e.b.a (.build [.int .i64 (.lit 0),.int .i64 (.lit 0)] [(0,1,t e.f),(1,1,t e.a.f)]) 5,o e.b.b (.mkIfc 45 (t e.b.a)) 6,q (.panic (t e.b.b)) 7],11, []⟩
theorem tR:ai Tryd.prog 25=some (.code vH):=by kernel_rfl
noncomputable def wd:NFun:=⟨(reg [o e.b (.move (.const (.str []))) 0]).seq ((reg [m e.c e 0,o e.f (.call (F 36) [t e.c]) 1,m e.b e.f 2]).seq NC.ret),5, [.tmp e.b]⟩
theorem rC:ai Tryd.prog 26=some (.code wd):=by kernel_rfl
noncomputable def vF:NFun:=⟨(reg [o e.f (.move (k 0)) 0,o e.a.a (.move (.const .nili)) 1]).seq ((reg [m e.a.b e 0,o e.a.c (.call (F 37) [t e.a.b]) 1]).seq ((reg [m e.a.f e 0,m e.b.a e 1,n e.b.b e.b.a 2,f 1 e.b.c e.b.b 3,l e.b.f e.b.c 4,m e.c.a e.a 5,o e.c.b (.appendStr 5 (t e.b.f) (t e.c.a)) 6,n e.c.c e.a.f 7,f 1 e.c.f e.c.c 8,q (.store 1 (t e.c.f) (t e.c.b)) 9]).seq ((reg [m e.f.a e.a 0,o e.f.b (.lenStr (t e.f.a)) 1,m e.f e.f.b 2,o e.a.a (.move (.const .nili)) 3]).seq NC.ret))),19, [.tmp e.f,.tmp e.a.a]⟩
theorem rL:ai Tryd.prog 27=some (.code vF):=by kernel_rfl
noncomputable def sK:NC:=(((reg [o e.a.b.c.c (.call (F 41) [t e.b.a]) 0,m e.a.b.c.f e.a.c 1,b e.a.b.f.a .lss (t e.a.b.c.c) (t e.a.b.c.f) 2]).seq (NC.cond (t e.a.b.f.a) NC.skip (NC.exit 3))).seq (NC.block 4 ((reg [m e.a.b.f.b e.a.c 0,o e.a.b.f.c (.call (F 41) [t e.b.a]) 1,b e.a.b.f.f .sub (t e.a.b.f.b) (t e.a.b.f.c) 2,o e.a.c.a.a (.call (F 41) [t e.b.a]) 3,m e.a.c.a.b e.a.f 4,o e.a.c.a.c (.minmax false [t e.a.b.f.f,t e.a.c.a.a,t e.a.c.a.b]) 5,m e.b.b e.a.c.a.c 6]).seq (reg [o e.a.c.a.f (.call (F 16) [t e.b.a]) 0,m e.a.c.b.a e.b.b 1,o e.a.c.b.b (.sliceStr (t e.a.c.a.f) none (some (t e.a.c.b.a))) 2,o e.a.c.b.c (.call (F 27) [t e.b.a,t e.a.c.b.b]) 3]))))
noncomputable def w5:NFun:=⟨(reg [o e.f (.move (.const (.str []))) 0]).seq (((reg [m e.b.c e.a 0]).seq (NC.block 0 ((reg [b e.c.a .eql (t e.b.c) (k 0) 0,m e.b.f e.c.a 1]).seq (NC.cond (t e.b.f) ((reg [o e.f (.move (.const (.str []))) 0]).seq NC.ret) ((reg [b e.c.c .eql (t e.b.c) (k 1) 0,m e.c.b e.c.c 1]).seq (NC.cond (t e.c.b) ((reg [m e.c.f e 0,m e.f e.c.f 1]).seq NC.ret) NC.skip)))))).seq (((reg [m e.f.a e.a 0,b e.f.b .lss (t e.f.a) (k 0) 1]).seq (NC.cond (t e.f.b) (reg [o e.f.c (.mkIfc 9 (.const (.str [115,116,114,105,110,103,115,58,32,110,101,103,97,116,105,118,101,32,82,101,112,101,97,116,32,99,111,117,110,116]))) 0,q (.panic (t e.f.c)) 1]) NC.skip)).seq ((reg [m e.a.a.a e 0,o e.a.a.b (.lenStr (t e.a.a.a)) 1,o e.a.a.c (.toInt .u64 (t e.a.a.b)) 2,m e.a.a.f e.a 3,o e.a.b.a (.toInt .u64 (t e.a.a.f)) 4,o e.a.b.b (.call (F 38) [t e.a.a.c,t e.a.b.a]) 5,m e.f.f e.a.b.b 6,x e.a.b.c e.f.f 0 7,x e.a.b.f e.f.f 1 8,m e.a.a e.a.b.c 9,m e.a.b e.a.b.f 10]).seq (((reg [m e.a.c.a e.a.a 0,b e.a.c.b .gtr (t e.a.c.a) (ku 0) 1,m e.a.c.c e.a.c.b 2,G e.a.c.f (.move (t e.a.b)) e.a.c.c false 3,G e.a.f.a (.bin .num .gtr (t e.a.c.f) (ku 9223372036854775807)) e.a.c.c false 4,o e.a.f.b (.pick (t e.a.c.c) kt (t e.a.f.a)) 5]).seq (NC.cond (t e.a.f.b) (reg [o e.a.f.c (.mkIfc 9 (.const (.str [115,116,114,105,110,103,115,58,32,82,101,112,101,97,116,32,111,117,116,112,117,116,32,108,101,110,103,116,104,32,111,118,101,114,102,108,111,119]))) 0,q (.panic (t e.a.f.c)) 1]) NC.skip)).seq ((reg [m e.a.f.f e.a.b 0,o e.b.a.a (.toInt .i64 (t e.a.f.f)) 1,m e.a.c e.b.a.a 2]).seq (((reg [m e.b.a.b e 0,o e.b.a.c (.lenStr (t e.b.a.b)) 1,b e.b.a.f .eql (t e.b.a.c) (k 0) 2]).seq (NC.cond (t e.b.a.f) ((reg [o e.f (.move (.const (.str []))) 0]).seq NC.ret) NC.skip)).seq (((reg [m e.b.b.a e 0,o e.b.b.b (.indexStr (t e.b.b.a) (k 0)) 1]).seq (NC.block 1 (((reg [b e.b.b.f .eql (t e.b.b.b) (kb 32) 0,m e.b.b.c e.b.b.f 1]).seq (NC.cond (t e.b.b.c) NC.skip ((reg [b e.b.c.a .eql (t e.b.b.b) (kb 45) 0,m e.b.b.c e.b.c.a 1]).seq (NC.cond (t e.b.b.c) NC.skip ((reg [b e.b.c.b .eql (t e.b.b.b) (kb 48) 0,m e.b.b.c e.b.c.b 1]).seq (NC.cond (t e.b.b.c) NC.skip ((reg [b e.b.c.c .eql (t e.b.b.b) (kb 61) 0,m e.b.b.c e.b.c.c 1]).seq (NC.cond (t e.b.b.c) NC.skip (reg [b e.b.c.f .eql (t e.b.b.b) (kb 9) 0,m e.b.b.c e.b.c.f 1]))))))))).seq (NC.cond (t e.b.b.c) (NC.block 2 ((reg [m e.b.f.b e.a.c 0,b e.b.f.c .leq (t e.b.f.b) (k 128) 1,m e.b.f.f e.b.f.c 2,G e.c.a.a (.move (t e)) e.b.f.f true 3,G e.c.a.b (.call (F 39) [.const (.str [32,32,32,32,32,32,32,32,32,32,32,32,32,32,32,32,32,32,32,32,32,32,32,32,32,32,32,32,32,32,32,32,32,32,32,32,32,32,32,32,32,32,32,32,32,32,32,32,32,32,32,32,32,32,32,32,32,32,32,32,32,32,32,32,32,32,32,32,32,32,32,32,32,32,32,32,32,32,32,32,32,32,32,32,32,32,32,32,32,32,32,32,32,32,32,32,32,32,32,32,32,32,32,32,32,32,32,32,32,32,32,32,32,32,32,32,32,32,32,32,32,32,32,32,32,32,32,32]),t e.c.a.a]) e.b.f.f true 4,o e.c.a.c (.pick (t e.b.f.f) (t e.c.a.b) kf) 5,m e.b.f.a e.c.a.c 6]).seq (NC.cond (t e.b.f.a) ((reg [m e.c.a.f e.a.c 0,o e.c.b.a (.sliceStr (.const (.str [32,32,32,32,32,32,32,32,32,32,32,32,32,32,32,32,32,32,32,32,32,32,32,32,32,32,32,32,32,32,32,32,32,32,32,32,32,32,32,32,32,32,32,32,32,32,32,32,32,32,32,32,32,32,32,32,32,32,32,32,32,32,32,32,32,32,32,32,32,32,32,32,32,32,32,32,32,32,32,32,32,32,32,32,32,32,32,32,32,32,32,32,32,32,32,32,32,32,32,32,32,32,32,32,32,32,32,32,32,32,32,32,32,32,32,32,32,32,32,32,32,32,32,32,32,32,32,32])) none (some (t e.c.a.f))) 1,m e.f e.c.b.a 2]).seq NC.ret) ((reg [m e.c.b.c e.a.c 0,b e.c.b.f .leq (t e.c.b.c) (k 128) 1,m e.c.c.a e.c.b.f 2,G e.c.c.b (.move (t e)) e.c.c.a true 3,G e.c.c.c (.call (F 39) [.const (.str [45,45,45,45,45,45,45,45,45,45,45,45,45,45,45,45,45,45,45,45,45,45,45,45,45,45,45,45,45,45,45,45,45,45,45,45,45,45,45,45,45,45,45,45,45,45,45,45,45,45,45,45,45,45,45,45,45,45,45,45,45,45,45,45,45,45,45,45,45,45,45,45,45,45,45,45,45,45,45,45,45,45,45,45,45,45,45,45,45,45,45,45,45,45,45,45,45,45,45,45,45,45,45,45,45,45,45,45,45,45,45,45,45,45,45,45,45,45,45,45,45,45,45,45,45,45,45,45]),t e.c.c.b]) e.c.c.a true 4,o e.c.c.f (.pick (t e.c.c.a) (t e.c.c.c) kf) 5,m e.c.b.b e.c.c.f 6]).seq (NC.cond (t e.c.b.b) ((reg [m e.c.f.a e.a.c 0,o e.c.f.b (.sliceStr (.const (.str [45,45,45,45,45,45,45,45,45,45,45,45,45,45,45,45,45,45,45,45,45,45,45,45,45,45,45,45,45,45,45,45,45,45,45,45,45,45,45,45,45,45,45,45,45,45,45,45,45,45,45,45,45,45,45,45,45,45,45,45,45,45,45,45,45,45,45,45,45,45,45,45,45,45,45,45,45,45,45,45,45,45,45,45,45,45,45,45,45,45,45,45,45,45,45,45,45,45,45,45,45,45,45,45,45,45,45,45,45,45,45,45,45,45,45,45,45,45,45,45,45,45,45,45,45,45,45,45])) none (some (t e.c.f.a))) 1,m e.f e.c.f.b 2]).seq NC.ret) ((reg [m e.c.f.f e.a.c 0,b e.f.a.a .leq (t e.c.f.f) (k 64) 1,m e.f.a.b e.f.a.a 2,G e.f.a.c (.move (t e)) e.f.a.b true 3,G e.f.a.f (.call (F 39) [.const (.str [48,48,48,48,48,48,48,48,48,48,48,48,48,48,48,48,48,48,48,48,48,48,48,48,48,48,48,48,48,48,48,48,48,48,48,48,48,48,48,48,48,48,48,48,48,48,48,48,48,48,48,48,48,48,48,48,48,48,48,48,48,48,48,48]),t e.f.a.c]) e.f.a.b true 4,o e.f.b.a (.pick (t e.f.a.b) (t e.f.a.f) kf) 5,m e.c.f.c e.f.b.a 6]).seq (NC.cond (t e.c.f.c) ((reg [m e.f.b.b e.a.c 0,o e.f.b.c (.sliceStr (.const (.str [48,48,48,48,48,48,48,48,48,48,48,48,48,48,48,48,48,48,48,48,48,48,48,48,48,48,48,48,48,48,48,48,48,48,48,48,48,48,48,48,48,48,48,48,48,48,48,48,48,48,48,48,48,48,48,48,48,48,48,48,48,48,48,48])) none (some (t e.f.b.b))) 1,m e.f e.f.b.c 2]).seq NC.ret) ((reg [m e.f.c.a e.a.c 0,b e.f.c.b .leq (t e.f.c.a) (k 128) 1,m e.f.c.c e.f.c.b 2,G e.f.c.f (.move (t e)) e.f.c.c true 3,G e.f.f.a (.call (F 39) [.const (.str [61,61,61,61,61,61,61,61,61,61,61,61,61,61,61,61,61,61,61,61,61,61,61,61,61,61,61,61,61,61,61,61,61,61,61,61,61,61,61,61,61,61,61,61,61,61,61,61,61,61,61,61,61,61,61,61,61,61,61,61,61,61,61,61,61,61,61,61,61,61,61,61,61,61,61,61,61,61,61,61,61,61,61,61,61,61,61,61,61,61,61,61,61,61,61,61,61,61,61,61,61,61,61,61,61,61,61,61,61,61,61,61,61,61,61,61,61,61,61,61,61,61,61,61,61,61,61,61]),t e.f.c.f]) e.f.c.c true 4,o e.f.f.b (.pick (t e.f.c.c) (t e.f.f.a) kf) 5,m e.f.b.f e.f.f.b 6]).seq (NC.cond (t e.f.b.f) ((reg [m e.f.f.c e.a.c 0,o e.f.f.f (.sliceStr (.const (.str [61,61,61,61,61,61,61,61,61,61,61,61,61,61,61,61,61,61,61,61,61,61,61,61,61,61,61,61,61,61,61,61,61,61,61,61,61,61,61,61,61,61,61,61,61,61,61,61,61,61,61,61,61,61,61,61,61,61,61,61,61,61,61,61,61,61,61,61,61,61,61,61,61,61,61,61,61,61,61,61,61,61,61,61,61,61,61,61,61,61,61,61,61,61,61,61,61,61,61,61,61,61,61,61,61,61,61,61,61,61,61,61,61,61,61,61,61,61,61,61,61,61,61,61,61,61,61,61])) none (some (t e.f.f.c))) 1,m e.f e.f.f.f 2]).seq NC.ret) ((reg [m e.a.a.a.b e.a.c 0,b e.a.a.a.c .leq (t e.a.a.a.b) (k 64) 1,m e.a.a.a.f e.a.a.a.c 2,G e.a.a.b.a (.move (t e)) e.a.a.a.f true 3,G e.a.a.b.b (.call (F 39) [.const (.str [9,9,9,9,9,9,9,9,9,9,9,9,9,9,9,9,9,9,9,9,9,9,9,9,9,9,9,9,9,9,9,9,9,9,9,9,9,9,9,9,9,9,9,9,9,9,9,9,9,9,9,9,9,9,9,9,9,9,9,9,9,9,9,9]),t e.a.a.b.a]) e.a.a.a.f true 4,o e.a.a.b.c (.pick (t e.a.a.a.f) (t e.a.a.b.b) kf) 5,m e.a.a.a.a e.a.a.b.c 6]).seq (NC.cond (t e.a.a.a.a) ((reg [m e.a.a.b.f e.a.c 0,o e.a.a.c.a (.sliceStr (.const (.str [9,9,9,9,9,9,9,9,9,9,9,9,9,9,9,9,9,9,9,9,9,9,9,9,9,9,9,9,9,9,9,9,9,9,9,9,9,9,9,9,9,9,9,9,9,9,9,9,9,9,9,9,9,9,9,9,9,9,9,9,9,9,9,9])) none (some (t e.a.a.b.f))) 1,m e.f e.a.a.c.a 2]).seq NC.ret) NC.skip))))))))))) NC.skip)))).seq ((reg [m e.a.a.c.b e.a.c 0,m e.a.f e.a.a.c.b 1]).seq (((reg [m e.a.a.c.c e.a.c 0,b e.a.a.c.f .gtr (t e.a.a.c.c) (k 8192) 1]).seq (NC.cond (t e.a.a.c.f) ((reg [m e.a.a.f.a e 0,o e.a.a.f.b (.lenStr (t e.a.a.f.a)) 1,b e.a.a.f.c .quo (k 8192) (t e.a.a.f.b) 2,m e.a.a.f.f e 3,o e.a.b.a.a (.lenStr (t e.a.a.f.f)) 4,b e.a.b.a.b .mul (t e.a.a.f.c) (t e.a.b.a.a) 5,m e.a.f e.a.b.a.b 6]).seq ((reg [m e.a.b.a.c e.a.f 0,b e.a.b.a.f .eql (t e.a.b.a.c) (k 0) 1]).seq (NC.cond (t e.a.b.a.f) (reg [m e.a.b.b.a e 0,o e.a.b.b.b (.lenStr (t e.a.b.b.a)) 1,m e.a.f e.a.b.b.b 2]) NC.skip))) NC.skip)).seq ((reg [o e.b.a (.alloc [.nilp,.nils] 56) 0]).seq ((reg [m e.a.b.b.c e.a.c 0,o e.a.b.b.f (.call (F 40) [t e.b.a,t e.a.b.b.c]) 1]).seq ((reg [m e.a.b.c.a e 0,o e.a.b.c.b (.call (F 27) [t e.b.a,t e.a.b.c.a]) 1]).seq ((NC.block 3 sK.loop).seq ((reg [o e.a.c.b.f (.call (F 16) [t e.b.a]) 0,m e.f e.a.c.b.f 1]).seq NC.ret)))))))))))))),125, [.tmp e.f]⟩
theorem tk:ai Tryd.prog 28=some (.code w5):=by kernel_rfl
noncomputable def vi:NFun:=⟨(reg [o e.c (.box (t e.a) 87) 0]).seq ((reg [f 0 e.f e.c 0,l e.a.a e.f 1]).seq (NC.block 0 ((reg [b e.a.c .eql (t e.a.a) (k 0) 0,m e.a.b e.a.c 1]).seq (NC.cond (t e.a.b) (regD [m e.a.f e 0,f 2 e.b.a e.c 1,O e.b.b (.load1 (t e.b.a)) 2 2,f 9 e.b.c e.c 3,O e.b.f (.loadN 5 (t e.b.c)) 8 4,O e.c.a (.call (F 8) [t e.b.f]) 24 5,O e.c.b (.buildSlice [.str [],.str [],.str [],.str [],.str []] 1 5 9 [(0,1,.const (.str [115,101,116,32])),(1,1,t e.b.b),(2,1,.const (.str [32])),(3,1,t e.c.a),(4,1,.const (.str [59]))]) 62 6,O e.c.c (.call (F 14) [t e.a.f,t e.c.b]) 127 7]) ((reg [b e.f.a .eql (t e.a.a) (k 1) 0,m e.c.f e.f.a 1]).seq (NC.cond (t e.c.f) (regD [m e.f.b e 0,f 2 e.f.c e.c 1,O e.f.f (.load1 (t e.f.c)) 2 2,o e.a.a.a (.loadN 21 (t e.c)) 3,O e.a.a.b (.call (F 42) [t e.a.a.a]) 8 4,O e.a.a.c (.buildSlice [.str [],.str [],.str [],.str [],.str []] 1 5 9 [(0,1,.const (.str [108,111,97,100,32])),(1,1,t e.f.f),(2,1,.const (.str [32])),(3,1,t e.a.a.b),(4,1,.const (.str [59]))]) 30 5,O e.a.a.f (.call (F 14) [t e.f.b,t e.a.a.c]) 63 6]) ((reg [b e.a.b.b .eql (t e.a.a) (k 2) 0,m e.a.b.a e.a.b.b 1]).seq (NC.cond (t e.a.b.a) (regD [m e.a.b.c e 0,o e.a.b.f (.loadN 21 (t e.c)) 1,f 9 e.a.c.b e.c 3,O e.a.c.c (.loadN 5 (t e.a.c.b)) 8 4,O e.a.c.a (.call (F 42) [t e.a.b.f]) 2 2,O e.a.c.f (.call (F 8) [t e.a.c.c]) 30 5,O e.a.f.a (.buildSlice [.str [],.str [],.str [],.str [],.str []] 1 5 9 [(0,1,.const (.str [115,116,111,114,101,32])),(1,1,t e.a.c.a),(2,1,.const (.str [32])),(3,1,t e.a.c.f),(4,1,.const (.str [59]))]) 62 6,O e.a.f.b (.call (F 14) [t e.a.b.c,t e.a.f.a]) 127 7]) ((reg [b e.a.f.f .eql (t e.a.a) (k 3) 0,m e.a.f.c e.a.f.f 1]).seq (NC.cond (t e.a.f.c) (regD [m e.b.a.a e 0,f 2 e.b.a.b e.c 1,O e.b.a.c (.load1 (t e.b.a.b)) 2 2,o e.b.a.f (.loadN 21 (t e.c)) 3,f 9 e.b.b.b e.c 5,O e.b.b.c (.loadN 5 (t e.b.b.b)) 32 6,f 14 e.b.c.a e.c 8,O e.b.c.b (.loadN 5 (t e.b.c.a)) 256 9,O e.b.b.a (.call (F 42) [t e.b.a.f]) 8 4,O e.b.b.f (.call (F 8) [t e.b.b.c]) 120 7,O e.b.c.c (.call (F 8) [t e.b.c.b]) 1016 10,O e.b.c.f (.buildSlice [.str [],.str [],.str [],.str [],.str [],.str [],.str [],.str [],.str []] 1 9 9 [(0,1,.const (.str [99,97,115,32])),(1,1,t e.b.a.c),(2,1,.const (.str [32])),(3,1,t e.b.b.a),(4,1,.const (.str [32])),(5,1,t e.b.b.f),(6,1,.const (.str [32])),(7,1,t e.b.c.c),(8,1,.const (.str [59]))]) 2046 11,O e.b.f.a (.call (F 14) [t e.b.a.a,t e.b.c.f]) 4095 12]) ((reg [b e.b.f.c .eql (t e.a.a) (k 4) 0,m e.b.f.b e.b.f.c 1]).seq (NC.cond (t e.b.f.b) (reg [m e.b.f.f e 0,o e.c.a.a (.buildSlice [.str []] 1 1 9 [(0,1,.const (.str [102,101,110,99,101,59]))]) 1,o e.c.a.b (.call (F 14) [t e.b.f.f,t e.c.a.a]) 2]) ((reg [b e.c.a.f .eql (t e.a.a) (k 5) 0,m e.c.a.c e.c.a.f 1]).seq (NC.cond (t e.c.a.c) (reg [m e.c.b.a e 0,f 9 e.c.b.b e.c 1,o e.c.b.c (.loadN 5 (t e.c.b.b)) 2,o e.c.b.f (.call (F 8) [t e.c.b.c]) 3,o e.c.c.a (.buildSlice [.str [],.str [],.str []] 1 3 9 [(0,1,.const (.str [111,117,116,32])),(1,1,t e.c.b.f),(2,1,.const (.str [59]))]) 4,o e.c.c.b (.call (F 14) [t e.c.b.a,t e.c.c.a]) 5]) ((reg [b e.c.c.f .eql (t e.a.a) (k 6) 0,m e.c.c.c e.c.c.f 1]).seq (NC.cond (t e.c.c.c) ((reg [m e.c.f.a e 0,f 9 e.c.f.b e.c 1,o e.c.f.c (.loadN 5 (t e.c.f.b)) 2,o e.c.f.f (.call (F 8) [t e.c.f.c]) 3,o e.f.a.a (.buildSlice [.str [],.str [],.str []] 1 3 9 [(0,1,.const (.str [105,102,32])),(1,1,t e.c.f.f),(2,1,.const (.str [32,123]))]) 4,o e.f.a.b (.call (F 14) [t e.c.f.a,t e.f.a.a]) 5]).seq ((reg [m e.f.a.c e 0,f 19 e.f.a.f e.c 1,l e.f.b.a e.f.a.f 2,o e.f.b.b (.call (F 15) [t e.f.a.c,t e.f.b.a]) 3]).seq (((reg [f 20 e.f.b.c e.c 0,l e.f.b.f e.f.b.c 1,L e.f.c.a e.f.b.f 2,b e.f.c.b .gtr (t e.f.c.a) (k 0) 3]).seq (NC.cond (t e.f.c.b) ((reg [m e.f.c.c e 0,o e.f.c.f (.buildSlice [.str []] 1 1 9 [(0,1,.const (.str [125,32,101,108,115,101,32,123]))]) 1,o e.f.f.a (.call (F 14) [t e.f.c.c,t e.f.c.f]) 2]).seq (reg [m e.f.f.b e 0,f 20 e.f.f.c e.c 1,l e.f.f.f e.f.f.c 2,o e.a.a.a.a (.call (F 15) [t e.f.f.b,t e.f.f.f]) 3])) NC.skip)).seq (reg [m e.a.a.a.b e 0,o e.a.a.a.c (.buildSlice [.str []] 1 1 9 [(0,1,.const (.str [125]))]) 1,o e.a.a.a.f (.call (F 14) [t e.a.a.a.b,t e.a.a.a.c]) 2])))) ((reg [b e.a.a.b.b .eql (t e.a.a) (k 7) 0,m e.a.a.b.a e.a.a.b.b 1]).seq (NC.cond (t e.a.a.b.a) ((reg [m e.a.a.b.c e 0,f 9 e.a.a.b.f e.c 1,o e.a.a.c.a (.loadN 5 (t e.a.a.b.f)) 2,o e.a.a.c.b (.call (F 8) [t e.a.a.c.a]) 3,o e.a.a.c.c (.buildSlice [.str [],.str [],.str []] 1 3 9 [(0,1,.const (.str [119,104,105,108,101,32])),(1,1,t e.a.a.c.b),(2,1,.const (.str [32,123]))]) 4,o e.a.a.c.f (.call (F 14) [t e.a.a.b.c,t e.a.a.c.c]) 5]).seq ((reg [m e.a.a.f.a e 0,f 19 e.a.a.f.b e.c 1,l e.a.a.f.c e.a.a.f.b 2,o e.a.a.f.f (.call (F 15) [t e.a.a.f.a,t e.a.a.f.c]) 3]).seq (reg [m e.a.b.a.a e 0,o e.a.b.a.b (.buildSlice [.str []] 1 1 9 [(0,1,.const (.str [125]))]) 1,o e.a.b.a.c (.call (F 14) [t e.a.b.a.a,t e.a.b.a.b]) 2]))) NC.skip)))))))))))))))))),104, []⟩
theorem tu:ai Tryd.prog 29=some (.code vi):=by kernel_rfl
noncomputable def wO:NFun:=⟨(reg [o e.f (.move (.const (.str []))) 0]).seq (((reg [m e.b.a e.a 0,b e.b.b .eql (t e.b.a) (k 10) 1]).seq (NC.cond (t e.b.b) (((reg [m e.b.c e 0,b e.b.f .lss (t e.b.c) (ku 100) 1]).seq (NC.cond (t e.b.f) ((reg [m e.c.a e 0,o e.c.b (.toInt .i64 (t e.c.a)) 1,o e.c.c (.call (F 43) [t e.c.b]) 2,m e.f e.c.c 3]).seq NC.ret) NC.skip)).seq ((reg [o e.a.a (.alloc [.int .u8 (.lit 0),.int .u8 (.lit 0),.int .u8 (.lit 0),.int .u8 (.lit 0),.int .u8 (.lit 0),.int .u8 (.lit 0),.int .u8 (.lit 0),.int .u8 (.lit 0),.int .u8 (.lit 0),.int .u8 (.lit 0),.int .u8 (.lit 0),.int .u8 (.lit 0),.int .u8 (.lit 0),.int .u8 (.lit 0),.int .u8 (.lit 0),.int .u8 (.lit 0),.int .u8 (.lit 0),.int .u8 (.lit 0),.int .u8 (.lit 0),.int .u8 (.lit 0),.int .u8 (.lit 0),.int .u8 (.lit 0),.int .u8 (.lit 0),.int .u8 (.lit 0)] 103) 0]).seq ((reg [m e.c.f e 0,o e.f.a (.call (F 44) [t e.c.f]) 1,m e.a.b e.f.a 2]).seq ((reg [m e.f.b e.a.b 0,o e.f.c (.fail) 1,m e.f.f e 2,o e.a.a.a (.call (F 45) [t e.f.c,t e.f.f]) 3]).seq ((reg [m e.a.a.b e.a.b 0,o e.a.a.c (.fail) 1,o e.a.a.f (.bytesToStr (t e.a.a.c)) 2,m e.f e.a.a.f 3]).seq NC.ret))))) NC.skip)).seq ((reg [m e.a.b.b e 0,m e.a.b.c e.a 1,o e.a.b.f (.call (F 46) [.const .nils,t e.a.b.b,t e.a.b.c,.const (.bool false),.const (.bool false)]) 2,m e.a.b.a e.a.b.f 3,x e.a.c.a e.a.b.a 0 4,x e.a.c.b e.a.b.a 1 5,m e.a.c e.a.c.a 6,m e.a.f e.a.c.b 7]).seq ((reg [m e.a.c.c e.a.f 0,m e.f e.a.c.c 1]).seq NC.ret))),32, [.tmp e.f]⟩
theorem sF:ai Tryd.prog 30=some (.code wO):=by kernel_rfl
noncomputable def tP:NC:=(((reg [m e.b.c e.a.a 0,l e.b.f e.a 1,o e.c.a (.lenStr (t e.b.f)) 2,b e.c.b .lss (t e.b.c) (t e.c.a) 3]).seq (NC.cond (t e.c.b) NC.skip (NC.exit 0))).seq (NC.block 1 ((reg [l e.c.c e.b 0,m e.c.f e.a.a 1,n e.f.a e.c.c 2,q (.store 1 (t e.f.a) (t e.c.f)) 3]).seq ((reg [l e.f.c e.a 0,m e.f.f e.a.a 1,o e.a.a.a (.call (F 33) [t e.f.c,t e.f.f]) 2,m e.f.b e.a.a.a 3,x e.a.a.b e.f.b 0 4,x e.a.a.c e.f.b 1 5,x e.a.a.f e.f.b 2 6,o e.a.b (.alloc [.int .i64 (.lit 0),.str [],.int .u64 (.lit 0),.int .i64 (.lit 0)] 48) 7,q (.store 4 (t e.a.b) (t e.a.a.b)) 8,m e.a.c e.a.a.c 9,m e.a.f e.a.a.f 10]).seq (((reg [m e.a.b.a e.a.f 0,o e.a.b.b (.un .not (t e.a.b.a)) 1]).seq (NC.cond (t e.a.b.b) ((reg [l e.a.b.c e.c 0,n e.a.b.f e.a.b.c 1,q (.store 1 (t e.a.b.f) kt) 2]).seq NC.ret) NC.skip)).seq (((reg [m e.a.c.a e 0,o e.a.c.b (.loadN 4 (t e.a.b)) 1,o e.a.c.c (.call (t e.a.c.a) [t e.a.c.b]) 2,o e.a.c.f (.un .not (t e.a.c.c)) 3]).seq (NC.cond (t e.a.c.f) NC.ret NC.skip)).seq (reg [l e.a.f.a e.a 0,m e.a.f.b e.a.a 1,m e.a.f.c e.a.c 2,b e.a.f.f .add (t e.a.f.b) (t e.a.f.c) 3,o e.b.a.a (.call (F 32) [t e.a.f.a,t e.a.f.f]) 4,m e.a.a e.b.a.a 5])))))))
noncomputable def wW:NFun:=⟨(reg [l e.b.a e.a 0,o e.b.b (.call (F 32) [t e.b.a,k 0]) 1,m e.a.a e.b.b 2]).seq ((NC.block 0 tP.loop).seq ((reg [l e.b.a.b e.b 0,l e.b.a.c e.a 1,o e.b.a.f (.lenStr (t e.b.a.c)) 2,n e.b.b.a e.b.a.b 3,q (.store 1 (t e.b.b.a) (t e.b.a.f)) 4]).seq (reg [m e.b.b.b e 0,l e.b.b.c e.a 1,o e.b.b.f (.lenStr (t e.b.b.c)) 2,o e.b.c.a (.build [.int .i64 (.lit 0),.str [],.int .u64 (.lit 0),.int .i64 (.lit 0)] [(0,1,k 5),(3,1,t e.b.b.f)]) 3,o e.b.c.b (.call (t e.b.b.b) [t e.b.c.a]) 4]))),47, []⟩
theorem tA:ai Tryd.prog 31=some (.code wW):=by kernel_rfl
noncomputable def rV:NC:=(NC.block 1 ((reg [m e.a.a e 0,m e.a.b e.a 1,o e.a.c (.call (F 47) [t e.a.a,t e.a.b,.const (.fn 48 [])]) 2,m e.a e.a.c 3]).seq (((reg [m e.a.f e.a 0,m e.b.a e 1,o e.b.b (.lenStr (t e.b.a)) 2,b e.b.c .eql (t e.a.f) (t e.b.b) 3,m e.b.f e.b.c 4,G e.c.a (.move (t e)) e.b.f false 5,G e.c.b (.move (t e.a)) e.b.f false 6,G e.c.c (.indexStr (t e.c.a) (t e.c.b)) e.b.f false 7,G e.c.f (.bin .num .neq (t e.c.c) (kb 35)) e.b.f false 8,o e.f.a (.pick (t e.b.f) kt (t e.c.f)) 9]).seq (NC.cond (t e.f.a) ((reg [m e.f.b e.a 0,m e.f e.f.b 1]).seq NC.ret) NC.skip)).seq (reg [m e.f.c e 0,m e.f.f e.a 1,o e.a.a.a (.call (F 47) [t e.f.c,t e.f.f,.const (.fn 49 [])]) 2,m e.a e.a.a.a 3]))))
noncomputable def wl:NFun:=⟨(reg [o e.f (.move (k 0)) 0]).seq (NC.block 0 rV.loop),22, [.tmp e.f]⟩
theorem rG:ai Tryd.prog 32=some (.code wl):=by kernel_rfl
noncomputable def wk:NFun:=⟨(reg [o e.f (.alloc [.int .i64 (.lit 0),.str [],.int .u64 (.lit 0),.int .i64 (.lit 0)] 48) 0,o e.a.a (.move (k 0)) 1,o e.a.b (.move kf) 2]).seq ((reg [m e.c.a e.a 0,o e.c.b (.build [.int .i64 (.lit 0),.str [],.int .u64 (.lit 0),.int .i64 (.lit 0)] [(3,1,t e.c.a)]) 1,o e.a.c (.alloc [.int .i64 (.lit 0),.str [],.int .u64 (.lit 0),.int .i64 (.lit 0)] 48) 2,q (.store 4 (t e.a.c) (t e.c.b)) 3]).seq (((reg [m e.c.c e 0,m e.c.f e.a 1,o e.f.a (.indexStr (t e.c.c) (t e.c.f)) 2,m e.a.f e.f.a 3]).seq (NC.block 0 ((reg [m e.f.c e.a.f 0,o e.f.f (.call (F 50) [t e.f.c]) 1,m e.f.b e.f.f 2]).seq (NC.cond (t e.f.b) ((reg [m e.a.a.a e 0,m e.a.a.b e.a 1,o e.a.a.c (.call (F 47) [t e.a.a.a,t e.a.a.b,.const (.fn 51 [])]) 2,m e.b.a e.a.a.c 3]).seq ((regD [m e.a.a.f e 0,m e.a.b.a e.a 1,m e.a.b.b e.b.a 2,O e.a.b.c (.sliceStr (t e.a.a.f) (some (t e.a.b.a)) (some (t e.a.b.b))) 7 3,f 0 e.a.b.f e.a.c 4,⟨none,.store 1 (t e.a.b.f) (k 1),none,16,5⟩,O e.a.c.a (.fieldAddr 1 (t e.a.c)) 63 6,⟨none,.store 1 (t e.a.c.a) (t e.a.b.c),none,127,7⟩]).seq (((regD [f 1 e.a.c.c e.a.c 1,O e.a.c.f (.load1 (t e.a.c.c)) 2 2,o e.a.c.b (.call (F 53) []) 0,O e.a.f.a (.call (F 52) [t e.a.c.b,t e.a.c.f]) 7 3]).seq (NC.cond (t e.a.f.a) (reg [f 0 e.a.f.b e.a.c 0,q (.store 1 (t e.a.f.b) (k 4)) 1]) NC.skip)).seq ((regD [o e.a.f.c (.loadN 4 (t e.a.c)) 0,m e.a.f.f e.b.a 1,m e.b.a.a e.a 2,O e.b.a.b (.bin .num .sub (t e.a.f.f) (t e.b.a.a)) 6 3,f 0 e.b.a.c e.a.c 4,O e.b.a.f (.load1 (t e.b.a.c)) 16 5,O e.b.b.a (.bin .num .eql (t e.b.a.f) (k 4)) 48 6,O e.b.b.b (.move (t e.b.b.a)) 112 7,⟨some e.b.b.c,.fieldAddr 1 (t e.a.c),some (e.b.b.b,false),240,8⟩,⟨some e.b.b.f,.load1 (t e.b.b.c),some (e.b.b.b,false),496,9⟩,⟨some e.b.c.a,.call (F 54) [t e.b.b.f],some (e.b.b.b,false),1008,10⟩,O e.b.c.b (.pick (t e.b.b.b) kt (t e.b.c.a)) 2032 11,⟨none,.store 4 (t e.f) (t e.a.f.c),none,2033,12⟩,O e.a.a (.move (t e.b.a.b)) 6143 13,O e.a.b (.move (t e.b.c.b)) 16383 14]).seq NC.ret)))) ((reg [m e.b.c.f e.a.f 0,o e.b.f.a (.call (F 55) [t e.b.c.f]) 1,m e.b.c.c e.b.f.a 2]).seq (NC.cond (t e.b.c.c) ((reg [m e.b.f.b e 0,m e.b.f.c e.a 1,o e.b.f.f (.call (F 47) [t e.b.f.b,t e.b.f.c,.const (.fn 55 [])]) 2,m e.b.b e.b.f.f 3]).seq ((reg [m e.c.a.b e 0,m e.c.a.c e.a 1,m e.c.a.f e.b.b 2,o e.c.b.a (.sliceStr (t e.c.a.b) (some (t e.c.a.c)) (some (t e.c.a.f))) 3,o e.c.b.b (.call (F 56) [t e.c.b.a]) 4,m e.c.a.a e.c.b.b 5,x e.c.b.c e.c.a.a 0 6,x e.c.b.f e.c.a.a 1 7,m e.b.c e.c.b.c 8,m e.b.f e.c.b.f 9]).seq ((reg [m e.c.c.a e.b.c 0,f 0 e.c.c.b e.a.c 1,q (.store 1 (t e.c.c.b) (k 2)) 2,f 2 e.c.c.c e.a.c 3,q (.store 1 (t e.c.c.c) (t e.c.c.a)) 4]).seq ((regD [o e.c.c.f (.loadN 4 (t e.a.c)) 0,m e.c.f.a e.b.b 1,m e.c.f.b e.a 2,O e.c.f.c (.bin .num .sub (t e.c.f.a) (t e.c.f.b)) 6 3,m e.c.f.f e.b.f 4,O e.f.a.a (.move (t e.c.f.f)) 16 5,⟨some e.f.a.b,.move (t e.b.b),some (e.f.a.a,true),48,6⟩,⟨some e.f.a.c,.move (t e),some (e.f.a.a,true),48,7⟩,⟨some e.f.a.f,.lenStr (t e.f.a.c),some (e.f.a.a,true),176,8⟩,⟨some e.f.b.a,.bin .num .eql (t e.f.a.b) (t e.f.a.f),some (e.f.a.a,true),496,9⟩,⟨some e.f.b.b,.move (t e.f.b.a),some (e.f.a.a,true),1008,10⟩,⟨some e.f.b.c,.move (t e),some (e.f.b.b,false),2032,11⟩,⟨some e.f.b.f,.move (t e.b.b),some (e.f.b.b,false),2032,12⟩,⟨some e.f.c.a,.indexStr (t e.f.b.c) (t e.f.b.f),some (e.f.b.b,false),8176,13⟩,⟨some e.f.c.b,.call (F 51) [t e.f.c.a],some (e.f.b.b,false),16368,14⟩,⟨some e.f.c.c,.un .not (t e.f.c.b),some (e.f.b.b,false),32752,15⟩,⟨some e.f.c.f,.pick (t e.f.b.b) kt (t e.f.c.c),some (e.f.a.a,true),65520,16⟩,O e.f.f.a (.pick (t e.f.a.a) (t e.f.c.f) kf) 131056 17,⟨none,.store 4 (t e.f) (t e.c.c.f),none,32753,18⟩,O e.a.a (.move (t e.c.f.c)) 294911 19,O e.a.b (.move (t e.f.f.a)) 1048575 20]).seq NC.ret)))) NC.skip)))))).seq ((regD [m e.f.f.b e 0,m e.f.f.c e.a 1,m e.f.f.f e.a 2,O e.a.a.a.a (.bin .num .add (t e.f.f.f) (k 1)) 4 3,O e.a.a.a.b (.sliceStr (t e.f.f.b) (some (t e.f.f.c)) (some (t e.a.a.a.a))) 15 4,f 0 e.a.a.a.c e.a.c 5,⟨none,.store 1 (t e.a.a.a.c) (k 3),none,32,6⟩,O e.a.a.a.f (.fieldAddr 1 (t e.a.c)) 127 7,⟨none,.store 1 (t e.a.a.a.f) (t e.a.a.a.b),none,255,8⟩]).seq ((regD [o e.a.a.b.a (.loadN 4 (t e.a.c)) 0,f 1 e.a.a.b.b e.a.c 1,O e.a.a.b.c (.load1 (t e.a.a.b.b)) 2 2,O e.a.a.b.f (.call (F 57) [.const (.str [123,125,40,41,91,93,59,43,45,42,38,61,60]),t e.a.a.b.c]) 6 3,⟨none,.store 4 (t e.f) (t e.a.a.b.a),none,15,4⟩,O e.a.a (.move (k 1)) 31 5,O e.a.b (.move (t e.a.a.b.f)) 63 6]).seq NC.ret)))),93, [.cellN e.f 4,.tmp e.a.a,.tmp e.a.b]⟩
theorem sM:ai Tryd.prog 33=some (.code wk):=by kernel_rfl
noncomputable def wU:NFun:=⟨(reg [m e.f e 0,m e.a.a e.a 1,o e.a.b (.call (F 20) [t e.f,k 3,t e.a.a]) 2,o e.a.c (.un .not (t e.a.b)) 3]).seq (NC.cond (t e.a.c) (reg [m e.a.f e 0,o e.b.a (.call (F 25) [t e.a.f,k 2]) 1]) NC.skip),10, []⟩
theorem rr:ai Tryd.prog 34=some (.code wU):=by kernel_rfl
noncomputable def wE:NFun:=⟨(reg [o e.f (.alloc [.int .i64 (.lit 0),.int .i64 (.lit 0),.str [],.str [],.int .i64 (.lit 0),.int .u64 (.lit 0),.int .u8 (.lit 0),.str [],.nils,.int .i64 (.lit 0),.int .u64 (.lit 0),.int .u8 (.lit 0),.str [],.nils,.int .i64 (.lit 0),.int .u64 (.lit 0),.int .u8 (.lit 0),.str [],.nils,.nils,.nils] 87) 0]).seq ((reg [m e.a.b e 0,o e.a.c (.call (F 19) [t e.a.b]) 1,o e.a.f (.field1 3 (t e.a.c)) 2,o e.b.a (.build [.int .i64 (.lit 0),.int .i64 (.lit 0),.str [],.str [],.int .i64 (.lit 0),.int .u64 (.lit 0),.int .u8 (.lit 0),.str [],.nils,.int .i64 (.lit 0),.int .u64 (.lit 0),.int .u8 (.lit 0),.str [],.nils,.int .i64 (.lit 0),.int .u64 (.lit 0),.int .u8 (.lit 0),.str [],.nils,.nils,.nils] [(1,1,t e.a.f)]) 3,o e.a.a (.alloc [.int .i64 (.lit 0),.int .i64 (.lit 0),.str [],.str [],.int .i64 (.lit 0),.int .u64 (.lit 0),.int .u8 (.lit 0),.str [],.nils,.int .i64 (.lit 0),.int .u64 (.lit 0),.int .u8 (.lit 0),.str [],.nils,.int .i64 (.lit 0),.int .u64 (.lit 0),.int .u8 (.lit 0),.str [],.nils,.nils,.nils] 87) 4,q (.store 21 (t e.a.a) (t e.b.a)) 5]).seq ((NC.block 0 ((reg [m e.b.c e 0,o e.b.f (.call (F 20) [t e.b.c,k 4,.const (.str [105,102])]) 1,m e.b.b e.b.f 2]).seq (NC.cond (t e.b.b) ((reg [m e.c.a e 0,o e.c.b (.call (F 58) [t e.c.a]) 1,f 0 e.c.c e.a.a 2,q (.store 1 (t e.c.c) (k 6)) 3,f 9 e.c.f e.a.a 4,q (.store 5 (t e.c.f) (t e.c.b)) 5]).seq ((reg [m e.f.a e 0,m e.f.b e.a 1,b e.f.c .add (t e.f.b) (k 1) 2,o e.f.f (.call (F 23) [t e.f.a,t e.f.c]) 3,f 19 e.a.a.a e.a.a 4,q (.store 1 (t e.a.a.a) (t e.f.f)) 5]).seq (((reg [m e.a.a.b e 0,o e.a.a.c (.call (F 20) [t e.a.a.b,k 4,.const (.str [101,108,115,101])]) 1]).seq (NC.cond (t e.a.a.c) (reg [m e.a.a.f e 0,m e.a.b.a e.a 1,b e.a.b.b .add (t e.a.b.a) (k 1) 2,o e.a.b.c (.call (F 23) [t e.a.a.f,t e.a.b.b]) 3,f 20 e.a.b.f e.a.a 4,q (.store 1 (t e.a.b.f) (t e.a.b.c)) 5]) NC.skip)).seq ((reg [o e.a.c.a (.loadN 21 (t e.a.a)) 0,q (.store 21 (t e.f) (t e.a.c.a)) 1]).seq NC.ret)))) ((reg [m e.a.c.c e 0,o e.a.c.f (.call (F 20) [t e.a.c.c,k 4,.const (.str [119,104,105,108,101])]) 1,m e.a.c.b e.a.c.f 2]).seq (NC.cond (t e.a.c.b) ((reg [m e.a.f.a e 0,o e.a.f.b (.call (F 58) [t e.a.f.a]) 1,f 0 e.a.f.c e.a.a 2,q (.store 1 (t e.a.f.c) (k 7)) 3,f 9 e.a.f.f e.a.a 4,q (.store 5 (t e.a.f.f) (t e.a.f.b)) 5]).seq ((reg [m e.b.a.a e 0,m e.b.a.b e.a 1,b e.b.a.c .add (t e.b.a.b) (k 1) 2,o e.b.a.f (.call (F 23) [t e.b.a.a,t e.b.a.c]) 3,f 19 e.b.b.a e.a.a 4,q (.store 1 (t e.b.b.a) (t e.b.a.f)) 5]).seq ((reg [o e.b.b.b (.loadN 21 (t e.a.a)) 0,q (.store 21 (t e.f) (t e.b.b.b)) 1]).seq NC.ret))) NC.skip))))).seq ((reg [m e.b.b.c e 0,o e.b.b.f (.call (F 59) [t e.b.b.c,t e.a.a]) 1]).seq ((reg [m e.b.c.a e 0,o e.b.c.b (.call (F 34) [t e.b.c.a,.const (.str [59])]) 1]).seq ((reg [o e.b.c.c (.loadN 21 (t e.a.a)) 0,q (.store 21 (t e.f) (t e.b.c.c)) 1]).seq NC.ret))))),48, [.cellN e.f 21]⟩
theorem tq:ai Tryd.prog 35=some (.code wE):=by kernel_rfl
noncomputable def wy:NFun:=⟨(reg [o e.b (.move (.const (.str []))) 0]).seq ((reg [m e.c e 0,o e.f (.call (F 60) [t e.c,k 10]) 1,m e.b e.f 2]).seq NC.ret),5, [.tmp e.b]⟩
theorem tG:ai Tryd.prog 36=some (.code wy):=by kernel_rfl
noncomputable def vz:NFun:=⟨(reg [o e.f (.move (ku 0)) 0,o e.a.a (.move (ku 0)) 1]).seq ((NC.cond kf ((reg [m e.b.c e 0,o e.b.f (.toInt .u32 (t e.b.c)) 1,m e.c.a e.a 2,o e.c.b (.toInt .u32 (t e.c.a)) 3,o e.c.c (.call (F 62) [t e.b.f,t e.c.b]) 4,m e.b.b e.c.c 5,x e.c.f e.b.b 0 6,x e.f.a e.b.b 1 7,m e.a.b e.c.f 8,m e.a.c e.f.a 9]).seq ((reg [m e.f.b e.a.b 0,o e.f.c (.toInt .u64 (t e.f.b)) 1,m e.f.f e.a.c 2,o e.a.a.a (.toInt .u64 (t e.f.f)) 3,m e.f e.f.c 4,m e.a.a e.a.a.a 5]).seq NC.ret)) NC.skip).seq ((reg [m e.a.a.c e 0,m e.a.a.f e.a 1,o e.a.b.a (.call (F 63) [t e.a.a.c,t e.a.a.f]) 2,m e.a.a.b e.a.b.a 3,x e.a.b.b e.a.a.b 0 4,x e.a.b.c e.a.a.b 1 5,m e.a.f e.a.b.b 6,m e.b.a e.a.b.c 7]).seq ((reg [m e.a.b.f e.a.f 0,m e.a.c.a e.b.a 1,m e.f e.a.b.f 2,m e.a.a e.a.c.a 3]).seq NC.ret))),30, [.tmp e.f,.tmp e.a.a]⟩
theorem sG:ai Tryd.prog 38=some (.code vz):=by kernel_rfl
noncomputable def w6:NFun:=⟨(reg [o e.f (.move kf) 0]).seq ((reg [m e.a.a e 0,m e.a.b e.a 1,o e.a.c (.call (F 64) [t e.a.a,t e.a.b]) 2,m e.f e.a.c 3]).seq NC.ret),8, [.tmp e.f]⟩
theorem sc:ai Tryd.prog 39=some (.code w6):=by kernel_rfl
noncomputable def vI:NFun:=⟨(reg [m e.f e 0,o e.a.a (.call (F 37) [t e.f]) 1]).seq (((reg [m e.a.b e.a 0,b e.a.c .lss (t e.a.b) (k 0) 1]).seq (NC.cond (t e.a.c) (reg [o e.a.f (.mkIfc 9 (.const (.str [115,116,114,105,110,103,115,46,66,117,105,108,100,101,114,46,71,114,111,119,58,32,110,101,103,97,116,105,118,101,32,99,111,117,110,116]))) 0,q (.panic (t e.a.f)) 1]) NC.skip)).seq ((regD [m e.b.a e 0,O e.b.b (.nilCheck (t e.b.a)) 1 1,O e.b.c (.fieldAddr 1 (t e.b.b)) 3 2,O e.b.f (.load1 (t e.b.c)) 7 3,m e.c.b e 5,O e.c.c (.nilCheck (t e.c.b)) 32 6,O e.c.f (.fieldAddr 1 (t e.c.c)) 96 7,O e.f.a (.load1 (t e.c.f)) 224 8,O e.f.b (.lenSlc (t e.f.a)) 480 9,m e.f.f e.a 11,O e.c.a (.fail) 15 4,O e.f.c (.bin .num .sub (t e.c.a) (t e.f.b)) 1023 10,O e.a.a.a (.bin .num .lss (t e.f.c) (t e.f.f)) 4095 12]).seq (NC.cond (t e.a.a.a) (reg [m e.a.a.b e 0,m e.a.a.c e.a 1,o e.a.a.f (.call (F 65) [t e.a.a.b,t e.a.a.c]) 2]) NC.skip))),25, []⟩
theorem rQ:ai Tryd.prog 40=some (.code vI):=by kernel_rfl
noncomputable def wP:NFun:=⟨(reg [o e.b (.move (k 0)) 0]).seq ((reg [m e.c e 0,n e.f e.c 1,f 1 e.a.a e.f 2,l e.a.b e.a.a 3,L e.a.c e.a.b 4,m e.b e.a.c 5]).seq NC.ret),8, [.tmp e.b]⟩
theorem rq:ai Tryd.prog 41=some (.code wP):=by kernel_rfl
noncomputable def wY:NFun:=⟨(reg [o e.a (.box (t e) 87) 0,o e.b (.move (.const (.str []))) 1]).seq (((reg [f 4 e.c e.a 0,f 0 e.f e.c 1,l e.a.a e.f 2,b e.a.b .eql (t e.a.a) (k 0) 3,m e.a.c e.a.b 4,G e.a.f (.fieldAddr 4 (t e.a)) e.a.c true 5,G e.b.a (.fieldAddr 1 (t e.a.f)) e.a.c true 6,G e.b.b (.load1 (t e.b.a)) e.a.c true 7,G e.b.c (.bin .num .eql (t e.b.b) (ku 0)) e.a.c true 8,o e.b.f (.pick (t e.a.c) (t e.b.c) kf) 9]).seq (NC.cond (t e.b.f) ((reg [f 3 e.c.a e.a 0,l e.c.b e.c.a 1,m e.b e.c.b 2]).seq NC.ret) NC.skip)).seq ((regD [f 3 e.c.c e.a 0,O e.c.f (.load1 (t e.c.c)) 1 1,O e.f.a (.bin .num .add (t e.c.f) (.const (.str [91]))) 3 2,f 4 e.f.b e.a 3,O e.f.c (.loadN 5 (t e.f.b)) 8 4,O e.f.f (.call (F 8) [t e.f.c]) 24 5,O e.a.a.a (.bin .num .add (t e.f.a) (t e.f.f)) 63 6,O e.a.a.b (.bin .num .add (t e.a.a.a) (.const (.str [93]))) 127 7,O e.b (.move (t e.a.a.b)) 255 8]).seq NC.ret)),23, [.tmp e.b]⟩
theorem sn:ai Tryd.prog 42=some (.code wY):=by kernel_rfl
noncomputable def vM:NFun:=⟨(reg [o e.b (.move (.const (.str []))) 0]).seq (((reg [m e.c e 0,b e.f .lss (t e.c) (k 10) 1]).seq (NC.cond (t e.f) ((reg [m e.a.a e 0,m e.a.b e 1,b e.a.c .add (t e.a.b) (k 1) 2,o e.a.f (.sliceStr (.const (.str [48,49,50,51,52,53,54,55,56,57,97,98,99,100,101,102,103,104,105,106,107,108,109,110,111,112,113,114,115,116,117,118,119,120,121,122])) (some (t e.a.a)) (some (t e.a.c))) 3,m e.b e.a.f 4]).seq NC.ret) NC.skip)).seq ((reg [m e.b.a e 0,b e.b.b .mul (t e.b.a) (k 2) 1,m e.b.c e 2,b e.b.f .mul (t e.b.c) (k 2) 3,b e.c.a .add (t e.b.f) (k 2) 4,o e.c.b (.sliceStr (.const (.str [48,48,48,49,48,50,48,51,48,52,48,53,48,54,48,55,48,56,48,57,49,48,49,49,49,50,49,51,49,52,49,53,49,54,49,55,49,56,49,57,50,48,50,49,50,50,50,51,50,52,50,53,50,54,50,55,50,56,50,57,51,48,51,49,51,50,51,51,51,52,51,53,51,54,51,55,51,56,51,57,52,48,52,49,52,50,52,51,52,52,52,53,52,54,52,55,52,56,52,57,53,48,53,49,53,50,53,51,53,52,53,53,53,54,53,55,53,56,53,57,54,48,54,49,54,50,54,51,54,52,54,53,54,54,54,55,54,56,54,57,55,48,55,49,55,50,55,51,55,52,55,53,55,54,55,55,55,56,55,57,56,48,56,49,56,50,56,51,56,52,56,53,56,54,56,55,56,56,56,57,57,48,57,49,57,50,57,51,57,52,57,53,57,54,57,55,57,56,57,57])) (some (t e.b.b)) (some (t e.c.a))) 5,m e.b e.c.b 6]).seq NC.ret)),15, [.tmp e.b]⟩
theorem sN:ai Tryd.prog 43=some (.code vM):=by kernel_rfl
noncomputable def vj:NFun:=⟨(reg [o e.b (.move (k 0)) 0]).seq ((reg [m e.f e 0,o e.a.a (.call (F 67) [t e.f]) 1,o e.a.b (.call (F 66) [t e.a.a]) 2,m e.c e.a.b 3]).seq ((reg [m e.a.c e.c 0,m e.a.f e 1,m e.b.a e.c 2,o e.b.b (.fail) 3,l e.b.c e.b.b 4,b e.b.f .geq (t e.a.f) (t e.b.c) 5,o e.c.a (.call (F 68) [t e.b.f]) 6,b e.c.b .add (t e.a.c) (t e.c.a) 7,m e.b e.c.b 8]).seq NC.ret)),15, [.tmp e.b]⟩
theorem sj:ai Tryd.prog 44=some (.code vj):=by kernel_rfl
noncomputable def rD:NC:=(((reg [m e.f.c e.f 0,b e.f.f .geq (t e.f.c) (k 8) 1]).seq (NC.cond (t e.f.f) NC.skip (NC.exit 0))).seq (NC.block 1 ((reg [m e.a.a.a e.a 0,b e.a.a.b .rem (t e.a.a.a) (ku 100000000) 1,o e.a.a.c (.toInt .u32 (t e.a.a.b)) 2,m e.a.a e.a.a.c 3]).seq ((reg [m e.a.a.f e.a 0,b e.a.b.a .quo (t e.a.a.f) (ku 100000000) 1,m e.a e.a.b.a 2]).seq ((reg [m e.a.b.b e.a.a 0,b e.a.b.c .quo (t e.a.b.b) (.const (.int .u32 (.lit 10000))) 1,m e.a.b.f e.a.a 2,b e.a.c.a .rem (t e.a.b.f) (.const (.int .u32 (.lit 10000))) 3,m e.a.b e.a.b.c 4,m e.a.c e.a.c.a 5]).seq ((reg [m e.a.c.b e.a.c 0,b e.a.c.c .quo (t e.a.c.b) (.const (.int .u32 (.lit 100))) 1,b e.a.c.f .mul (t e.a.c.c) (.const (.int .u32 (.lit 2))) 2,m e.a.f.a e.a.c 3,b e.a.f.b .rem (t e.a.f.a) (.const (.int .u32 (.lit 100))) 4,b e.a.f.c .mul (t e.a.f.b) (.const (.int .u32 (.lit 2))) 5,m e.a.f e.a.c.f 6,m e.b.a e.a.f.c 7]).seq ((reg [m e.a.f.f e.a.b 0,b e.b.a.a .quo (t e.a.f.f) (.const (.int .u32 (.lit 100))) 1,b e.b.a.b .mul (t e.b.a.a) (.const (.int .u32 (.lit 2))) 2,m e.b.a.c e.a.b 3,b e.b.a.f .rem (t e.b.a.c) (.const (.int .u32 (.lit 100))) 4,b e.b.b.a .mul (t e.b.a.f) (.const (.int .u32 (.lit 2))) 5,m e.b.b e.b.a.b 6,m e.b.c e.b.b.a 7]).seq ((regD [m e.b.b.b e 0,m e.b.b.c e.f 1,O e.b.b.f (.bin .num .sub (t e.b.b.c) (k 1)) 2 2,m e.b.c.a e 3,m e.b.c.b e.f 4,O e.b.c.c (.bin .num .sub (t e.b.c.b) (k 2)) 16 5,m e.b.c.f e.b.a 6,O e.b.f.a (.bin .num .add (t e.b.c.f) (.const (.int .u32 (.lit 1)))) 64 7,O e.b.f.b (.indexStr (.const (.str [48,48,48,49,48,50,48,51,48,52,48,53,48,54,48,55,48,56,48,57,49,48,49,49,49,50,49,51,49,52,49,53,49,54,49,55,49,56,49,57,50,48,50,49,50,50,50,51,50,52,50,53,50,54,50,55,50,56,50,57,51,48,51,49,51,50,51,51,51,52,51,53,51,54,51,55,51,56,51,57,52,48,52,49,52,50,52,51,52,52,52,53,52,54,52,55,52,56,52,57,53,48,53,49,53,50,53,51,53,52,53,53,53,54,53,55,53,56,53,57,54,48,54,49,54,50,54,51,54,52,54,53,54,54,54,55,54,56,54,57,55,48,55,49,55,50,55,51,55,52,55,53,55,54,55,55,55,56,55,57,56,48,56,49,56,50,56,51,56,52,56,53,56,54,56,55,56,56,56,57,57,48,57,49,57,50,57,51,57,52,57,53,57,54,57,55,57,56,57,57])) (t e.b.f.a)) 192 8,m e.b.f.c e.b.a 9,O e.b.f.f (.indexStr (.const (.str [48,48,48,49,48,50,48,51,48,52,48,53,48,54,48,55,48,56,48,57,49,48,49,49,49,50,49,51,49,52,49,53,49,54,49,55,49,56,49,57,50,48,50,49,50,50,50,51,50,52,50,53,50,54,50,55,50,56,50,57,51,48,51,49,51,50,51,51,51,52,51,53,51,54,51,55,51,56,51,57,52,48,52,49,52,50,52,51,52,52,52,53,52,54,52,55,52,56,52,57,53,48,53,49,53,50,53,51,53,52,53,53,53,54,53,55,53,56,53,57,54,48,54,49,54,50,54,51,54,52,54,53,54,54,54,55,54,56,54,57,55,48,55,49,55,50,55,51,55,52,55,53,55,54,55,55,55,56,55,57,56,48,56,49,56,50,56,51,56,52,56,53,56,54,56,55,56,56,56,57,57,48,57,49,57,50,57,51,57,52,57,53,57,54,57,55,57,56,57,57])) (t e.b.f.c)) 512 10,O e.c.a.a (.indexSlc 1 (t e.b.b.b) (t e.b.b.f)) 455 11,⟨none,.store 1 (t e.c.a.a) (t e.b.f.b),none,2503,12⟩,O e.c.a.b (.indexSlc 1 (t e.b.c.a) (t e.b.c.c)) 8191 13,⟨none,.store 1 (t e.c.a.b) (t e.b.f.f),none,16383,14⟩]).seq ((regD [m e.c.a.c e 0,m e.c.a.f e.f 1,O e.c.b.a (.bin .num .sub (t e.c.a.f) (k 3)) 2 2,m e.c.b.b e 3,m e.c.b.c e.f 4,O e.c.b.f (.bin .num .sub (t e.c.b.c) (k 4)) 16 5,m e.c.c.a e.a.f 6,O e.c.c.b (.bin .num .add (t e.c.c.a) (.const (.int .u32 (.lit 1)))) 64 7,O e.c.c.c (.indexStr (.const (.str [48,48,48,49,48,50,48,51,48,52,48,53,48,54,48,55,48,56,48,57,49,48,49,49,49,50,49,51,49,52,49,53,49,54,49,55,49,56,49,57,50,48,50,49,50,50,50,51,50,52,50,53,50,54,50,55,50,56,50,57,51,48,51,49,51,50,51,51,51,52,51,53,51,54,51,55,51,56,51,57,52,48,52,49,52,50,52,51,52,52,52,53,52,54,52,55,52,56,52,57,53,48,53,49,53,50,53,51,53,52,53,53,53,54,53,55,53,56,53,57,54,48,54,49,54,50,54,51,54,52,54,53,54,54,54,55,54,56,54,57,55,48,55,49,55,50,55,51,55,52,55,53,55,54,55,55,55,56,55,57,56,48,56,49,56,50,56,51,56,52,56,53,56,54,56,55,56,56,56,57,57,48,57,49,57,50,57,51,57,52,57,53,57,54,57,55,57,56,57,57])) (t e.c.c.b)) 192 8,m e.c.c.f e.a.f 9,O e.c.f.a (.indexStr (.const (.str [48,48,48,49,48,50,48,51,48,52,48,53,48,54,48,55,48,56,48,57,49,48,49,49,49,50,49,51,49,52,49,53,49,54,49,55,49,56,49,57,50,48,50,49,50,50,50,51,50,52,50,53,50,54,50,55,50,56,50,57,51,48,51,49,51,50,51,51,51,52,51,53,51,54,51,55,51,56,51,57,52,48,52,49,52,50,52,51,52,52,52,53,52,54,52,55,52,56,52,57,53,48,53,49,53,50,53,51,53,52,53,53,53,54,53,55,53,56,53,57,54,48,54,49,54,50,54,51,54,52,54,53,54,54,54,55,54,56,54,57,55,48,55,49,55,50,55,51,55,52,55,53,55,54,55,55,55,56,55,57,56,48,56,49,56,50,56,51,56,52,56,53,56,54,56,55,56,56,56,57,57,48,57,49,57,50,57,51,57,52,57,53,57,54,57,55,57,56,57,57])) (t e.c.c.f)) 512 10,O e.c.f.b (.indexSlc 1 (t e.c.a.c) (t e.c.b.a)) 455 11,⟨none,.store 1 (t e.c.f.b) (t e.c.c.c),none,2503,12⟩,O e.c.f.c (.indexSlc 1 (t e.c.b.b) (t e.c.b.f)) 8191 13,⟨none,.store 1 (t e.c.f.c) (t e.c.f.a),none,16383,14⟩]).seq ((regD [m e.c.f.f e 0,m e.f.a.a e.f 1,O e.f.a.b (.bin .num .sub (t e.f.a.a) (k 5)) 2 2,m e.f.a.c e 3,m e.f.a.f e.f 4,O e.f.b.a (.bin .num .sub (t e.f.a.f) (k 6)) 16 5,m e.f.b.b e.b.c 6,O e.f.b.c (.bin .num .add (t e.f.b.b) (.const (.int .u32 (.lit 1)))) 64 7,O e.f.b.f (.indexStr (.const (.str [48,48,48,49,48,50,48,51,48,52,48,53,48,54,48,55,48,56,48,57,49,48,49,49,49,50,49,51,49,52,49,53,49,54,49,55,49,56,49,57,50,48,50,49,50,50,50,51,50,52,50,53,50,54,50,55,50,56,50,57,51,48,51,49,51,50,51,51,51,52,51,53,51,54,51,55,51,56,51,57,52,48,52,49,52,50,52,51,52,52,52,53,52,54,52,55,52,56,52,57,53,48,53,49,53,50,53,51,53,52,53,53,53,54,53,55,53,56,53,57,54,48,54,49,54,50,54,51,54,52,54,53,54,54,54,55,54,56,54,57,55,48,55,49,55,50,55,51,55,52,55,53,55,54,55,55,55,56,55,57,56,48,56,49,56,50,56,51,56,52,56,53,56,54,56,55,56,56,56,57,57,48,57,49,57,50,57,51,57,52,57,53,57,54,57,55,57,56,57,57])) (t e.f.b.c)) 192 8,m e.f.c.a e.b.c 9,O e.f.c.b (.indexStr (.const (.str [48,48,48,49,48,50,48,51,48,52,48,53,48,54,48,55,48,56,48,57,49,48,49,49,49,50,49,51,49,52,49,53,49,54,49,55,49,56,49,57,50,48,50,49,50,50,50,51,50,52,50,53,50,54,50,55,50,56,50,57,51,48,51,49,51,50,51,51,51,52,51,53,51,54,51,55,51,56,51,57,52,48,52,49,52,50,52,51,52,52,52,53,52,54,52,55,52,56,52,57,53,48,53,49,53,50,53,51,53,52,53,53,53,54,53,55,53,56,53,57,54,48,54,49,54,50,54,51,54,52,54,53,54,54,54,55,54,56,54,57,55,48,55,49,55,50,55,51,55,52,55,53,55,54,55,55,55,56,55,57,56,48,56,49,56,50,56,51,56,52,56,53,56,54,56,55,56,56,56,57,57,48,57,49,57,50,57,51,57,52,57,53,57,54,57,55,57,56,57,57])) (t e.f.c.a)) 512 10,O e.f.c.c (.indexSlc 1 (t e.c.f.f) (t e.f.a.b)) 455 11,⟨none,.store 1 (t e.f.c.c) (t e.f.b.f),none,2503,12⟩,O e.f.c.f (.indexSlc 1 (t e.f.a.c) (t e.f.b.a)) 8191 13,⟨none,.store 1 (t e.f.c.f) (t e.f.c.b),none,16383,14⟩]).seq ((regD [m e.f.f.a e 0,m e.f.f.b e.f 1,O e.f.f.c (.bin .num .sub (t e.f.f.b) (k 7)) 2 2,m e.f.f.f e 3,m e.a.a.a.a e.f 4,O e.a.a.a.b (.bin .num .sub (t e.a.a.a.a) (k 8)) 16 5,m e.a.a.a.c e.b.b 6,O e.a.a.a.f (.bin .num .add (t e.a.a.a.c) (.const (.int .u32 (.lit 1)))) 64 7,O e.a.a.b.a (.indexStr (.const (.str [48,48,48,49,48,50,48,51,48,52,48,53,48,54,48,55,48,56,48,57,49,48,49,49,49,50,49,51,49,52,49,53,49,54,49,55,49,56,49,57,50,48,50,49,50,50,50,51,50,52,50,53,50,54,50,55,50,56,50,57,51,48,51,49,51,50,51,51,51,52,51,53,51,54,51,55,51,56,51,57,52,48,52,49,52,50,52,51,52,52,52,53,52,54,52,55,52,56,52,57,53,48,53,49,53,50,53,51,53,52,53,53,53,54,53,55,53,56,53,57,54,48,54,49,54,50,54,51,54,52,54,53,54,54,54,55,54,56,54,57,55,48,55,49,55,50,55,51,55,52,55,53,55,54,55,55,55,56,55,57,56,48,56,49,56,50,56,51,56,52,56,53,56,54,56,55,56,56,56,57,57,48,57,49,57,50,57,51,57,52,57,53,57,54,57,55,57,56,57,57])) (t e.a.a.a.f)) 192 8,m e.a.a.b.b e.b.b 9,O e.a.a.b.c (.indexStr (.const (.str [48,48,48,49,48,50,48,51,48,52,48,53,48,54,48,55,48,56,48,57,49,48,49,49,49,50,49,51,49,52,49,53,49,54,49,55,49,56,49,57,50,48,50,49,50,50,50,51,50,52,50,53,50,54,50,55,50,56,50,57,51,48,51,49,51,50,51,51,51,52,51,53,51,54,51,55,51,56,51,57,52,48,52,49,52,50,52,51,52,52,52,53,52,54,52,55,52,56,52,57,53,48,53,49,53,50,53,51,53,52,53,53,53,54,53,55,53,56,53,57,54,48,54,49,54,50,54,51,54,52,54,53,54,54,54,55,54,56,54,57,55,48,55,49,55,50,55,51,55,52,55,53,55,54,55,55,55,56,55,57,56,48,56,49,56,50,56,51,56,52,56,53,56,54,56,55,56,56,56,57,57,48,57,49,57,50,57,51,57,52,57,53,57,54,57,55,57,56,57,57])) (t e.a.a.b.b)) 512 10,O e.a.a.b.f (.indexSlc 1 (t e.f.f.a) (t e.f.f.c)) 455 11,⟨none,.store 1 (t e.a.a.b.f) (t e.a.a.b.a),none,2503,12⟩,O e.a.a.c.a (.indexSlc 1 (t e.f.f.f) (t e.a.a.a.b)) 8191 13,⟨none,.store 1 (t e.a.a.c.a) (t e.a.a.b.c),none,16383,14⟩]).seq (reg [m e.a.a.c.b e.f 0,b e.a.a.c.c .sub (t e.a.a.c.b) (k 8) 1,m e.f e.a.a.c.c 2]))))))))))))
noncomputable def wt:NFun:=⟨(reg [m e.f.a e 0,L e.f.b e.f.a 1,m e.f e.f.b 2]).seq ((NC.block 0 rD.loop).seq ((reg [m e.a.a.c.f e.a 0,o e.a.a.f.a (.toInt .u32 (t e.a.a.c.f)) 1,m e.b.f e.a.a.f.a 2]).seq (((reg [m e.a.a.f.b e.f 0,b e.a.a.f.c .geq (t e.a.a.f.b) (k 4) 1]).seq (NC.cond (t e.a.a.f.c) ((reg [m e.a.a.f.f e.b.f 0,b e.a.b.a.a .rem (t e.a.a.f.f) (.const (.int .u32 (.lit 10000))) 1,m e.c.a e.a.b.a.a 2]).seq ((reg [m e.a.b.a.b e.b.f 0,b e.a.b.a.c .quo (t e.a.b.a.b) (.const (.int .u32 (.lit 10000))) 1,m e.b.f e.a.b.a.c 2]).seq ((reg [m e.a.b.a.f e.c.a 0,b e.a.b.b.a .quo (t e.a.b.a.f) (.const (.int .u32 (.lit 100))) 1,b e.a.b.b.b .mul (t e.a.b.b.a) (.const (.int .u32 (.lit 2))) 2,m e.a.b.b.c e.c.a 3,b e.a.b.b.f .rem (t e.a.b.b.c) (.const (.int .u32 (.lit 100))) 4,b e.a.b.c.a .mul (t e.a.b.b.f) (.const (.int .u32 (.lit 2))) 5,m e.c.b e.a.b.b.b 6,m e.c.c e.a.b.c.a 7]).seq ((regD [m e.a.b.c.b e 0,m e.a.b.c.c e.f 1,O e.a.b.c.f (.bin .num .sub (t e.a.b.c.c) (k 1)) 2 2,m e.a.b.f.a e 3,m e.a.b.f.b e.f 4,O e.a.b.f.c (.bin .num .sub (t e.a.b.f.b) (k 2)) 16 5,m e.a.b.f.f e.c.c 6,O e.a.c.a.a (.bin .num .add (t e.a.b.f.f) (.const (.int .u32 (.lit 1)))) 64 7,O e.a.c.a.b (.indexStr (.const (.str [48,48,48,49,48,50,48,51,48,52,48,53,48,54,48,55,48,56,48,57,49,48,49,49,49,50,49,51,49,52,49,53,49,54,49,55,49,56,49,57,50,48,50,49,50,50,50,51,50,52,50,53,50,54,50,55,50,56,50,57,51,48,51,49,51,50,51,51,51,52,51,53,51,54,51,55,51,56,51,57,52,48,52,49,52,50,52,51,52,52,52,53,52,54,52,55,52,56,52,57,53,48,53,49,53,50,53,51,53,52,53,53,53,54,53,55,53,56,53,57,54,48,54,49,54,50,54,51,54,52,54,53,54,54,54,55,54,56,54,57,55,48,55,49,55,50,55,51,55,52,55,53,55,54,55,55,55,56,55,57,56,48,56,49,56,50,56,51,56,52,56,53,56,54,56,55,56,56,56,57,57,48,57,49,57,50,57,51,57,52,57,53,57,54,57,55,57,56,57,57])) (t e.a.c.a.a)) 192 8,m e.a.c.a.c e.c.c 9,O e.a.c.a.f (.indexStr (.const (.str [48,48,48,49,48,50,48,51,48,52,48,53,48,54,48,55,48,56,48,57,49,48,49,49,49,50,49,51,49,52,49,53,49,54,49,55,49,56,49,57,50,48,50,49,50,50,50,51,50,52,50,53,50,54,50,55,50,56,50,57,51,48,51,49,51,50,51,51,51,52,51,53,51,54,51,55,51,56,51,57,52,48,52,49,52,50,52,51,52,52,52,53,52,54,52,55,52,56,52,57,53,48,53,49,53,50,53,51,53,52,53,53,53,54,53,55,53,56,53,57,54,48,54,49,54,50,54,51,54,52,54,53,54,54,54,55,54,56,54,57,55,48,55,49,55,50,55,51,55,52,55,53,55,54,55,55,55,56,55,57,56,48,56,49,56,50,56,51,56,52,56,53,56,54,56,55,56,56,56,57,57,48,57,49,57,50,57,51,57,52,57,53,57,54,57,55,57,56,57,57])) (t e.a.c.a.c)) 512 10,O e.a.c.b.a (.indexSlc 1 (t e.a.b.c.b) (t e.a.b.c.f)) 455 11,⟨none,.store 1 (t e.a.c.b.a) (t e.a.c.a.b),none,2503,12⟩,O e.a.c.b.b (.indexSlc 1 (t e.a.b.f.a) (t e.a.b.f.c)) 8191 13,⟨none,.store 1 (t e.a.c.b.b) (t e.a.c.a.f),none,16383,14⟩]).seq ((regD [m e.a.c.b.c e 0,m e.a.c.b.f e.f 1,O e.a.c.c.a (.bin .num .sub (t e.a.c.b.f) (k 3)) 2 2,m e.a.c.c.b e 3,m e.a.c.c.c e.f 4,O e.a.c.c.f (.bin .num .sub (t e.a.c.c.c) (k 4)) 16 5,m e.a.c.f.a e.c.b 6,O e.a.c.f.b (.bin .num .add (t e.a.c.f.a) (.const (.int .u32 (.lit 1)))) 64 7,O e.a.c.f.c (.indexStr (.const (.str [48,48,48,49,48,50,48,51,48,52,48,53,48,54,48,55,48,56,48,57,49,48,49,49,49,50,49,51,49,52,49,53,49,54,49,55,49,56,49,57,50,48,50,49,50,50,50,51,50,52,50,53,50,54,50,55,50,56,50,57,51,48,51,49,51,50,51,51,51,52,51,53,51,54,51,55,51,56,51,57,52,48,52,49,52,50,52,51,52,52,52,53,52,54,52,55,52,56,52,57,53,48,53,49,53,50,53,51,53,52,53,53,53,54,53,55,53,56,53,57,54,48,54,49,54,50,54,51,54,52,54,53,54,54,54,55,54,56,54,57,55,48,55,49,55,50,55,51,55,52,55,53,55,54,55,55,55,56,55,57,56,48,56,49,56,50,56,51,56,52,56,53,56,54,56,55,56,56,56,57,57,48,57,49,57,50,57,51,57,52,57,53,57,54,57,55,57,56,57,57])) (t e.a.c.f.b)) 192 8,m e.a.c.f.f e.c.b 9,O e.a.f.a.a (.indexStr (.const (.str [48,48,48,49,48,50,48,51,48,52,48,53,48,54,48,55,48,56,48,57,49,48,49,49,49,50,49,51,49,52,49,53,49,54,49,55,49,56,49,57,50,48,50,49,50,50,50,51,50,52,50,53,50,54,50,55,50,56,50,57,51,48,51,49,51,50,51,51,51,52,51,53,51,54,51,55,51,56,51,57,52,48,52,49,52,50,52,51,52,52,52,53,52,54,52,55,52,56,52,57,53,48,53,49,53,50,53,51,53,52,53,53,53,54,53,55,53,56,53,57,54,48,54,49,54,50,54,51,54,52,54,53,54,54,54,55,54,56,54,57,55,48,55,49,55,50,55,51,55,52,55,53,55,54,55,55,55,56,55,57,56,48,56,49,56,50,56,51,56,52,56,53,56,54,56,55,56,56,56,57,57,48,57,49,57,50,57,51,57,52,57,53,57,54,57,55,57,56,57,57])) (t e.a.c.f.f)) 512 10,O e.a.f.a.b (.indexSlc 1 (t e.a.c.b.c) (t e.a.c.c.a)) 455 11,⟨none,.store 1 (t e.a.f.a.b) (t e.a.c.f.c),none,2503,12⟩,O e.a.f.a.c (.indexSlc 1 (t e.a.c.c.b) (t e.a.c.c.f)) 8191 13,⟨none,.store 1 (t e.a.f.a.c) (t e.a.f.a.a),none,16383,14⟩]).seq (reg [m e.a.f.a.f e.f 0,b e.a.f.b.a .sub (t e.a.f.a.f) (k 4) 1,m e.f e.a.f.b.a 2])))))) NC.skip)).seq (((reg [m e.a.f.b.b e.f 0,b e.a.f.b.c .geq (t e.a.f.b.b) (k 2) 1]).seq (NC.cond (t e.a.f.b.c) ((reg [m e.a.f.b.f e.b.f 0,b e.a.f.c.a .rem (t e.a.f.b.f) (.const (.int .u32 (.lit 100))) 1,b e.a.f.c.b .mul (t e.a.f.c.a) (.const (.int .u32 (.lit 2))) 2,m e.c.f e.a.f.c.b 3]).seq ((reg [m e.a.f.c.c e.b.f 0,b e.a.f.c.f .quo (t e.a.f.c.c) (.const (.int .u32 (.lit 100))) 1,m e.b.f e.a.f.c.f 2]).seq ((regD [m e.a.f.f.a e 0,m e.a.f.f.b e.f 1,O e.a.f.f.c (.bin .num .sub (t e.a.f.f.b) (k 1)) 2 2,m e.a.f.f.f e 3,m e.b.a.a.a e.f 4,O e.b.a.a.b (.bin .num .sub (t e.b.a.a.a) (k 2)) 16 5,m e.b.a.a.c e.c.f 6,O e.b.a.a.f (.bin .num .add (t e.b.a.a.c) (.const (.int .u32 (.lit 1)))) 64 7,O e.b.a.b.a (.indexStr (.const (.str [48,48,48,49,48,50,48,51,48,52,48,53,48,54,48,55,48,56,48,57,49,48,49,49,49,50,49,51,49,52,49,53,49,54,49,55,49,56,49,57,50,48,50,49,50,50,50,51,50,52,50,53,50,54,50,55,50,56,50,57,51,48,51,49,51,50,51,51,51,52,51,53,51,54,51,55,51,56,51,57,52,48,52,49,52,50,52,51,52,52,52,53,52,54,52,55,52,56,52,57,53,48,53,49,53,50,53,51,53,52,53,53,53,54,53,55,53,56,53,57,54,48,54,49,54,50,54,51,54,52,54,53,54,54,54,55,54,56,54,57,55,48,55,49,55,50,55,51,55,52,55,53,55,54,55,55,55,56,55,57,56,48,56,49,56,50,56,51,56,52,56,53,56,54,56,55,56,56,56,57,57,48,57,49,57,50,57,51,57,52,57,53,57,54,57,55,57,56,57,57])) (t e.b.a.a.f)) 192 8,m e.b.a.b.b e.c.f 9,O e.b.a.b.c (.indexStr (.const (.str [48,48,48,49,48,50,48,51,48,52,48,53,48,54,48,55,48,56,48,57,49,48,49,49,49,50,49,51,49,52,49,53,49,54,49,55,49,56,49,57,50,48,50,49,50,50,50,51,50,52,50,53,50,54,50,55,50,56,50,57,51,48,51,49,51,50,51,51,51,52,51,53,51,54,51,55,51,56,51,57,52,48,52,49,52,50,52,51,52,52,52,53,52,54,52,55,52,56,52,57,53,48,53,49,53,50,53,51,53,52,53,53,53,54,53,55,53,56,53,57,54,48,54,49,54,50,54,51,54,52,54,53,54,54,54,55,54,56,54,57,55,48,55,49,55,50,55,51,55,52,55,53,55,54,55,55,55,56,55,57,56,48,56,49,56,50,56,51,56,52,56,53,56,54,56,55,56,56,56,57,57,48,57,49,57,50,57,51,57,52,57,53,57,54,57,55,57,56,57,57])) (t e.b.a.b.b)) 512 10,O e.b.a.b.f (.indexSlc 1 (t e.a.f.f.a) (t e.a.f.f.c)) 455 11,⟨none,.store 1 (t e.b.a.b.f) (t e.b.a.b.a),none,2503,12⟩,O e.b.a.c.a (.indexSlc 1 (t e.a.f.f.f) (t e.b.a.a.b)) 8191 13,⟨none,.store 1 (t e.b.a.c.a) (t e.b.a.b.c),none,16383,14⟩]).seq (reg [m e.b.a.c.b e.f 0,b e.b.a.c.c .sub (t e.b.a.c.b) (k 2) 1,m e.f e.b.a.c.c 2])))) NC.skip)).seq ((reg [m e.b.a.c.f e.f 0,b e.b.a.f.a .gtr (t e.b.a.c.f) (k 0) 1]).seq (NC.cond (t e.b.a.f.a) (reg [m e.b.a.f.b e 0,m e.b.a.f.c e.b.f 1,b e.b.a.f.f .add (.const (.int .u32 (.lit 48))) (t e.b.a.f.c) 2,o e.b.b.a.a (.toInt .u8 (t e.b.a.f.f)) 3,o e.b.b.a.b (.indexSlc 1 (t e.b.a.f.b) (k 0)) 4,q (.store 1 (t e.b.b.a.b) (t e.b.b.a.a)) 5]) NC.skip)))))),167, []⟩
theorem sh:ai Tryd.prog 45=some (.code wt):=by kernel_rfl
noncomputable def sq:NC:=(((reg [m e.b.b.f e.a 0,m e.b.c.a e.c.c 1,b e.b.c.b .geq (t e.b.b.f) (t e.b.c.a) 2]).seq (NC.cond (t e.b.c.b) NC.skip (NC.exit 0))).seq (NC.block 1 ((reg [m e.b.c.c e.c.a 0,b e.b.c.f .sub (t e.b.c.c) (k 1) 1,m e.c.a e.b.c.f 2]).seq ((reg [m e.b.f.a e.c.a 0,m e.b.f.b e.a 1,m e.b.f.c e.c.f 2,b e.b.f.f .and (t e.b.f.b) (t e.b.f.c) 3,o e.c.a.a (.indexStr (.const (.str [48,49,50,51,52,53,54,55,56,57,97,98,99,100,101,102,103,104,105,106,107,108,109,110,111,112,113,114,115,116,117,118,119,120,121,122])) (t e.b.f.f)) 4,o e.c.a.b (.indexArr 1 65 (t e.b.f) (t e.b.f.a)) 5,q (.store 1 (t e.c.a.b) (t e.c.a.a)) 6]).seq (reg [m e.c.a.c e.a 0,m e.c.a.f e.c.b 1,b e.c.b.a .shr (t e.c.a.c) (t e.c.a.f) 2,m e.a e.c.b.a 3])))))
noncomputable def sX:NC:=(((reg [m e.c.f.b e.a 0,m e.c.f.c e.f.a 1,b e.c.f.f .geq (t e.c.f.b) (t e.c.f.c) 2]).seq (NC.cond (t e.c.f.f) NC.skip (NC.exit 2))).seq (NC.block 3 ((reg [m e.f.a.a e.c.a 0,b e.f.a.b .sub (t e.f.a.a) (k 1) 1,m e.c.a e.f.a.b 2]).seq ((reg [m e.f.a.c e.a 0,m e.f.a.f e.f.a 1,b e.f.b.a .quo (t e.f.a.c) (t e.f.a.f) 2,m e.f.b e.f.b.a 3]).seq ((reg [m e.f.b.b e.c.a 0,m e.f.b.c e.a 1,m e.f.b.f e.f.b 2,m e.f.c.a e.f.a 3,b e.f.c.b .mul (t e.f.b.f) (t e.f.c.a) 4,b e.f.c.c .sub (t e.f.b.c) (t e.f.c.b) 5,o e.f.c.f (.indexStr (.const (.str [48,49,50,51,52,53,54,55,56,57,97,98,99,100,101,102,103,104,105,106,107,108,109,110,111,112,113,114,115,116,117,118,119,120,121,122])) (t e.f.c.c)) 6,o e.f.f.a (.indexArr 1 65 (t e.b.f) (t e.f.b.b)) 7,q (.store 1 (t e.f.f.a) (t e.f.c.f)) 8]).seq (reg [m e.f.f.b e.f.b 0,m e.a e.f.f.b 1]))))))
noncomputable def vk:NFun:=⟨(reg [o e.b.b (.move kn) 0,o e.b.c (.move (.const (.str []))) 1]).seq (((reg [m e.f.c e.b 0,b e.f.f .lss (t e.f.c) (k 2) 1,m e.a.a.a e.f.f 2,G e.a.a.b (.move (t e.b)) e.a.a.a false 3,G e.a.a.c (.bin .num .eql (t e.a.a.b) (k 10)) e.a.a.a false 4,o e.a.a.f (.pick (t e.a.a.a) kt (t e.a.a.c)) 5,m e.a.b.a e.a.a.f 6,G e.a.b.b (.move (t e.b)) e.a.b.a false 7,G e.a.b.c (.bin .num .gtr (t e.a.b.b) (k 36)) e.a.b.a false 8,o e.a.b.f (.pick (t e.a.b.a) kt (t e.a.b.c)) 9]).seq (NC.cond (t e.a.b.f) (reg [o e.a.c.a (.mkIfc 9 (.const (.str [115,116,114,99,111,110,118,58,32,105,108,108,101,103,97,108,32,65,112,112,101,110,100,73,110,116,47,70,111,114,109,97,116,73,110,116,32,98,97,115,101]))) 0,q (.panic (t e.a.c.a)) 1]) NC.skip)).seq ((reg [o e.b.f (.alloc [.int .u8 (.lit 0),.int .u8 (.lit 0),.int .u8 (.lit 0),.int .u8 (.lit 0),.int .u8 (.lit 0),.int .u8 (.lit 0),.int .u8 (.lit 0),.int .u8 (.lit 0),.int .u8 (.lit 0),.int .u8 (.lit 0),.int .u8 (.lit 0),.int .u8 (.lit 0),.int .u8 (.lit 0),.int .u8 (.lit 0),.int .u8 (.lit 0),.int .u8 (.lit 0),.int .u8 (.lit 0),.int .u8 (.lit 0),.int .u8 (.lit 0),.int .u8 (.lit 0),.int .u8 (.lit 0),.int .u8 (.lit 0),.int .u8 (.lit 0),.int .u8 (.lit 0),.int .u8 (.lit 0),.int .u8 (.lit 0),.int .u8 (.lit 0),.int .u8 (.lit 0),.int .u8 (.lit 0),.int .u8 (.lit 0),.int .u8 (.lit 0),.int .u8 (.lit 0),.int .u8 (.lit 0),.int .u8 (.lit 0),.int .u8 (.lit 0),.int .u8 (.lit 0),.int .u8 (.lit 0),.int .u8 (.lit 0),.int .u8 (.lit 0),.int .u8 (.lit 0),.int .u8 (.lit 0),.int .u8 (.lit 0),.int .u8 (.lit 0),.int .u8 (.lit 0),.int .u8 (.lit 0),.int .u8 (.lit 0),.int .u8 (.lit 0),.int .u8 (.lit 0),.int .u8 (.lit 0),.int .u8 (.lit 0),.int .u8 (.lit 0),.int .u8 (.lit 0),.int .u8 (.lit 0),.int .u8 (.lit 0),.int .u8 (.lit 0),.int .u8 (.lit 0),.int .u8 (.lit 0),.int .u8 (.lit 0),.int .u8 (.lit 0),.int .u8 (.lit 0),.int .u8 (.lit 0),.int .u8 (.lit 0),.int .u8 (.lit 0),.int .u8 (.lit 0),.int .u8 (.lit 0)] 129) 0]).seq ((reg [o e.c.a (.move (k 65)) 0]).seq (((reg [m e.a.c.b e.c 0]).seq (NC.cond (t e.a.c.b) (reg [m e.a.c.c e.a 0,o e.a.c.f (.un .neg (t e.a.c.c)) 1,m e.a e.a.c.f 2]) NC.skip)).seq (((reg [m e.a.f.a e.b 0,o e.a.f.b (.call (F 69) [t e.a.f.a]) 1]).seq (NC.cond (t e.a.f.b) ((reg [m e.a.f.c e.b 0,o e.a.f.f (.toInt .u64 (t e.a.f.c)) 1,o e.b.a.a (.call (F 70) [t e.a.f.f]) 2,o e.b.a.b (.toInt .u64 (t e.b.a.a)) 3,m e.c.b e.b.a.b 4]).seq ((reg [m e.b.a.c e.b 0,o e.b.a.f (.toInt .u64 (t e.b.a.c)) 1,m e.c.c e.b.a.f 2]).seq ((reg [m e.b.b.a e.b 0,o e.b.b.b (.toInt .u64 (t e.b.b.a)) 1,b e.b.b.c .sub (t e.b.b.b) (ku 1) 2,m e.c.f e.b.b.c 3]).seq ((NC.block 0 sq.loop).seq ((reg [m e.c.b.b e.c.a 0,b e.c.b.c .sub (t e.c.b.b) (k 1) 1,m e.c.a e.c.b.c 2]).seq (reg [m e.c.b.f e.c.a 0,m e.c.c.a e.a 1,o e.c.c.b (.indexStr (.const (.str [48,49,50,51,52,53,54,55,56,57,97,98,99,100,101,102,103,104,105,106,107,108,109,110,111,112,113,114,115,116,117,118,119,120,121,122])) (t e.c.c.a)) 2,o e.c.c.c (.indexArr 1 65 (t e.b.f) (t e.c.b.f)) 3,q (.store 1 (t e.c.c.c) (t e.c.c.b)) 4])))))) ((reg [m e.c.c.f e.b 0,o e.c.f.a (.toInt .u64 (t e.c.c.f)) 1,m e.f.a e.c.f.a 2]).seq ((NC.block 2 sX.loop).seq ((reg [m e.f.f.c e.c.a 0,b e.f.f.f .sub (t e.f.f.c) (k 1) 1,m e.c.a e.f.f.f 2]).seq (reg [m e.a.a.a.a e.c.a 0,m e.a.a.a.b e.a 1,o e.a.a.a.c (.indexStr (.const (.str [48,49,50,51,52,53,54,55,56,57,97,98,99,100,101,102,103,104,105,106,107,108,109,110,111,112,113,114,115,116,117,118,119,120,121,122])) (t e.a.a.a.b)) 2,o e.a.a.a.f (.indexArr 1 65 (t e.b.f) (t e.a.a.a.a)) 3,q (.store 1 (t e.a.a.a.f) (t e.a.a.a.c)) 4])))))).seq (((reg [m e.a.a.b.a e.c 0]).seq (NC.cond (t e.a.a.b.a) ((reg [m e.a.a.b.b e.c.a 0,b e.a.a.b.c .sub (t e.a.a.b.b) (k 1) 1,m e.c.a e.a.a.b.c 2]).seq (reg [m e.a.a.b.f e.c.a 0,o e.a.a.c.a (.indexArr 1 65 (t e.b.f) (t e.a.a.b.f)) 1,q (.store 1 (t e.a.a.c.a) (kb 45)) 2])) NC.skip)).seq (((reg [m e.a.a.c.b e.f 0]).seq (NC.cond (t e.a.a.c.b) ((reg [m e.a.a.c.c e 0,m e.a.a.c.f e.c.a 1,o e.a.a.f.a (.fail) 2,o e.a.a.f.b (.append 1 1 5 (t e.a.a.c.c) (t e.a.a.f.a)) 3,m e.b.b e.a.a.f.b 4]).seq NC.ret) NC.skip)).seq ((reg [m e.a.a.f.c e.c.a 0,o e.a.a.f.f (.fail) 1,o e.a.b.a.a (.bytesToStr (t e.a.a.f.f)) 2,m e.b.c e.a.b.a.a 3]).seq NC.ret)))))))),102, [.tmp e.b.b,.tmp e.b.c]⟩
theorem rN:ai Tryd.prog 46=some (.code vk):=by kernel_rfl
noncomputable def tz:NC:=(((reg [m e.a.c e.a 0,m e.a.f e 1,o e.b.a (.lenStr (t e.a.f)) 2,b e.b.b .lss (t e.a.c) (t e.b.a) 3,m e.b.c e.b.b 4,G e.b.f (.move (t e.b)) e.b.c true 5,G e.c.a (.move (t e)) e.b.c true 6,G e.c.b (.move (t e.a)) e.b.c true 7,G e.c.c (.indexStr (t e.c.a) (t e.c.b)) e.b.c true 8,G e.c.f (.call (t e.b.f) [t e.c.c]) e.b.c true 9,o e.f.a (.pick (t e.b.c) (t e.c.f) kf) 10]).seq (NC.cond (t e.f.a) NC.skip (NC.exit 0))).seq (NC.block 1 (reg [m e.f.b e.a 0,b e.f.c .add (t e.f.b) (k 1) 1,m e.a e.f.c 2])))
noncomputable def wR:NFun:=⟨(reg [o e.a.b (.move (k 0)) 0]).seq ((NC.block 0 tz.loop).seq ((reg [m e.f.f e.a 0,m e.a.b e.f.f 1]).seq NC.ret)),21, [.tmp e.a.b]⟩
theorem sS:ai Tryd.prog 47=some (.code wR):=by kernel_rfl
noncomputable def vV:NFun:=⟨(reg [o e.b (.move kf) 0]).seq ((reg [m e.c e 0,b e.f .eql (t e.c) (kb 32) 1,m e.a.a e.f 2,G e.a.b (.move (t e)) e.a.a false 3,G e.a.c (.bin .num .eql (t e.a.b) (kb 9)) e.a.a false 4,o e.a.f (.pick (t e.a.a) kt (t e.a.c)) 5,m e.b.a e.a.f 6,G e.b.b (.move (t e)) e.b.a false 7,G e.b.c (.bin .num .eql (t e.b.b) (kb 10)) e.b.a false 8,o e.b.f (.pick (t e.b.a) kt (t e.b.c)) 9,m e.c.a e.b.f 10,G e.c.b (.move (t e)) e.c.a false 11,G e.c.c (.bin .num .eql (t e.c.b) (kb 13)) e.c.a false 12,o e.c.f (.pick (t e.c.a) kt (t e.c.c)) 13,m e.b e.c.f 14]).seq NC.ret),17, [.tmp e.b]⟩
theorem r6:ai Tryd.prog 48=some (.code vV):=by kernel_rfl
noncomputable def vP:NFun:=⟨(reg [o e.b (.move kf) 0]).seq ((reg [m e.c e 0,b e.f .neq (t e.c) (kb 10) 1,m e.b e.f 2]).seq NC.ret),5, [.tmp e.b]⟩
theorem rW:ai Tryd.prog 49=some (.code vP):=by kernel_rfl
noncomputable def vX:NFun:=⟨(reg [o e.b (.move kf) 0]).seq ((reg [m e.c e 0,b e.f .geq (t e.c) (kb 97) 1,m e.a.a e.f 2,G e.a.b (.move (t e)) e.a.a true 3,G e.a.c (.bin .num .leq (t e.a.b) (kb 122)) e.a.a true 4,o e.a.f (.pick (t e.a.a) (t e.a.c) kf) 5,m e.b e.a.f 6]).seq NC.ret),9, [.tmp e.b]⟩
theorem rI:ai Tryd.prog 50=some (.code vX):=by kernel_rfl
noncomputable def vW:NFun:=⟨(reg [o e.b (.move kf) 0]).seq ((reg [m e.c e 0,o e.f (.call (F 50) [t e.c]) 1,m e.a.a e.f 2,G e.a.b (.move (t e)) e.a.a false 3,G e.a.c (.call (F 55) [t e.a.b]) e.a.a false 4,o e.a.f (.pick (t e.a.a) kt (t e.a.c)) 5,m e.b.a e.a.f 6,G e.b.b (.move (t e)) e.b.a false 7,G e.b.c (.bin .num .eql (t e.b.b) (kb 95)) e.b.a false 8,o e.b.f (.pick (t e.b.a) kt (t e.b.c)) 9,m e.b e.b.f 10]).seq NC.ret),13, [.tmp e.b]⟩
theorem th:ai Tryd.prog 51=some (.code vW):=by kernel_rfl
noncomputable def ve:NFun:=⟨(reg [o e.f (.move kf) 0]).seq ((reg [m e.a.a e 0,m e.a.b e.a 1,o e.a.c (.call (F 71) [t e.a.a,t e.a.b]) 2,b e.a.f .geq (t e.a.c) (k 0) 3,m e.f e.a.f 4]).seq NC.ret),9, [.tmp e.f]⟩
theorem sy:ai Tryd.prog 52=some (.code ve):=by kernel_rfl
noncomputable def vT:NFun:=⟨(reg [o e (.move kn) 0]).seq ((reg [o e.a (.buildSlice [.str [],.str [],.str [],.str [],.str [],.str [],.str [],.str [],.str [],.str [],.str [],.str []] 1 12 9 [(0,1,.const (.str [99,101,108,108])),(1,1,.const (.str [116,104,114,101,97,100])),(2,1,.const (.str [114,101,99,111,118,101,114])),(3,1,.const (.str [115,101,116])),(4,1,.const (.str [108,111,97,100])),(5,1,.const (.str [115,116,111,114,101])),(6,1,.const (.str [99,97,115])),(7,1,.const (.str [102,101,110,99,101])),(8,1,.const (.str [111,117,116])),(9,1,.const (.str [105,102])),(10,1,.const (.str [101,108,115,101])),(11,1,.const (.str [119,104,105,108,101]))]) 0,m e e.a 1]).seq NC.ret),2, [.tmp e]⟩
theorem si:ai Tryd.prog 53=some (.code vT):=by kernel_rfl
noncomputable def vZ:NFun:=⟨(reg [o e.b (.move kf) 0]).seq (((reg [m e.c e 0,b e.f .eql (t e.c) (.const (.str [])) 1,m e.a.a e.f 2,G e.a.b (.move (t e)) e.a.a false 3,G e.a.c (.lenStr (t e.a.b)) e.a.a false 4,G e.a.f (.bin .num .gtr (t e.a.c) (k 16)) e.a.a false 5,o e.b.a (.pick (t e.a.a) kt (t e.a.f)) 6,m e.b.b e.b.a 7,G e.b.c (.move (t e)) e.b.b false 8,G e.b.f (.indexStr (t e.b.c) (k 0)) e.b.b false 9,G e.c.a (.call (F 50) [t e.b.f]) e.b.b false 10,G e.c.b (.un .not (t e.c.a)) e.b.b false 11,o e.c.c (.pick (t e.b.b) kt (t e.c.b)) 12,m e.c.f e.c.c 13,G e.f.a (.call (F 53) []) e.c.f false 14,G e.f.b (.move (t e)) e.c.f false 15,G e.f.c (.call (F 52) [t e.f.a,t e.f.b]) e.c.f false 16,o e.f.f (.pick (t e.c.f) kt (t e.f.c)) 17]).seq (NC.cond (t e.f.f) ((reg [o e.b (.move kf) 0]).seq NC.ret) NC.skip)).seq ((reg [m e.a.a.a e 0,o e.a.a.b (.call (F 47) [t e.a.a.a,k 0,.const (.fn 51 [])]) 1,m e.a.a.c e 2,o e.a.a.f (.lenStr (t e.a.a.c)) 3,b e.a.b.a .eql (t e.a.a.b) (t e.a.a.f) 4,m e.b e.a.b.a 5]).seq NC.ret)),26, [.tmp e.b]⟩
theorem rB:ai Tryd.prog 54=some (.code vZ):=by kernel_rfl
noncomputable def we:NFun:=⟨(reg [o e.b (.move kf) 0]).seq ((reg [m e.c e 0,b e.f .geq (t e.c) (kb 48) 1,m e.a.a e.f 2,G e.a.b (.move (t e)) e.a.a true 3,G e.a.c (.bin .num .leq (t e.a.b) (kb 57)) e.a.a true 4,o e.a.f (.pick (t e.a.a) (t e.a.c) kf) 5,m e.b e.a.f 6]).seq NC.ret),9, [.tmp e.b]⟩
theorem tL:ai Tryd.prog 55=some (.code we):=by kernel_rfl
noncomputable def sJ:NC:=((reg [b e.a.a.a .lss (t e.f.f) (t e.f.c) 0]).seq ((NC.cond (t e.a.a.a) NC.skip (NC.exit 0)).seq ((NC.block 1 ((reg [m e.a.a.b e.f.f 0,m e.a.a e.a.a.b 1]).seq ((reg [m e.a.a.f e.f 0,o e.a.b.a (.call (F 63) [t e.a.a.f,ku 10]) 1,m e.a.a.c e.a.b.a 2,x e.a.b.b e.a.a.c 0 3,x e.a.b.c e.a.a.c 1 4,m e.a.b e.a.b.b 5,m e.a.c e.a.b.c 6]).seq ((reg [m e.a.c.a e.a.c 0,m e.a.c.b e 1,m e.a.c.c e.a.a 2,o e.a.c.f (.indexStr (t e.a.c.b) (t e.a.c.c)) 3,b e.a.f.a .sub (t e.a.c.f) (kb 48) 4,o e.a.f.b (.toInt .u64 (t e.a.f.a)) 5,o e.a.f.c (.call (F 72) [t e.a.c.a,t e.a.f.b,ku 0]) 6,m e.a.b.f e.a.f.c 7,x e.a.f.f e.a.b.f 0 8,x e.b.a.a e.a.b.f 1 9,m e.a.f e.a.f.f 10,m e.b.a e.b.a.a 11]).seq (((reg [m e.b.a.b e.a.b 0,m e.b.a.c e.b.a 1,b e.b.a.f .add (t e.b.a.b) (t e.b.a.c) 2,b e.b.b.a .gtr (t e.b.a.f) (ku 0) 3]).seq (NC.cond (t e.b.b.a) ((reg [o e.b (.move (ku 0)) 0,o e.c (.move kf) 1]).seq NC.ret) NC.skip)).seq (reg [m e.b.b.b e.a.f 0,m e.f e.b.b.b 1])))))).seq (reg [b e.b.b.c .add (t e.f.f) (k 1) 0,m e.f.f e.b.b.c 1]))))
noncomputable def wC:NFun:=⟨(reg [o e.b (.move (ku 0)) 0,o e.c (.move kf) 1]).seq (((reg [m e.b.b e 0,o e.b.c (.lenStr (t e.b.b)) 1,b e.b.f .gtr (t e.b.c) (k 1) 2,m e.c.a e.b.f 3,G e.c.b (.move (t e)) e.c.a true 4,G e.c.c (.indexStr (t e.c.b) (k 0)) e.c.a true 5,G e.c.f (.bin .num .eql (t e.c.c) (kb 48)) e.c.a true 6,o e.f.a (.pick (t e.c.a) (t e.c.f) kf) 7]).seq (NC.cond (t e.f.a) ((reg [o e.b (.move (ku 0)) 0,o e.c (.move kf) 1]).seq NC.ret) NC.skip)).seq ((reg [o e.f (.move (ku 0)) 0]).seq (((reg [m e.f.b e 0,o e.f.c (.lenStr (t e.f.b)) 1,o e.f.f (.move (k 0)) 2]).seq (NC.block 0 sJ.loop)).seq ((reg [m e.b.b.f e.f 0,m e.b e.b.b.f 1,o e.c (.move kt) 2]).seq NC.ret)))),45, [.tmp e.b,.tmp e.c]⟩
theorem ry:ai Tryd.prog 56=some (.code wC):=by kernel_rfl
noncomputable def vn:NFun:=⟨(reg [o e.f (.move kf) 0]).seq ((reg [m e.a.a e 0,m e.a.b e.a 1,o e.a.c (.call (F 73) [t e.a.a,t e.a.b]) 2,b e.a.f .geq (t e.a.c) (k 0) 3,m e.f e.a.f 4]).seq NC.ret),9, [.tmp e.f]⟩
theorem rm:ai Tryd.prog 57=some (.code vn):=by kernel_rfl
noncomputable def vS:NFun:=⟨(reg [o e.b (.alloc [.int .i64 (.lit 0),.int .u64 (.lit 0),.int .u8 (.lit 0),.str [],.nils] 40) 0]).seq ((reg [m e.c e 0,o e.f (.call (F 74) [t e.c,k 0]) 1,o e.a.a (.fieldN 0 5 (t e.f)) 2,q (.store 5 (t e.b) (t e.a.a)) 3]).seq NC.ret),6, [.cellN e.b 5]⟩
theorem rT:ai Tryd.prog 58=some (.code vS):=by kernel_rfl
noncomputable def wB:NFun:=⟨NC.block 0 ((reg [m e.a.c e 0,o e.a.f (.call (F 20) [t e.a.c,k 4,.const (.str [115,101,116])]) 1,m e.a.b e.a.f 2]).seq (NC.cond (t e.a.b) ((reg [m e.b.a e.a 0,m e.b.b e.a 1,m e.b.c e 2,o e.b.f (.call (F 22) [t e.b.c,k 1]) 3,o e.c.a (.field1 1 (t e.b.f)) 4,n e.c.b e.b.a 5,f 0 e.c.c e.c.b 6,q (.store 1 (t e.c.c) (k 0)) 7,n e.c.f e.b.b 8,f 2 e.f.a e.c.f 9,q (.store 1 (t e.f.a) (t e.c.a)) 10]).seq (reg [m e.f.b e.a 0,m e.f.c e 1,o e.f.f (.call (F 58) [t e.f.c]) 2,n e.a.a.a e.f.b 3,f 9 e.a.a.b e.a.a.a 4,q (.store 5 (t e.a.a.b) (t e.f.f)) 5])) ((reg [m e.a.a.f e 0,o e.a.b.a (.call (F 20) [t e.a.a.f,k 4,.const (.str [108,111,97,100])]) 1,m e.a.a.c e.a.b.a 2]).seq (NC.cond (t e.a.a.c) ((reg [m e.a.b.b e.a 0,m e.a.b.c e.a 1,m e.a.b.f e 2,o e.a.c.a (.call (F 22) [t e.a.b.f,k 1]) 3,o e.a.c.b (.field1 1 (t e.a.c.a)) 4,n e.a.c.c e.a.b.b 5,f 0 e.a.c.f e.a.c.c 6,q (.store 1 (t e.a.c.f) (k 1)) 7,n e.a.f.a e.a.b.c 8,f 2 e.a.f.b e.a.f.a 9,q (.store 1 (t e.a.f.b) (t e.a.c.b)) 10]).seq (reg [m e.a.f.c e 0,m e.a.f.f e.a 1,o e.b.a.a (.call (F 75) [t e.a.f.c,t e.a.f.f]) 2])) ((reg [m e.b.a.c e 0,o e.b.a.f (.call (F 20) [t e.b.a.c,k 4,.const (.str [115,116,111,114,101])]) 1,m e.b.a.b e.b.a.f 2]).seq (NC.cond (t e.b.a.b) ((reg [m e.b.b.a e.a 0,n e.b.b.b e.b.b.a 1,f 0 e.b.b.c e.b.b.b 2,q (.store 1 (t e.b.b.c) (k 2)) 3]).seq ((reg [m e.b.b.f e 0,m e.b.c.a e.a 1,o e.b.c.b (.call (F 75) [t e.b.b.f,t e.b.c.a]) 2]).seq (reg [m e.b.c.c e.a 0,m e.b.c.f e 1,o e.b.f.a (.call (F 58) [t e.b.c.f]) 2,n e.b.f.b e.b.c.c 3,f 9 e.b.f.c e.b.f.b 4,q (.store 5 (t e.b.f.c) (t e.b.f.a)) 5]))) ((reg [m e.c.a.a e 0,o e.c.a.b (.call (F 20) [t e.c.a.a,k 4,.const (.str [99,97,115])]) 1,m e.b.f.f e.c.a.b 2]).seq (NC.cond (t e.b.f.f) ((reg [m e.c.a.c e.a 0,m e.c.a.f e.a 1,m e.c.b.a e 2,o e.c.b.b (.call (F 22) [t e.c.b.a,k 1]) 3,o e.c.b.c (.field1 1 (t e.c.b.b)) 4,n e.c.b.f e.c.a.c 5,f 0 e.c.c.a e.c.b.f 6,q (.store 1 (t e.c.c.a) (k 3)) 7,n e.c.c.b e.c.a.f 8,f 2 e.c.c.c e.c.c.b 9,q (.store 1 (t e.c.c.c) (t e.c.b.c)) 10]).seq ((reg [m e.c.c.f e 0,m e.c.f.a e.a 1,o e.c.f.b (.call (F 75) [t e.c.c.f,t e.c.f.a]) 2]).seq ((reg [m e.c.f.c e.a 0,m e.c.f.f e 1,o e.f.a.a (.call (F 58) [t e.c.f.f]) 2,n e.f.a.b e.c.f.c 3,f 9 e.f.a.c e.f.a.b 4,q (.store 5 (t e.f.a.c) (t e.f.a.a)) 5]).seq (reg [m e.f.a.f e.a 0,m e.f.b.a e 1,o e.f.b.b (.call (F 58) [t e.f.b.a]) 2,n e.f.b.c e.f.a.f 3,f 14 e.f.b.f e.f.b.c 4,q (.store 5 (t e.f.b.f) (t e.f.b.b)) 5])))) ((reg [m e.f.c.b e 0,o e.f.c.c (.call (F 20) [t e.f.c.b,k 4,.const (.str [102,101,110,99,101])]) 1,m e.f.c.a e.f.c.c 2]).seq (NC.cond (t e.f.c.a) (reg [m e.f.c.f e.a 0,n e.f.f.a e.f.c.f 1,f 0 e.f.f.b e.f.f.a 2,q (.store 1 (t e.f.f.b) (k 4)) 3]) ((reg [m e.f.f.f e 0,o e.a.a.a.a (.call (F 20) [t e.f.f.f,k 4,.const (.str [111,117,116])]) 1,m e.f.f.c e.a.a.a.a 2]).seq (NC.cond (t e.f.f.c) (reg [m e.a.a.a.b e.a 0,m e.a.a.a.c e.a 1,m e.a.a.a.f e 2,o e.a.a.b.a (.call (F 58) [t e.a.a.a.f]) 3,n e.a.a.b.b e.a.a.a.b 4,f 0 e.a.a.b.c e.a.a.b.b 5,q (.store 1 (t e.a.a.b.c) (k 5)) 6,n e.a.a.b.f e.a.a.a.c 7,f 9 e.a.a.c.a e.a.a.b.f 8,q (.store 5 (t e.a.a.c.a) (t e.a.a.b.a)) 9]) (reg [m e.f e 0,o e.a.a (.call (F 25) [t e.f,k 2]) 1]))))))))))))),94, []⟩
theorem sa:ai Tryd.prog 59=some (.code wB):=by kernel_rfl
noncomputable def wK:NFun:=⟨(reg [o e.f (.move (.const (.str []))) 0]).seq (((reg [m e.b.b e.a 0,b e.b.c .eql (t e.b.b) (k 10) 1]).seq (NC.cond (t e.b.c) (((reg [m e.b.f e 0,b e.c.a .leq (k 0) (t e.b.f) 1,m e.c.b e.c.a 2,G e.c.c (.move (t e)) e.c.b true 3,G e.c.f (.bin .num .lss (t e.c.c) (k 100)) e.c.b true 4,o e.f.a (.pick (t e.c.b) (t e.c.f) kf) 5]).seq (NC.cond (t e.f.a) ((reg [m e.f.b e 0,o e.f.c (.call (F 43) [t e.f.b]) 1,m e.f e.f.c 2]).seq NC.ret) NC.skip)).seq ((reg [o e.a.a (.alloc [.int .u8 (.lit 0),.int .u8 (.lit 0),.int .u8 (.lit 0),.int .u8 (.lit 0),.int .u8 (.lit 0),.int .u8 (.lit 0),.int .u8 (.lit 0),.int .u8 (.lit 0),.int .u8 (.lit 0),.int .u8 (.lit 0),.int .u8 (.lit 0),.int .u8 (.lit 0),.int .u8 (.lit 0),.int .u8 (.lit 0),.int .u8 (.lit 0),.int .u8 (.lit 0),.int .u8 (.lit 0),.int .u8 (.lit 0),.int .u8 (.lit 0),.int .u8 (.lit 0),.int .u8 (.lit 0),.int .u8 (.lit 0),.int .u8 (.lit 0),.int .u8 (.lit 0)] 103) 0]).seq ((reg [m e.f.f e 0,o e.a.a.a (.toInt .u64 (t e.f.f)) 1,m e.a.b e.a.a.a 2]).seq (((reg [m e.a.a.b e 0,b e.a.a.c .lss (t e.a.a.b) (k 0) 1]).seq (NC.cond (t e.a.a.c) (reg [m e.a.a.f e.a.b 0,o e.a.b.a (.un .neg (t e.a.a.f)) 1,m e.a.b e.a.b.a 2]) NC.skip)).seq ((reg [m e.a.b.b e.a.b 0,o e.a.b.c (.call (F 44) [t e.a.b.b]) 1,m e.a.c e.a.b.c 2]).seq ((reg [m e.a.b.f e.a.c 0,b e.a.c.a .add (k 1) (t e.a.b.f) 1,o e.a.c.b (.fail) 2,m e.a.c.c e.a.b 3,o e.a.c.f (.call (F 45) [t e.a.c.b,t e.a.c.c]) 4]).seq (((reg [m e.a.f.a e 0,b e.a.f.b .lss (t e.a.f.a) (k 0) 1]).seq (NC.cond (t e.a.f.b) ((reg [o e.a.f.c (.indexArr 1 24 (t e.a.a) (k 0)) 0,q (.store 1 (t e.a.f.c) (kb 45)) 1]).seq ((reg [m e.a.f.f e.a.c 0,b e.b.a.a .add (k 1) (t e.a.f.f) 1,o e.b.a.b (.fail) 2,o e.b.a.c (.bytesToStr (t e.b.a.b)) 3,m e.f e.b.a.c 4]).seq NC.ret)) NC.skip)).seq ((reg [m e.b.a.f e.a.c 0,b e.b.b.a .add (k 1) (t e.b.a.f) 1,o e.b.b.b (.fail) 2,o e.b.b.c (.bytesToStr (t e.b.b.b)) 3,m e.f e.b.b.c 4]).seq NC.ret)))))))) NC.skip)).seq ((reg [m e.b.c.a e 0,o e.b.c.b (.toInt .u64 (t e.b.c.a)) 1,m e.b.c.c e.a 2,m e.b.c.f e 3,b e.b.f.a .lss (t e.b.c.f) (k 0) 4,o e.b.f.b (.call (F 46) [.const .nils,t e.b.c.b,t e.b.c.c,t e.b.f.a,.const (.bool false)]) 5,m e.b.b.f e.b.f.b 6,x e.b.f.c e.b.b.f 0 7,x e.b.f.f e.b.b.f 1 8,m e.a.f e.b.f.c 9,m e.b.a e.b.f.f 10]).seq ((reg [m e.c.a.a e.b.a 0,m e.f e.c.a.a 1]).seq NC.ret))),54, [.tmp e.f]⟩
theorem rZ:ai Tryd.prog 60=some (.code wK):=by kernel_rfl
noncomputable def vK:NFun:=⟨(reg [o e.f (.move (.const (.int .u32 (.lit 0)))) 0,o e.a.a (.move (.const (.int .u32 (.lit 0)))) 1]).seq ((reg [m e.a.c e 0,o e.a.f (.toInt .u64 (t e.a.c)) 1,m e.b.a e.a 2,o e.b.b (.toInt .u64 (t e.b.a)) 3,b e.b.c .mul (t e.a.f) (t e.b.b) 4,m e.a.b e.b.c 5]).seq ((reg [m e.b.f e.a.b 0,b e.c.a .shr (t e.b.f) (ku 32) 1,o e.c.b (.toInt .u32 (t e.c.a)) 2,m e.c.c e.a.b 3,o e.c.f (.toInt .u32 (t e.c.c)) 4,m e.f e.c.b 5,m e.a.a e.c.f 6]).seq NC.ret)),17, [.tmp e.f,.tmp e.a.a]⟩
theorem rH:ai Tryd.prog 62=some (.code vK):=by kernel_rfl
noncomputable def vc:NFun:=⟨(reg [o e.f (.move (ku 0)) 0,o e.a.a (.move (ku 0)) 1]).seq ((reg [m e.c.b e 0,b e.c.c .and (t e.c.b) (ku 4294967295) 1,m e.a.b e.c.c 2]).seq ((reg [m e.c.f e 0,b e.f.a .shr (t e.c.f) (ku 32) 1,m e.a.c e.f.a 2]).seq ((reg [m e.f.b e.a 0,b e.f.c .and (t e.f.b) (ku 4294967295) 1,m e.a.f e.f.c 2]).seq ((reg [m e.f.f e.a 0,b e.a.a.a .shr (t e.f.f) (ku 32) 1,m e.b.a e.a.a.a 2]).seq ((reg [m e.a.a.b e.a.b 0,m e.a.a.c e.a.f 1,b e.a.a.f .mul (t e.a.a.b) (t e.a.a.c) 2,m e.b.b e.a.a.f 3]).seq ((reg [m e.a.b.a e.a.c 0,m e.a.b.b e.a.f 1,b e.a.b.c .mul (t e.a.b.a) (t e.a.b.b) 2,m e.a.b.f e.b.b 3,b e.a.c.a .shr (t e.a.b.f) (ku 32) 4,b e.a.c.b .add (t e.a.b.c) (t e.a.c.a) 5,m e.b.c e.a.c.b 6]).seq ((reg [m e.a.c.c e.b.c 0,b e.a.c.f .and (t e.a.c.c) (ku 4294967295) 1,m e.b.f e.a.c.f 2]).seq ((reg [m e.a.f.a e.b.c 0,b e.a.f.b .shr (t e.a.f.a) (ku 32) 1,m e.c.a e.a.f.b 2]).seq ((reg [m e.a.f.c e.b.f 0,m e.a.f.f e.a.b 1,m e.b.a.a e.b.a 2,b e.b.a.b .mul (t e.a.f.f) (t e.b.a.a) 3,b e.b.a.c .add (t e.a.f.c) (t e.b.a.b) 4,m e.b.f e.b.a.c 5]).seq ((reg [m e.b.a.f e.a.c 0,m e.b.b.a e.b.a 1,b e.b.b.b .mul (t e.b.a.f) (t e.b.b.a) 2,m e.b.b.c e.c.a 3,b e.b.b.f .add (t e.b.b.b) (t e.b.b.c) 4,m e.b.c.a e.b.f 5,b e.b.c.b .shr (t e.b.c.a) (ku 32) 6,b e.b.c.c .add (t e.b.b.f) (t e.b.c.b) 7,m e.f e.b.c.c 8]).seq ((reg [m e.b.c.f e 0,m e.b.f.a e.a 1,b e.b.f.b .mul (t e.b.c.f) (t e.b.f.a) 2,m e.a.a e.b.f.b 3]).seq NC.ret))))))))))),51, [.tmp e.f,.tmp e.a.a]⟩
theorem tH:ai Tryd.prog 63=some (.code vc):=by kernel_rfl
noncomputable def wg:NFun:=⟨(reg [o e.f (.move kf) 0]).seq ((reg [m e.a.a e 0,o e.a.b (.lenStr (t e.a.a)) 1,m e.a.c e.a 2,o e.a.f (.lenStr (t e.a.c)) 3,b e.b.a .geq (t e.a.b) (t e.a.f) 4,m e.b.b e.b.a 5,G e.b.c (.move (t e)) e.b.b true 6,G e.b.f (.move (t e.a)) e.b.b true 7,G e.c.a (.lenStr (t e.b.f)) e.b.b true 8,G e.c.b (.sliceStr (t e.b.c) none (some (t e.c.a))) e.b.b true 9,G e.c.c (.move (t e.a)) e.b.b true 10,G e.c.f (.bin .num .eql (t e.c.b) (t e.c.c)) e.b.b true 11,o e.f.a (.pick (t e.b.b) (t e.c.f) kf) 12,m e.f e.f.a 13]).seq NC.ret),18, [.tmp e.f]⟩
theorem s7:ai Tryd.prog 64=some (.code wg):=by kernel_rfl
noncomputable def vU:NFun:=⟨(regD [m e.a.a e 0,O e.a.b (.nilCheck (t e.a.a)) 1 1,O e.a.c (.fieldAddr 1 (t e.a.b)) 3 2,O e.a.f (.load1 (t e.a.c)) 7 3,m e.b.c e.a 6,m e.c.b e 9,O e.c.c (.nilCheck (t e.c.b)) 512 10,O e.c.f (.fieldAddr 1 (t e.c.c)) 1536 11,O e.f.a (.load1 (t e.c.f)) 3584 12,O e.f.b (.lenSlc (t e.f.a)) 7680 13,O e.b.a (.fail) 15 4,O e.b.b (.bin .num .mul (k 2) (t e.b.a)) 31 5,O e.b.f (.bin .num .add (t e.b.b) (t e.b.c)) 127 7,O e.c.a (.call (F 76) [t e.b.f]) 255 8,O e.f.c (.sliceSlc 1 (t e.c.a) none (some (t e.f.b))) 16383 14,O e.f (.move (t e.f.c)) 32767 15]).seq ((reg [m e.f.f e.f 0,m e.a.a.a e 1,n e.a.a.b e.a.a.a 2,f 1 e.a.a.c e.a.a.b 3,l e.a.a.f e.a.a.c 4,o e.a.b.a (.copy 1 (t e.f.f) (t e.a.a.f)) 5]).seq (reg [m e.a.b.b e 0,m e.a.b.c e.f 1,n e.a.b.f e.a.b.b 2,f 1 e.a.c.a e.a.b.f 3,q (.store 1 (t e.a.c.a) (t e.a.b.c)) 4])),30, []⟩
theorem sf:ai Tryd.prog 65=some (.code vU):=by kernel_rfl
noncomputable def wZ:NFun:=⟨(reg [o e.b (.move (k 0)) 0]).seq ((reg [m e.c e 0,b e.f .mul (t e.c) (k 78913) 1,b e.a.a .shr (t e.f) (ku 18) 2,m e.b e.a.a 3]).seq NC.ret),6, [.tmp e.b]⟩
theorem sE:ai Tryd.prog 66=some (.code wZ):=by kernel_rfl
noncomputable def wD:NFun:=⟨(reg [o e.b (.move (k 0)) 0]).seq (((reg [m e.c e 0,b e.f .geq (t e.c) (ku 4294967296) 1]).seq (NC.cond (t e.f) ((reg [m e.a.a e 0,b e.a.b .shr (t e.a.a) (ku 32) 1,m e e.a.b 2]).seq (reg [o e.b (.move (k 32)) 0])) NC.skip)).seq (((reg [m e.a.c e 0,b e.a.f .geq (t e.a.c) (ku 65536) 1]).seq (NC.cond (t e.a.f) ((reg [m e.b.a e 0,b e.b.b .shr (t e.b.a) (ku 16) 1,m e e.b.b 2]).seq (reg [m e.b.c e.b 0,b e.b.f .add (t e.b.c) (k 16) 1,m e.b e.b.f 2])) NC.skip)).seq (((reg [m e.c.a e 0,b e.c.b .geq (t e.c.a) (ku 256) 1]).seq (NC.cond (t e.c.b) ((reg [m e.c.c e 0,b e.c.f .shr (t e.c.c) (ku 8) 1,m e e.c.f 2]).seq (reg [m e.f.a e.b 0,b e.f.b .add (t e.f.a) (k 8) 1,m e.b e.f.b 2])) NC.skip)).seq ((reg [m e.f.c e.b 0,m e.f.f e 1,o e.a.a.a (.toInt .u8 (t e.f.f)) 2,o e.a.a.b (.indexStr (.const (.str [0,1,2,2,3,3,3,3,4,4,4,4,4,4,4,4,5,5,5,5,5,5,5,5,5,5,5,5,5,5,5,5,6,6,6,6,6,6,6,6,6,6,6,6,6,6,6,6,6,6,6,6,6,6,6,6,6,6,6,6,6,6,6,6,7,7,7,7,7,7,7,7,7,7,7,7,7,7,7,7,7,7,7,7,7,7,7,7,7,7,7,7,7,7,7,7,7,7,7,7,7,7,7,7,7,7,7,7,7,7,7,7,7,7,7,7,7,7,7,7,7,7,7,7,7,7,7,7,8,8,8,8,8,8,8,8,8,8,8,8,8,8,8,8,8,8,8,8,8,8,8,8,8,8,8,8,8,8,8,8,8,8,8,8,8,8,8,8,8,8,8,8,8,8,8,8,8,8,8,8,8,8,8,8,8,8,8,8,8,8,8,8,8,8,8,8,8,8,8,8,8,8,8,8,8,8,8,8,8,8,8,8,8,8,8,8,8,8,8,8,8,8,8,8,8,8,8,8,8,8,8,8,8,8,8,8,8,8,8,8,8,8,8,8,8,8,8,8,8,8,8,8,8,8,8,8])) (t e.a.a.a)) 3,o e.a.a.c (.toInt .i64 (t e.a.a.b)) 4,b e.a.a.f .add (t e.f.c) (t e.a.a.c) 5,m e.b e.a.a.f 6]).seq NC.ret)))),25, [.tmp e.b]⟩
theorem tK:ai Tryd.prog 67=some (.code wD):=by kernel_rfl
noncomputable def vf:NFun:=⟨(reg [o e.b (.move (k 0)) 0]).seq (((reg [m e.c e 0]).seq (NC.cond (t e.c) ((reg [o e.b (.move (k 1)) 0]).seq NC.ret) NC.skip)).seq ((reg [o e.b (.move (k 0)) 0]).seq NC.ret)),4, [.tmp e.b]⟩
theorem sI:ai Tryd.prog 68=some (.code vf):=by kernel_rfl
noncomputable def wL:NFun:=⟨(reg [o e.b (.move kf) 0]).seq ((reg [m e.c e 0,m e.f e 1,b e.a.a .sub (t e.f) (k 1) 2,b e.a.b .and (t e.c) (t e.a.a) 3,b e.a.c .eql (t e.a.b) (k 0) 4,m e.b e.a.c 5]).seq NC.ret),8, [.tmp e.b]⟩
theorem sR:ai Tryd.prog 69=some (.code wL):=by kernel_rfl
noncomputable def wu:NFun:=⟨(reg [o e.b (.move (k 0)) 0]).seq ((NC.cond kf ((reg [m e.c e 0,o e.f (.toInt .u32 (t e.c)) 1,o e.a.a (.call (F 77) [t e.f]) 2,m e.b e.a.a 3]).seq NC.ret) NC.skip).seq ((reg [m e.a.b e 0,o e.a.c (.call (F 78) [t e.a.b]) 1,m e.b e.a.c 2]).seq NC.ret)),8, [.tmp e.b]⟩
theorem tJ:ai Tryd.prog 70=some (.code wu):=by kernel_rfl
noncomputable def sU:NC:=((reg [b e.b.a .lss (t e.a.f) (t e.a.c) 0]).seq ((NC.cond (t e.b.a) NC.skip (NC.exit 0)).seq ((NC.block 1 ((reg [m e.b.b e.a.f 0,m e.a.a e.b.b 1]).seq ((reg [m e.b.c e.a 0,m e.b.f e 1,m e.c.a e.a.a 2,o e.c.b (.indexSlc 1 (t e.b.f) (t e.c.a)) 3,l e.c.c e.c.b 4,b e.c.f .eql (t e.b.c) (t e.c.c) 5]).seq (NC.cond (t e.c.f) ((reg [m e.f.a e.a.a 0,m e.f e.f.a 1]).seq NC.ret) NC.skip)))).seq (reg [b e.f.b .add (t e.a.f) (k 1) 0,m e.a.f e.f.b 1]))))
noncomputable def wA:NFun:=⟨(reg [o e.f (.move (k 0)) 0]).seq (((reg [m e.a.b e 0,L e.a.c e.a.b 1,o e.a.f (.move (k 0)) 2]).seq (NC.block 0 sU.loop)).seq ((reg [o e.f (.move (k (-1))) 0]).seq NC.ret)),19, [.tmp e.f]⟩
theorem sP:ai Tryd.prog 71=some (.code wA):=by kernel_rfl
noncomputable def vg:NFun:=⟨(reg [o e.f (.move (k 0)) 0]).seq ((reg [m e.a.a e 0,m e.a.b e.a 1,o e.a.c (.call (F 79) [t e.a.a,t e.a.b]) 2,m e.f e.a.c 3]).seq NC.ret),8, [.tmp e.f]⟩
theorem sL:ai Tryd.prog 73=some (.code vg):=by kernel_rfl
noncomputable def sW:NC:=(((reg [m e.c.a e.a.b 0,b e.c.b .neq (t e.c.a) (kb 0) 1]).seq (NC.cond (t e.c.b) NC.skip (NC.exit 0))).seq ((NC.block 1 ((reg [m e.f.a e 0,n e.f.b e.f.a 1,f 1 e.f.c e.f.b 2,l e.f.f e.f.c 3,b e.a.a.a .add (t e.f.f) (k 1) 4,n e.a.a.b e.f.a 5,f 1 e.a.a.c e.a.a.b 6,q (.store 1 (t e.a.a.c) (t e.a.a.a)) 7]).seq ((reg [m e.a.a.f e 0,m e.a.b.a e.a 1,o e.a.b.b (.call (F 80) [t e.a.a.f,t e.a.b.a]) 2,o e.a.c (.alloc [.int .i64 (.lit 0),.int .u64 (.lit 0),.int .u8 (.lit 0),.str [],.nils,.int .i64 (.lit 0)] 135) 3,q (.store 6 (t e.a.c) (t e.a.b.b)) 4]).seq ((reg [m e.a.b.c e.a.b 0,f 0 e.a.b.f e.a.a 1,o e.a.c.a (.loadN 5 (t e.a.b.f)) 2,f 0 e.a.c.b e.a.c 3,o e.a.c.c (.loadN 5 (t e.a.c.b)) 4,o e.a.c.f (.buildSlice [.int .i64 (.lit 0),.int .u64 (.lit 0),.int .u8 (.lit 0),.str [],.nils,.int .i64 (.lit 0),.int .u64 (.lit 0),.int .u8 (.lit 0),.str [],.nils] 5 2 40 [(0,5,t e.a.c.a),(5,5,t e.a.c.c)]) 5,o e.a.f.a (.build [.int .i64 (.lit 0),.int .u64 (.lit 0),.int .u8 (.lit 0),.str [],.nils] [(0,1,k 2),(2,1,t e.a.b.c),(4,1,t e.a.c.f)]) 6,f 5 e.a.f.b e.a.a 7,l e.a.f.c e.a.f.b 8,f 5 e.a.f.f e.a.c 9,l e.b.a.a e.a.f.f 10,o e.b.a.b (.minmax true [t e.a.f.c,t e.b.a.a]) 11,b e.b.a.c .add (k 1) (t e.b.a.b) 12,o e.b.a.f (.build [.int .i64 (.lit 0),.int .u64 (.lit 0),.int .u8 (.lit 0),.str [],.nils,.int .i64 (.lit 0)] [(0,5,t e.a.f.a),(5,1,t e.b.a.c)]) 13,q (.store 6 (t e.a.a) (t e.b.a.f)) 14]).seq ((reg [f 5 e.b.b.a e.a.a 0,l e.b.b.b e.b.b.a 1,b e.b.b.c .gtr (t e.b.b.b) (k 30) 2]).seq (NC.cond (t e.b.b.c) (reg [m e.b.b.f e 0,o e.b.c.a (.call (F 25) [t e.b.b.f,k 11]) 1]) NC.skip)))))).seq (reg [m e.c.c e 0,o e.c.f (.call (F 81) [t e.c.c]) 1,m e.a.b e.c.f 2])))
noncomputable def v7:NFun:=⟨(reg [o e.f (.alloc [.int .i64 (.lit 0),.int .u64 (.lit 0),.int .u8 (.lit 0),.str [],.nils,.int .i64 (.lit 0)] 135) 0]).seq ((reg [m e.a.f e 0,m e.b.a e.a 1,o e.b.b (.call (F 80) [t e.a.f,t e.b.a]) 2,o e.a.a (.alloc [.int .i64 (.lit 0),.int .u64 (.lit 0),.int .u8 (.lit 0),.str [],.nils,.int .i64 (.lit 0)] 135) 3,q (.store 6 (t e.a.a) (t e.b.b)) 4]).seq (((reg [m e.b.c e 0,o e.b.f (.call (F 81) [t e.b.c]) 1,m e.a.b e.b.f 2]).seq (NC.block 0 sW.loop)).seq ((reg [o e.b.c.b (.loadN 6 (t e.a.a)) 0,q (.store 6 (t e.f) (t e.b.c.b)) 1]).seq NC.ret))),47, [.cellN e.f 6]⟩
theorem tg:ai Tryd.prog 74=some (.code v7):=by kernel_rfl
noncomputable def vJ:NFun:=⟨(reg [m e.f e.a 0,m e.a.a e 1,o e.a.b (.call (F 22) [t e.a.a,k 1]) 2,o e.a.c (.field1 1 (t e.a.b)) 3,n e.a.f e.f 4,f 3 e.b.a e.a.f 5,q (.store 1 (t e.b.a) (t e.a.c)) 6]).seq ((reg [m e.b.b e 0,o e.b.c (.call (F 20) [t e.b.b,k 3,.const (.str [91])]) 1]).seq (NC.cond (t e.b.c) ((reg [m e.b.f e.a 0,m e.c.a e 1,o e.c.b (.call (F 58) [t e.c.a]) 2,n e.c.c e.b.f 3,f 4 e.c.f e.c.c 4,q (.store 5 (t e.c.f) (t e.c.b)) 5]).seq (reg [m e.f.a e 0,o e.f.b (.call (F 34) [t e.f.a,.const (.str [93])]) 1])) NC.skip)),19, []⟩
theorem r7:ai Tryd.prog 75=some (.code vJ):=by kernel_rfl
noncomputable def vq:NFun:=⟨(reg [o e.b (.move (k 0)) 0]).seq (((reg [m e.c e 0,b e.f .eql (t e.c) (.const (.int .u32 (.lit 0))) 1]).seq (NC.cond (t e.f) ((reg [o e.b (.move (k 32)) 0]).seq NC.ret) NC.skip)).seq ((reg [m e.a.a e 0,m e.a.b e 1,o e.a.c (.un .neg (t e.a.b)) 2,b e.a.f .and (t e.a.a) (t e.a.c) 3,b e.b.a .mul (t e.a.f) (.const (.int .u32 (.lit 125613361))) 4,b e.b.b .shr (t e.b.a) (ku 27) 5,o e.b.c (.fail) 6,l e.b.f e.b.c 7,o e.c.a (.toInt .i64 (t e.b.f)) 8,m e.b e.c.a 9]).seq NC.ret)),14, [.tmp e.b]⟩
theorem rF:ai Tryd.prog 77=some (.code vq):=by kernel_rfl
noncomputable def wT:NFun:=⟨(reg [o e.b (.move (k 0)) 0]).seq (((reg [m e.c e 0,b e.f .eql (t e.c) (ku 0) 1]).seq (NC.cond (t e.f) ((reg [o e.b (.move (k 64)) 0]).seq NC.ret) NC.skip)).seq ((reg [m e.a.a e 0,m e.a.b e 1,o e.a.c (.un .neg (t e.a.b)) 2,b e.a.f .and (t e.a.a) (t e.a.c) 3,b e.b.a .mul (t e.a.f) (ku 285870213051353865) 4,b e.b.b .shr (t e.b.a) (ku 58) 5,o e.b.c (.fail) 6,l e.b.f e.b.c 7,o e.c.a (.toInt .i64 (t e.b.f)) 8,m e.b e.c.a 9]).seq NC.ret)),14, [.tmp e.b]⟩
theorem sm:ai Tryd.prog 78=some (.code wT):=by kernel_rfl
noncomputable def sA:NC:=(((reg [m e.c.b.a e.a.f 0,m e.c.b.b e.b.a 1,b e.c.b.c .lss (t e.c.b.a) (t e.c.b.b) 2]).seq (NC.cond (t e.c.b.c) NC.skip (NC.exit 1))).seq (NC.block 2 (((reg [m e.c.b.f e 0,m e.c.c.a e.a.f 1,o e.c.c.b (.indexStr (t e.c.b.f) (t e.c.c.a)) 2,m e.c.c.c e.a.b 3,b e.c.c.f .neq (t e.c.c.b) (t e.c.c.c) 4]).seq (NC.cond (t e.c.c.f) ((reg [m e.c.f.a e 0,m e.c.f.b e.a.f 1,b e.c.f.c .add (t e.c.f.b) (k 1) 2,m e.c.f.f e.b.a 3,o e.f.a.a (.sliceStr (t e.c.f.a) (some (t e.c.f.c)) (some (t e.c.f.f))) 4,m e.f.a.b e.a.b 5,o e.f.a.c (.call (F 82) [t e.f.a.a,t e.f.a.b]) 6,m e.b.c e.f.a.c 7]).seq (((reg [m e.f.a.f e.b.c 0,b e.f.b.a .lss (t e.f.a.f) (k 0) 1]).seq (NC.cond (t e.f.b.a) ((reg [o e.f (.move (k (-1))) 0]).seq NC.ret) NC.skip)).seq (reg [m e.f.b.b e.a.f 0,m e.f.b.c e.b.c 1,b e.f.b.f .add (t e.f.b.c) (k 1) 2,b e.f.c.a .add (t e.f.b.b) (t e.f.b.f) 3,m e.a.f e.f.c.a 4]))) NC.skip)).seq (((reg [m e.f.c.b e 0,m e.f.c.c e.a.f 1,b e.f.c.f .add (t e.f.c.c) (k 1) 2,o e.f.f.a (.indexStr (t e.f.c.b) (t e.f.c.f)) 3,m e.f.f.b e.a.c 4,b e.f.f.c .eql (t e.f.f.a) (t e.f.f.b) 5,m e.f.f.f e.f.f.c 6,G e.a.a.a.a (.move (t e)) e.f.f.f true 7,G e.a.a.a.b (.move (t e.a.f)) e.f.f.f true 8,G e.a.a.a.c (.move (t e.a.f)) e.f.f.f true 9,G e.a.a.a.f (.move (t e.a.a)) e.f.f.f true 10,G e.a.a.b.a (.bin .num .add (t e.a.a.a.c) (t e.a.a.a.f)) e.f.f.f true 11,G e.a.a.b.b (.sliceStr (t e.a.a.a.a) (some (t e.a.a.a.b)) (some (t e.a.a.b.a))) e.f.f.f true 12,G e.a.a.b.c (.move (t e.a)) e.f.f.f true 13,G e.a.a.b.f (.bin .num .eql (t e.a.a.b.b) (t e.a.a.b.c)) e.f.f.f true 14,o e.a.a.c.a (.pick (t e.f.f.f) (t e.a.a.b.f) kf) 15]).seq (NC.cond (t e.a.a.c.a) ((reg [m e.a.a.c.b e.a.f 0,m e.f e.a.a.c.b 1]).seq NC.ret) NC.skip)).seq ((reg [m e.a.a.c.c e.a.f 0,b e.a.a.c.f .add (t e.a.a.c.c) (k 1) 1,m e.a.f e.a.a.c.f 2]).seq ((reg [m e.a.a.f.a e.b.b 0,b e.a.a.f.b .add (t e.a.a.f.a) (k 1) 1,m e.b.b e.a.a.f.b 2]).seq ((reg [m e.a.a.f.c e.a.a 0,o e.a.a.f.f (.fail) 1,b e.a.b.a.a .leq (t e.a.a.f.c) (t e.a.a.f.f) 2,m e.a.b.a.b e.a.b.a.a 3,G e.a.b.a.c (.move (t e.b.b)) e.a.b.a.b true 4,G e.a.b.a.f (.move (t e.a.f)) e.a.b.a.b true 5,G e.a.b.b.a (.call (F 84) [t e.a.b.a.f]) e.a.b.a.b true 6,G e.a.b.b.b (.bin .num .gtr (t e.a.b.a.c) (t e.a.b.b.a)) e.a.b.a.b true 7,o e.a.b.b.c (.pick (t e.a.b.a.b) (t e.a.b.b.b) kf) 8]).seq (NC.cond (t e.a.b.b.c) ((reg [m e.a.b.b.f e 0,m e.a.b.c.a e.a.f 1,o e.a.b.c.b (.sliceStr (t e.a.b.b.f) (some (t e.a.b.c.a)) none) 2,m e.a.b.c.c e.a 3,o e.a.b.c.f (.call (F 83) [t e.a.b.c.b,t e.a.b.c.c]) 4,m e.b.f e.a.b.c.f 5]).seq (((reg [m e.a.b.f.a e.b.f 0,b e.a.b.f.b .geq (t e.a.b.f.a) (k 0) 1]).seq (NC.cond (t e.a.b.f.b) ((reg [m e.a.b.f.c e.b.f 0,m e.a.b.f.f e.a.f 1,b e.a.c.a.a .add (t e.a.b.f.c) (t e.a.b.f.f) 2,m e.f e.a.c.a.a 3]).seq NC.ret) NC.skip)).seq ((reg [o e.f (.move (k (-1))) 0]).seq NC.ret))) ((reg [m e.a.c.a.b e.a.a 0,o e.a.c.a.c (.fail) 1,b e.a.c.a.f .gtr (t e.a.c.a.b) (t e.a.c.a.c) 2,m e.a.c.b.a e.a.c.a.f 3,G e.a.c.b.b (.move (t e.b.b)) e.a.c.b.a true 4,G e.a.c.b.c (.move (t e.a.f)) e.a.c.b.a true 5,G e.a.c.b.f (.bin .num .shr (t e.a.c.b.c) (ku 4)) e.a.c.b.a true 6,G e.a.c.c.a (.bin .num .add (k 4) (t e.a.c.b.f)) e.a.c.b.a true 7,G e.a.c.c.b (.bin .num .geq (t e.a.c.b.b) (t e.a.c.c.a)) e.a.c.b.a true 8,o e.a.c.c.c (.pick (t e.a.c.b.a) (t e.a.c.c.b) kf) 9,m e.a.c.c.f e.a.c.c.c 10,G e.a.c.f.a (.move (t e.a.f)) e.a.c.c.f true 11,G e.a.c.f.b (.move (t e.b.a)) e.a.c.c.f true 12,G e.a.c.f.c (.bin .num .lss (t e.a.c.f.a) (t e.a.c.f.b)) e.a.c.c.f true 13,o e.a.c.f.f (.pick (t e.a.c.c.f) (t e.a.c.f.c) kf) 14]).seq (NC.cond (t e.a.c.f.f) ((reg [m e.a.f.a.a e 0,m e.a.f.a.b e.a.f 1,o e.a.f.a.c (.sliceStr (t e.a.f.a.a) (some (t e.a.f.a.b)) none) 2,m e.a.f.a.f e.a 3,o e.a.f.b.a (.call (F 85) [t e.a.f.a.c,t e.a.f.a.f]) 4,m e.c.a e.a.f.b.a 5]).seq (((reg [m e.a.f.b.b e.c.a 0,b e.a.f.b.c .lss (t e.a.f.b.b) (k 0) 1]).seq (NC.cond (t e.a.f.b.c) ((reg [o e.f (.move (k (-1))) 0]).seq NC.ret) NC.skip)).seq ((reg [m e.a.f.b.f e.a.f 0,m e.a.f.c.a e.c.a 1,b e.a.f.c.b .add (t e.a.f.b.f) (t e.a.f.c.a) 2,m e.f e.a.f.c.b 3]).seq NC.ret))) NC.skip))))))))))
noncomputable def ws:NFun:=⟨(reg [o e.f (.move (k 0)) 0]).seq ((reg [m e.c.b e.a 0,o e.c.c (.lenStr (t e.c.b)) 1,m e.a.a e.c.c 2]).seq ((NC.block 0 ((reg [m e.f.a e.a.a 0,b e.f.b .eql (t e.f.a) (k 0) 1,m e.f.c e.f.b 2,G e.f.f (.move (t e.a)) e.f.c false 3,G e.a.a.a (.move (t e)) e.f.c false 4,G e.a.a.b (.bin .num .eql (t e.f.f) (t e.a.a.a)) e.f.c false 5,o e.a.a.c (.pick (t e.f.c) kt (t e.a.a.b)) 6,m e.c.f e.a.a.c 7]).seq (NC.cond (t e.c.f) ((reg [o e.f (.move (k 0)) 0]).seq NC.ret) ((reg [m e.a.b.a e.a.a 0,b e.a.b.b .eql (t e.a.b.a) (k 1) 1,m e.a.a.f e.a.b.b 2]).seq (NC.cond (t e.a.a.f) ((reg [m e.a.b.c e 0,m e.a.b.f e.a 1,o e.a.c.a (.indexStr (t e.a.b.f) (k 0)) 2,o e.a.c.b (.call (F 82) [t e.a.b.c,t e.a.c.a]) 3,m e.f e.a.c.b 4]).seq NC.ret) ((reg [m e.a.c.f e.a.a 0,m e.a.f.a e 1,o e.a.f.b (.lenStr (t e.a.f.a)) 2,b e.a.f.c .geq (t e.a.c.f) (t e.a.f.b) 3,m e.a.c.c e.a.f.c 4]).seq (NC.cond (t e.a.c.c) ((reg [o e.f (.move (k (-1))) 0]).seq NC.ret) ((reg [m e.b.a.a e.a.a 0,o e.b.a.b (.fail) 1,b e.b.a.c .leq (t e.b.a.a) (t e.b.a.b) 2,m e.b.a.f e.b.a.c 3,G e.b.b.a (.move (t e)) e.b.a.f true 4,G e.b.b.b (.lenStr (t e.b.b.a)) e.b.a.f true 5,G e.b.b.c (.bin .num .leq (t e.b.b.b) (k 64)) e.b.a.f true 6,o e.b.b.f (.pick (t e.b.a.f) (t e.b.b.c) kf) 7,m e.a.f.f e.b.b.f 8]).seq (NC.cond (t e.a.f.f) ((reg [m e.b.c.a e 0,m e.b.c.b e.a 1,o e.b.c.c (.call (F 83) [t e.b.c.a,t e.b.c.b]) 2,m e.f e.b.c.c 3]).seq NC.ret) NC.skip))))))))).seq ((reg [m e.b.c.f e.a 0,o e.b.f.a (.indexStr (t e.b.c.f) (k 0)) 1,m e.a.b e.b.f.a 2]).seq ((reg [m e.b.f.b e.a 0,o e.b.f.c (.indexStr (t e.b.f.b) (k 1)) 1,m e.a.c e.b.f.c 2]).seq ((reg [o e.a.f (.move (k 0)) 0]).seq ((reg [m e.b.f.f e 0,o e.c.a.a (.lenStr (t e.b.f.f)) 1,m e.c.a.b e.a.a 2,b e.c.a.c .sub (t e.c.a.a) (t e.c.a.b) 3,b e.c.a.f .add (t e.c.a.c) (k 1) 4,m e.b.a e.c.a.f 5]).seq ((reg [o e.b.b (.move (k 0)) 0]).seq ((NC.block 1 sA.loop).seq ((reg [o e.f (.move (k (-1))) 0]).seq NC.ret))))))))),143, [.tmp e.f]⟩
theorem sY:ai Tryd.prog 79=some (.code ws):=by kernel_rfl
noncomputable def wv:NFun:=⟨(reg [o e.f (.alloc [.int .i64 (.lit 0),.int .u64 (.lit 0),.int .u8 (.lit 0),.str [],.nils,.int .i64 (.lit 0)] 135) 0]).seq (((reg [m e.a.c e.a 0,b e.a.f .gtr (t e.a.c) (k 29) 1]).seq (NC.cond (t e.a.f) (reg [m e.b.a e 0,o e.b.b (.call (F 25) [t e.b.a,k 11]) 1]) NC.skip)).seq (((reg [m e.b.c e 0,o e.b.f (.call (F 20) [t e.b.c,k 3,.const (.str [40])]) 1]).seq (NC.cond (t e.b.f) ((reg [m e.c.a e 0,m e.c.b e.a 1,b e.c.c .add (t e.c.b) (k 1) 2,o e.c.f (.call (F 74) [t e.c.a,t e.c.c]) 3,o e.a.a (.alloc [.int .i64 (.lit 0),.int .u64 (.lit 0),.int .u8 (.lit 0),.str [],.nils,.int .i64 (.lit 0)] 135) 4,q (.store 6 (t e.a.a) (t e.c.f)) 5]).seq ((reg [m e.f.a e 0,o e.f.b (.call (F 34) [t e.f.a,.const (.str [41])]) 1]).seq ((reg [o e.f.c (.loadN 6 (t e.a.a)) 0,q (.store 6 (t e.f) (t e.f.c)) 1]).seq NC.ret))) NC.skip)).seq (((reg [m e.f.f e 0,o e.a.a.a (.call (F 19) [t e.f.f]) 1,o e.a.b (.alloc [.int .i64 (.lit 0),.str [],.int .u64 (.lit 0),.int .i64 (.lit 0)] 48) 2,q (.store 4 (t e.a.b) (t e.a.a.a)) 3]).seq ((reg [f 0 e.a.a.b e.a.b 0,l e.a.a.c e.a.a.b 1,b e.a.a.f .eql (t e.a.a.c) (k 2) 2]).seq (NC.cond (t e.a.a.f) ((reg [m e.a.b.a e 0,n e.a.b.b e.a.b.a 1,f 1 e.a.b.c e.a.b.b 2,l e.a.b.f e.a.b.c 3,b e.a.c.a .add (t e.a.b.f) (k 1) 4,n e.a.c.b e.a.b.a 5,f 1 e.a.c.c e.a.c.b 6,q (.store 1 (t e.a.c.c) (t e.a.c.a)) 7]).seq ((reg [f 2 e.a.c.f e.a.b 0,l e.a.f.a e.a.c.f 1,o e.a.f.b (.build [.int .i64 (.lit 0),.int .u64 (.lit 0),.int .u8 (.lit 0),.str [],.nils] [(0,1,k 0),(1,1,t e.a.f.a)]) 2,o e.a.f.c (.build [.int .i64 (.lit 0),.int .u64 (.lit 0),.int .u8 (.lit 0),.str [],.nils,.int .i64 (.lit 0)] [(0,5,t e.a.f.b),(5,1,k 1)]) 3,q (.store 6 (t e.f) (t e.a.f.c)) 4]).seq NC.ret)) NC.skip))).seq ((reg [m e.a.f.f e 0,o e.b.a.a (.call (F 22) [t e.a.f.f,k 1]) 1,o e.b.a.b (.field1 1 (t e.b.a.a)) 2,o e.b.a.c (.build [.int .i64 (.lit 0),.int .u64 (.lit 0),.int .u8 (.lit 0),.str [],.nils] [(0,1,k 1),(3,1,t e.b.a.b)]) 3,o e.b.a.f (.build [.int .i64 (.lit 0),.int .u64 (.lit 0),.int .u8 (.lit 0),.str [],.nils,.int .i64 (.lit 0)] [(0,5,t e.b.a.c),(5,1,k 1)]) 4,q (.store 6 (t e.f) (t e.b.a.f)) 5]).seq NC.ret)))),41, [.cellN e.f 6]⟩
theorem rp:ai Tryd.prog 80=some (.code wv):=by kernel_rfl
noncomputable def wH:NFun:=⟨(reg [o e.b (.move (kb 0)) 0]).seq ((reg [m e.f e 0,o e.a.a (.call (F 19) [t e.f]) 1,o e.c (.alloc [.int .i64 (.lit 0),.str [],.int .u64 (.lit 0),.int .i64 (.lit 0)] 48) 2,q (.store 4 (t e.c) (t e.a.a)) 3]).seq (((reg [f 0 e.a.b e.c 0,l e.a.c e.a.b 1,b e.a.f .neq (t e.a.c) (k 3) 2,m e.b.a e.a.f 3,G e.b.b (.fieldAddr 1 (t e.c)) e.b.a false 4,G e.b.c (.load1 (t e.b.b)) e.b.a false 5,G e.b.f (.lenStr (t e.b.c)) e.b.a false 6,G e.c.a (.bin .num .neq (t e.b.f) (k 1)) e.b.a false 7,o e.c.b (.pick (t e.b.a) kt (t e.c.a)) 8,m e.c.c e.c.b 9,G e.c.f (.fieldAddr 1 (t e.c)) e.c.c false 10,G e.f.a (.load1 (t e.c.f)) e.c.c false 11,G e.f.b (.call (F 57) [.const (.str [43,45,42,38,61,60]),t e.f.a]) e.c.c false 12,G e.f.c (.un .not (t e.f.b)) e.c.c false 13,o e.f.f (.pick (t e.c.c) kt (t e.f.c)) 14]).seq (NC.cond (t e.f.f) ((reg [o e.b (.move (kb 0)) 0]).seq NC.ret) NC.skip)).seq ((reg [f 1 e.a.a.a e.c 0,l e.a.a.b e.a.a.a 1,o e.a.a.c (.indexStr (t e.a.a.b) (k 0)) 2,m e.b e.a.a.c 3]).seq NC.ret))),24, [.tmp e.b]⟩
theorem tS:ai Tryd.prog 81=some (.code wH):=by kernel_rfl
noncomputable def vp:NFun:=⟨(reg [o e.f (.move (k 0)) 0]).seq ((reg [m e.a.a e 0,m e.a.b e.a 1,o e.a.c (.call (F 86) [t e.a.a,t e.a.b]) 2,m e.f e.a.c 3]).seq NC.ret),8, [.tmp e.f]⟩
theorem rt:ai Tryd.prog 82=some (.code vp):=by kernel_rfl
noncomputable def va:NFun:=⟨(reg [o e.b (.move (k 0)) 0]).seq ((reg [m e.c e 0,b e.f .add (t e.c) (k 16) 1,b e.a.a .quo (t e.f) (k 8) 2,m e.b e.a.a 3]).seq NC.ret),6, [.tmp e.b]⟩
theorem sx:ai Tryd.prog 84=some (.code va):=by kernel_rfl
noncomputable def tO:NC:=(((reg [m e.f.b e.b.a 0,m e.f.c e.a.c 1,b e.f.f .lss (t e.f.b) (t e.f.c) 2]).seq (NC.cond (t e.f.f) NC.skip (NC.exit 0))).seq ((NC.block 1 (reg [m e.a.a.c e.a.f 0,b e.a.a.f .mul (t e.a.a.c) (.const (.int .u32 (.lit 16777619))) 1,m e.a.b.a e 2,m e.a.b.b e.b.a 3,o e.a.b.c (.indexStr (t e.a.b.a) (t e.a.b.b)) 4,o e.a.b.f (.toInt .u32 (t e.a.b.c)) 5,b e.a.c.a .add (t e.a.a.f) (t e.a.b.f) 6,m e.a.f e.a.c.a 7])).seq (reg [m e.a.a.a e.b.a 0,b e.a.a.b .add (t e.a.a.a) (k 1) 1,m e.b.a e.a.a.b 2])))
noncomputable def tC:NC:=(((reg [m e.b.b.a e.b.b 0,m e.b.b.b e 1,o e.b.b.c (.lenStr (t e.b.b.b)) 2,b e.b.b.f .lss (t e.b.b.a) (t e.b.b.c) 3]).seq (NC.cond (t e.b.b.f) NC.skip (NC.exit 2))).seq (NC.block 3 ((reg [m e.b.c.a e.a.f 0,b e.b.c.b .mul (t e.b.c.a) (.const (.int .u32 (.lit 16777619))) 1,m e.a.f e.b.c.b 2]).seq ((reg [m e.b.c.c e.a.f 0,m e.b.c.f e 1,m e.b.f.a e.b.b 2,o e.b.f.b (.indexStr (t e.b.c.f) (t e.b.f.a)) 3,o e.b.f.c (.toInt .u32 (t e.b.f.b)) 4,b e.b.f.f .add (t e.b.c.c) (t e.b.f.c) 5,m e.a.f e.b.f.f 6]).seq ((reg [m e.c.a.a e.a.f 0,m e.c.a.b e.a.b 1,m e.c.a.c e 2,m e.c.a.f e.b.b 3,m e.c.b.a e.a.c 4,b e.c.b.b .sub (t e.c.a.f) (t e.c.b.a) 5,o e.c.b.c (.indexStr (t e.c.a.c) (t e.c.b.b)) 6,o e.c.b.f (.toInt .u32 (t e.c.b.c)) 7,b e.c.c.a .mul (t e.c.a.b) (t e.c.b.f) 8,b e.c.c.b .sub (t e.c.a.a) (t e.c.c.a) 9,m e.a.f e.c.c.b 10]).seq ((reg [m e.c.c.c e.b.b 0,b e.c.c.f .add (t e.c.c.c) (k 1) 1,m e.b.b e.c.c.f 2]).seq ((reg [m e.c.f.a e.a.f 0,m e.c.f.b e.a.a 1,b e.c.f.c .eql (t e.c.f.a) (t e.c.f.b) 2,m e.c.f.f e.c.f.c 3,G e.f.a.a (.move (t e)) e.c.f.f true 4,G e.f.a.b (.move (t e.b.b)) e.c.f.f true 5,G e.f.a.c (.move (t e.a.c)) e.c.f.f true 6,G e.f.a.f (.bin .num .sub (t e.f.a.b) (t e.f.a.c)) e.c.f.f true 7,G e.f.b.a (.move (t e.b.b)) e.c.f.f true 8,G e.f.b.b (.sliceStr (t e.f.a.a) (some (t e.f.a.f)) (some (t e.f.b.a))) e.c.f.f true 9,G e.f.b.c (.move (t e.a)) e.c.f.f true 10,G e.f.b.f (.bin .num .eql (t e.f.b.b) (t e.f.b.c)) e.c.f.f true 11,o e.f.c.a (.pick (t e.c.f.f) (t e.f.b.f) kf) 12]).seq (NC.cond (t e.f.c.a) ((reg [m e.f.c.b e.b.b 0,m e.f.c.c e.a.c 1,b e.f.c.f .sub (t e.f.c.b) (t e.f.c.c) 2,m e.f e.f.c.f 3]).seq NC.ret) NC.skip))))))))
noncomputable def wx:NFun:=⟨(reg [o e.f (.move (k 0)) 0]).seq ((reg [m e.b.f e.a 0,o e.c.a (.call (F 87) [t e.b.f]) 1,m e.b.c e.c.a 2,x e.c.b e.b.c 0 3,x e.c.c e.b.c 1 4,m e.a.a e.c.b 5,m e.a.b e.c.c 6]).seq ((reg [m e.c.f e.a 0,o e.f.a (.lenStr (t e.c.f)) 1,m e.a.c e.f.a 2]).seq ((reg [o e.a.f (.move (.const (.int .u32 (.lit 0)))) 0]).seq (((reg [o e.b.a (.move (k 0)) 0]).seq (NC.block 0 tO.loop)).seq (((reg [m e.a.c.b e.a.f 0,m e.a.c.c e.a.a 1,b e.a.c.f .eql (t e.a.c.b) (t e.a.c.c) 2,m e.a.f.a e.a.c.f 3,G e.a.f.b (.move (t e)) e.a.f.a true 4,G e.a.f.c (.move (t e.a.c)) e.a.f.a true 5,G e.a.f.f (.sliceStr (t e.a.f.b) none (some (t e.a.f.c))) e.a.f.a true 6,G e.b.a.a (.move (t e.a)) e.a.f.a true 7,G e.b.a.b (.bin .num .eql (t e.a.f.f) (t e.b.a.a)) e.a.f.a true 8,o e.b.a.c (.pick (t e.a.f.a) (t e.b.a.b) kf) 9]).seq (NC.cond (t e.b.a.c) ((reg [o e.f (.move (k 0)) 0]).seq NC.ret) NC.skip)).seq (((reg [m e.b.a.f e.a.c 0,m e.b.b e.b.a.f 1]).seq (NC.block 2 tC.loop)).seq ((reg [o e.f (.move (k (-1))) 0]).seq NC.ret))))))),81, [.tmp e.f]⟩
theorem tf:ai Tryd.prog 85=some (.code wx):=by kernel_rfl
noncomputable def rM:NC:=(((reg [m e.b.a e.a.a 0,m e.b.b e 1,o e.b.c (.lenStr (t e.b.b)) 2,b e.b.f .lss (t e.b.a) (t e.b.c) 3]).seq (NC.cond (t e.b.f) NC.skip (NC.exit 0))).seq ((NC.block 1 (reg [m e.c.c e.f 0,b e.c.f .mul (t e.c.c) (.const (.int .u32 (.lit 16777619))) 1,m e.f.a e 2,m e.f.b e.a.a 3,o e.f.c (.indexStr (t e.f.a) (t e.f.b)) 4,o e.f.f (.toInt .u32 (t e.f.c)) 5,b e.a.a.a .add (t e.c.f) (t e.f.f) 6,m e.f e.a.a.a 7])).seq (reg [m e.c.a e.a.a 0,b e.c.b .add (t e.c.a) (k 1) 1,m e.a.a e.c.b 2])))
noncomputable def s9:NC:=(((reg [m e.a.a.f e.a.f 0,b e.a.b.a .gtr (t e.a.a.f) (k 0) 1]).seq (NC.cond (t e.a.b.a) NC.skip (NC.exit 2))).seq ((NC.block 3 (((reg [m e.a.b.f e.a.f 0,b e.a.c.a .and (t e.a.b.f) (k 1) 1,b e.a.c.b .neq (t e.a.c.a) (k 0) 2]).seq (NC.cond (t e.a.c.b) (reg [m e.a.c.c e.a.b 0,m e.a.c.f e.a.c 1,b e.a.f.a .mul (t e.a.c.c) (t e.a.c.f) 2,m e.a.b e.a.f.a 3]) NC.skip)).seq (reg [m e.a.f.b e.a.c 0,m e.a.f.c e.a.c 1,b e.a.f.f .mul (t e.a.f.b) (t e.a.f.c) 2,m e.a.c e.a.f.f 3]))).seq (reg [m e.a.b.b e.a.f 0,b e.a.b.c .shr (t e.a.b.b) (ku 1) 1,m e.a.f e.a.b.c 2])))
noncomputable def wn:NFun:=⟨(reg [o e.b (.move (.const (.int .u32 (.lit 0)))) 0,o e.c (.move (.const (.int .u32 (.lit 0)))) 1]).seq ((reg [o e.f (.move (.const (.int .u32 (.lit 0)))) 0]).seq (((reg [o e.a.a (.move (k 0)) 0]).seq (NC.block 0 rM.loop)).seq ((reg [o e.a.b (.move (.const (.int .u32 (.lit 1)))) 0,o e.a.c (.move (.const (.int .u32 (.lit 16777619)))) 1]).seq (((reg [m e.a.a.b e 0,o e.a.a.c (.lenStr (t e.a.a.b)) 1,m e.a.f e.a.a.c 2]).seq (NC.block 2 s9.loop)).seq ((reg [m e.b.a.a e.f 0,m e.b.a.b e.a.b 1,m e.b e.b.a.a 2,m e.c e.b.a.b 3]).seq NC.ret))))),39, [.tmp e.b,.tmp e.c]⟩
theorem rE:ai Tryd.prog 87=some (.code wn):=by kernel_rfl
end SK
namespace SK
open Go Nm Go.Proofs
open Nm.D4 (e)
open Nm.NC (reg regD)
open Nm.C
noncomputable def code:Nat->Option NFn:=(au 42 (au 21 (au 11 (au 6 (au 4 (au 3 (ap Tryd.prog 3 xC) (ap Tryd.prog 4 xB)) (au 5 (ap Tryd.prog 5 xD) (ap Tryd.prog 6 xG))) (au 8 (au 7 (ap Tryd.prog 7 xA) (ap Tryd.prog 8 xE)) (au 9 (ap Tryd.prog 9 xz) (au 10 (ap Tryd.prog 10 uZ) (ap Tryd.prog 11 wS))))) (au 16 (au 13 (au 12 (ap Tryd.prog 12 wN) (ap Tryd.prog 13 v6)) (au 14 (ap Tryd.prog 14 u6) (au 15 (ap Tryd.prog 15 wm) (ap Tryd.prog 16 vB)))) (au 18 (au 17 (ap Tryd.prog 17 vC) (ap Tryd.prog 18 vE)) (au 19 (ap Tryd.prog 19 vA) (au 20 (ap Tryd.prog 20 vv) (ap Tryd.prog 21 wh)))))) (au 31 (au 26 (au 23 (au 22 (ap Tryd.prog 22 vD) (ap Tryd.prog 23 vL)) (au 24 (ap Tryd.prog 24 vd) (au 25 (ap Tryd.prog 25 vH) (ap Tryd.prog 26 wd)))) (au 28 (au 27 (ap Tryd.prog 27 vF) (ap Tryd.prog 28 w5)) (au 29 (ap Tryd.prog 29 vi) (au 30 (ap Tryd.prog 30 wO) (ap Tryd.prog 31 wW))))) (au 36 (au 33 (au 32 (ap Tryd.prog 32 wl) (ap Tryd.prog 33 wk)) (au 34 (ap Tryd.prog 34 wU) (au 35 (ap Tryd.prog 35 wE) (ap Tryd.prog 36 wy)))) (au 39 (au 38 (ap Tryd.prog 38 vz) (ap Tryd.prog 39 w6)) (au 40 (ap Tryd.prog 40 vI) (au 41 (ap Tryd.prog 41 wP) (ap Tryd.prog 42 wY))))))) (au 63 (au 52 (au 47 (au 44 (au 43 (ap Tryd.prog 43 vM) (ap Tryd.prog 44 vj)) (au 45 (ap Tryd.prog 45 wt) (au 46 (ap Tryd.prog 46 vk) (ap Tryd.prog 47 wR)))) (au 49 (au 48 (ap Tryd.prog 48 vV) (ap Tryd.prog 49 vP)) (au 50 (ap Tryd.prog 50 vX) (au 51 (ap Tryd.prog 51 vW) (ap Tryd.prog 52 ve))))) (au 57 (au 54 (au 53 (ap Tryd.prog 53 vT) (ap Tryd.prog 54 vZ)) (au 55 (ap Tryd.prog 55 we) (au 56 (ap Tryd.prog 56 wC) (ap Tryd.prog 57 vn)))) (au 59 (au 58 (ap Tryd.prog 58 vS) (ap Tryd.prog 59 wB)) (au 60 (ap Tryd.prog 60 wK) (au 62 (ap Tryd.prog 62 vK) (ap Tryd.prog 63 vc)))))) (au 74 (au 68 (au 65 (au 64 (ap Tryd.prog 64 wg) (ap Tryd.prog 65 vU)) (au 66 (ap Tryd.prog 66 wZ) (au 67 (ap Tryd.prog 67 wD) (ap Tryd.prog 68 vf)))) (au 70 (au 69 (ap Tryd.prog 69 wL) (ap Tryd.prog 70 wu)) (au 71 (ap Tryd.prog 71 wA) (au 73 (ap Tryd.prog 73 vg) (ap Tryd.prog 74 v7))))) (au 80 (au 77 (au 75 (ap Tryd.prog 75 vJ) (ap Tryd.prog 77 vq)) (au 78 (ap Tryd.prog 78 wT) (au 79 (ap Tryd.prog 79 ws) (ap Tryd.prog 80 wv)))) (au 82 (au 81 (ap Tryd.prog 81 wH) (ap Tryd.prog 82 vp)) (au 84 (ap Tryd.prog 84 va) (au 85 (ap Tryd.prog 85 wx) (ap Tryd.prog 87 wn))))))))
theorem nW:dh Tryd.prog code:=(ae (ae (ae (ae (ae (ae (ab uz) (ab uP)) (ae (ab ux) (ab uF))) (ae (ae (ab ud) (ab uU)) (ae (ab uh) (ae (ab sg) (ab sw))))) (ae (ae (ae (ab sD) (ab rR)) (ae (ab ss) (ae (ab rX) (ab sQ)))) (ae (ae (ab rA) (ab rP)) (ae (ab tl) (ae (ab sB) (ab tv)))))) (ae (ae (ae (ae (ab rK) (ab tF)) (ae (ab s8) (ae (ab tR) (ab rC)))) (ae (ae (ab rL) (ab tk)) (ae (ab tu) (ae (ab sF) (ab tA))))) (ae (ae (ae (ab rG) (ab sM)) (ae (ab rr) (ae (ab tq) (ab tG)))) (ae (ae (ab sG) (ab sc)) (ae (ab rQ) (ae (ab rq) (ab sn))))))) (ae (ae (ae (ae (ae (ab sN) (ab sj)) (ae (ab sh) (ae (ab rN) (ab sS)))) (ae (ae (ab r6) (ab rW)) (ae (ab rI) (ae (ab th) (ab sy))))) (ae (ae (ae (ab si) (ab rB)) (ae (ab tL) (ae (ab ry) (ab rm)))) (ae (ae (ab rT) (ab sa)) (ae (ab rZ) (ae (ab rH) (ab tH)))))) (ae (ae (ae (ae (ab s7) (ab sf)) (ae (ab sE) (ae (ab tK) (ab sI)))) (ae (ae (ab sR) (ab tJ)) (ae (ab sP) (ae (ab sL) (ab tg))))) (ae (ae (ae (ab r7) (ab rF)) (ae (ab sm) (ae (ab sY) (ab rp)))) (ae (ae (ab tS) (ab rt)) (ae (ab sx) (ae (ab tf) (ab rE))))))))
end SK
/-! # a strings.Builder that stands at the beginning of a block of three cells -/
namespace Go.Proofs
open Go.Shelf Go.RowKit
variable {P : Program} {ρ : Ren}
structure WX (P : Program) (ρ : Ren) (T : TypeId) : Prop where
  lies : liesAt P P.depth T (3 / P.cellsOf T) 0 (ρ.t 72) 1 = true
  ne : T ≠ ρ.t 5
set_option maxHeartbeats 1000000 in
set_option maxRecDepth 100000 in
theorem W_copyCheck_fresh (L : Lays.n240 P ρ) (X : Builder.X72 P ρ) {T : TypeId} (Y : WX P ρ T) (b : Nat) (w : World) (h0 : w.cell? ⟨b, 0, none⟩ = some (.pointer none)) (hsh : w.shape? b = some (T, 3)) (hfz : w.frozen? ⟨b, 0, none⟩ = false) :
    Calls P (ρ.f 240) #[.pointer (some ⟨b, 0, none⟩)] w fun e w' => e = .returned (.tuple #[]) ∧ w' = w.setCell ⟨b, 0, none⟩ (.pointer (some ⟨b, 0, none⟩)) := by
  obtain ⟨j, hj, hjs⟩ := Option.map_eq_some_iff.1 X.sizeBuilder
  have mixed := L.mixed
  have t72 := L.t72; have a72 := L.a72; have z72 := L.z72; have v72 := L.v72; have u72 := run_underlying L.t72
  have t70 := L.t70; have a70 := L.a70; have z70 := L.z70; have v70 := L.v70; have u70 := run_underlying L.t70
  have t9 := L.t9; have a9 := L.a9; have z9 := L.z9; have v9 := L.v9; have u9 := run_underlying L.t9
  have t4 := L.t4; have a4 := L.a4; have z4 := L.z4; have v4 := L.v4; have u4 := run_underlying L.t4
  have t164 := L.t164; have a164 := L.a164; have z164 := L.z164; have v164 := L.v164; have u164 := run_underlying L.t164
  go_enter L.f240, Body.n240_ntmps ρ
  go_wp2
  rw [Lib.run_to_unsafe w ⟨b, 0, none⟩ L.t70 L.t164 hj (by rw [hjs]; decide) hsh (Nat.zero_lt_succ 2)]
  simp only [Result.andThen]
  rw [Oper.upon_value]
  go_wp2
  rw [run_callFunc_extern L.f276 (by kernel_rfl) (by kernel_rfl) (by kernel_rfl) (e := Extern.AbiNoEscape.same) (by kernel_rfl)]
  rw [Lib.run_noEscape]
  simp only [Result.andThen]
  rw [Oper.upon_value]
  go_wp2
  rw [Lib.run_from_unsafe w ⟨b, 0, none⟩ L.t164 L.t70 hj hsh Y.lies]
  simp only [Result.andThen]
  rw [Oper.upon_value]
  go_wp2
  go_end0
  exact ⟨rfl, rfl⟩
/-- a row of bytes that lies alone at the beginning of its block -/
def OW (e : TypeId) (v : Value) (n : Nat) (xs : List Value) (w : World) : Prop :=
  xs.length = n ∧ ((v = .slice none 0 0 ∧ n = 0) ∨ ∃ g cap cur, v = .slice (some ⟨g, 0, none⟩) n cap ∧ w.heap[g]? = some (.cells cur e (0, 0)) ∧ n ≤ cap ∧ cap ≤ maxLen ∧ cap ≤ cur.size ∧ cur.toList.take n = xs)
theorem OW.kept {e : TypeId} {v : Value} {n : Nat} {xs : List Value} {w w' : World} {b : Nat} (h : OW e v n xs w) (hne : v.ownBlock ≠ some b) (hk : ∀ k, k ≠ b → w'.heap[k]? = w.heap[k]?) : OW e v n xs w' := by
  refine ⟨h.1, ?_⟩
  rcases h.2 with h | ⟨g, cap, cur, rfl, hg, r⟩
  · exact .inl h
  · exact .inr ⟨g, cap, cur, rfl, (hk g fun q => hne (by simp [Value.ownBlock, q])).trans hg, r⟩
/-- the block, and the row that it owns -/
def WAt (T e : TypeId) (b : Nat) (p d : Value) (bs : List Value) (v : Value) (w : World) : Prop :=
  w.heap[b]? = some (.cells #[p, v, d] T (0, 0)) ∧ OW e v bs.length bs w ∧ v.ownBlock ≠ some b
theorem WAt.used {T e : TypeId} {b : Nat} {p d v : Value} {bs : List Value} {w : World} (h : WAt T e b p d bs v w) (q : Value) : WAt T e b q d bs v (w.setCell ⟨b, 0, none⟩ q) := by
  obtain ⟨hb, hown, hne⟩ := h
  have hlt : b < w.heap.size := by
    rcases Nat.lt_or_ge b w.heap.size with h' | h'
    · exact h'
    · simp [Array.getElem?_eq_none h'] at hb
  refine ⟨?_, ?_, hne⟩
  · simp [World.setCell, Array.getElem?_modify, hb]
  · exact hown.kept hne fun k hk => Below.heap_setCell _ _ _ _ (fun e => hk (by simp [e]))
theorem W_copyCheck (L : Lays.n240 P ρ) (X : Builder.X72 P ρ) {T : TypeId} (Y : WX P ρ T) (b : Nat) (d v : Value) (bs : List Value) (w : World) (h : WAt T (ρ.t 5) b (.pointer none) d bs v w ∨ WAt T (ρ.t 5) b (.pointer (some ⟨b, 0, none⟩)) d bs v w) :
    Calls P (ρ.f 240) #[.pointer (some ⟨b, 0, none⟩)] w fun e w' => e = .returned (.tuple #[]) ∧ (w' = w ∨ w' = w.setCell ⟨b, 0, none⟩ (.pointer (some ⟨b, 0, none⟩))) ∧ WAt T (ρ.t 5) b (.pointer (some ⟨b, 0, none⟩)) d bs v w' := by
  rcases h with h | h
  · refine (W_copyCheck_fresh L X Y b w (by rw [Lib.cell_of_heap h.1]; rfl) (by simp [World.shape?, h.1]) (Lib.frozen_of_heap h.1 0)).mono ?_
    rintro e w' ⟨rfl, rfl⟩
    exact ⟨rfl, .inr rfl, h.used _⟩
  · refine (Any.Builder_copyCheck_used L X b w (by rw [Lib.cell_of_heap h.1]; rfl)).mono ?_
    rintro e w' ⟨rfl, rfl⟩
    exact ⟨rfl, .inl rfl, h⟩
/-- where the row lies that an append of a string makes -/
theorem run_app_str {w : World} (t u ty e : TypeId) (i : TypeInfo) (ht : P.underlying t = some (.slice e)) (hu : P.underlying u = some .string) (hi : P.info? e = some i) (hz : i.zero = some (.int .u8 0))
    (hsize : i.size = 1) (hby : i.bytes = 1) (v : Value) (n : Nat) (xs : List Value) (hown : OW e v n xs w) (s : ByteArray) (h63 : n + s.size ≤ maxLen) (hbytes : n + s.size ≤ 140737488355328) :
    ∃ v' w', (Builtin.append_ #[t, u] ty #[v, .string s]).run P w = .ok v' w' ∧ OW e v' (n + s.size) (xs ++ Lib.strCells s) w' ∧ w.grownBy w' v.ownBlock ∧ (v' = .slice none 0 0 ↔ v = .slice none 0 0 ∧ s.size = 0) ∧
      (v'.ownBlock = v.ownBlock ∨ ∃ g, v'.ownBlock = some g ∧ w.heap.size ≤ g) := by
  have hxl : xs.length = n := hown.1
  have hlen : (xs ++ Lib.strCells s).length = n + s.size := by rw [List.length_append, hxl, Lib.strCells_length]
  have grown : ∀ (old : Nat), old < n + s.size → ∀ (row : Option Nat),
      OW e (.slice (some ⟨w.heap.size, 0, none⟩) (n + s.size) (grownCap w (n + s.size) old e)) (n + s.size) (xs ++ Lib.strCells s) (w.drew.alloc (.cells (xs.toArray ++ (Lib.strCells s).toArray ++ Builtin.zeroCells (Value.int .u8 0).cells (grownCap w (n + s.size) old e - (n + s.size))) e)) ∧
      w.grownBy (w.drew.alloc (.cells (xs.toArray ++ (Lib.strCells s).toArray ++ Builtin.zeroCells (Value.int .u8 0).cells (grownCap w (n + s.size) old e - (n + s.size))) e)) row := by
    intro old ho row
    have hge := grownCap_ge w (n + s.size) old e
    have hcm : grownCap w (n + s.size) old e ≤ maxLen := grownCap_le_maxLen w (n + s.size) old e h63
    refine ⟨⟨hlen, .inr ⟨w.heap.size, _, _, rfl, heap_alloc_new w.drew _, hge, hcm, ?_, ?_⟩⟩, ⟨rfl, rfl, rfl, by simp, fun k hk _ => Lib.alloc_old w.drew _ k hk⟩⟩
    · have hz1 : (Value.int IntKind.u8 0).cells.size = 1 := rfl
      simp only [Array.size_append, List.size_toArray, size_zeroCells, hz1, hxl, Lib.strCells_length]
      omega
    · simp only [Array.toList_append, List.append_assoc]
      rw [← List.append_assoc, ← hlen]
      exact List.take_left
  rcases hown.2 with ⟨rfl, rfl⟩ | ⟨g, cap, cur, rfl, hg, hnc, hcm, hcs, htake⟩
  · have hx : xs = [] := List.eq_nil_of_length_eq_zero hxl
    subst hx
    by_cases hm : s.size = 0
    · have hn : Lib.strCells s = [] := List.eq_nil_of_length_eq_zero (by rw [Lib.strCells_length]; exact hm)
      refine ⟨.slice none 0 0, w, ?_, by rw [hm, hn]; exact ⟨rfl, .inl ⟨rfl, rfl⟩⟩, ⟨rfl, rfl, rfl, Nat.le_refl _, fun _ _ _ => rfl⟩, by simp [hm], .inl rfl⟩
      have hf := Lib.run_firstCells_string (P := P) w 1 s
      rw [hm] at hf
      simp [Builtin.append_, run_underlying ht, run_underlying hu, sizeOf, typeInfo, hi, hsize, Builtin.lenOf, hm, hf]
    · have hr := run_append_nil_string (P := P) w t u ty e i (.int .u8 0) ht hu hi hz s (by omega) (by simp only [maxLen] at h63; omega) (by rw [hby]; omega)
      have hgr := grown 0 (by omega) (Value.ownBlock (.slice none 0 0))
      simp only [Nat.zero_add, List.nil_append, Array.empty_append] at hgr ⊢
      have e1 : (s.data.map fun b => Value.int .u8 b.toNat) = (Lib.strCells s).toArray := by
        apply Array.ext'
        simp [Lib.strCells]
      rw [e1] at hr
      exact ⟨_, _, hr, hgr.1, hgr.2, by simp [hm], .inr ⟨_, rfl, Nat.le_refl _⟩⟩
  · by_cases hroom : n + s.size ≤ cap
    · have hr := Lib.run_append_room_string (P := P) w t u ty e i ht hu hi hsize g n cap cur hg s hroom (by omega)
      refine ⟨_, _, hr, ⟨hlen, .inr ⟨g, cap, _, rfl, setRow_heap w g cur _ e _ hg, hroom, hcm, ?_, ?_⟩⟩, ⟨rfl, rfl, rfl, by simp, fun k _ hk => setRow_other w g k _ (fun e => hk (by simp [Value.ownBlock, e]))⟩, by simp, .inl rfl⟩
      · simp only [List.size_toArray, List.length_append, List.length_take, List.length_drop, Array.length_toList, Lib.strCells_length]
        omega
      · rw [htake, ← hlen]
        exact List.take_left
    · have holds : ∀ j u, xs[j]? = some u → w.cell? ((⟨g, 0, none⟩ : Addr).add j) = some u := fun j u hj => by
        have e : (⟨g, 0, none⟩ : Addr).add j = ⟨g, j, none⟩ := by simp [Addr.add]; omega
        have hjn : j < n := by rw [← hxl]; exact (List.getElem?_eq_some_iff.1 hj).1
        rw [← htake, List.getElem?_take, if_pos hjn, Array.getElem?_toList] at hj
        rw [e, Lib.cell_of_heap hg]; exact hj
      have hr := Lib.run_append_grow_string (P := P) w t u ty e i (.int .u8 0) ht hu hi hz ⟨g, 0, none⟩ n cap xs (by rw [hsize]; simpa using hxl) holds s (by omega) (by simp only [maxLen] at h63; omega) (by rw [hby]; exact growslice_fits (by omega) (by omega))
      have hgr := grown cap (by omega) (Value.ownBlock (.slice (some ⟨g, 0, none⟩) n cap))
      exact ⟨_, _, hr, hgr.1, hgr.2, by simp, .inr ⟨_, rfl, Nat.le_refl _⟩⟩
theorem wpList_app_str {ops : Array Oper} {rest : List Oper} {o : Oper} {a : Act} {Q : Exit → Act → World → Prop} {w : World} (hgd : o.guard = none) (sl x : Operand) (t u : TypeId)
    (ho : o.op = .call { callee := .builtin .append, args := #[sl, x], argTypes := #[t, u] })
    (e : TypeId) (i : TypeInfo) (ht : P.underlying t = some (.slice e)) (hu : P.underlying u = some .string) (hi : P.info? e = some i) (hz : i.zero = some (.int .u8 0))
    (hsize : i.size = 1) (hby : i.bytes = 1)
    (v : Value) (n : Nat) (xs : List Value) (hs : a.eval sl = v) (hown : OW e v n xs w) (s : ByteArray) (hx : a.eval x = .string s)
    (h63 : n + s.size ≤ maxLen) (hbytes : n + s.size ≤ 140737488355328)
    (h : ∀ v' w', OW e v' (n + s.size) (xs ++ Lib.strCells s) w' → w.grownBy w' v.ownBlock → (v' = .slice none 0 0 ↔ v = .slice none 0 0 ∧ s.size = 0) → (v'.ownBlock = v.ownBlock ∨ ∃ g, v'.ownBlock = some g ∧ w.heap.size ≤ g) → wpList P ops Q rest (a.put o.dst v') w') : wpList P ops Q (o :: rest) a w := by
  refine wpList_plain hgd fun K hK => ?_
  obtain ⟨v', w', hr, h2, h3, h4, h5⟩ := run_app_str (P := P) t u o.type e i ht hu hi hz hsize hby v n xs hown s h63 hbytes
  unfold Oper.wp execOp
  simp only [ho, resolve, invoke, builtin, Sem.run_bind, Sem.run_pure, Result.andThen_ok, List.map_toArray, List.map_cons, List.map_nil, hs, hx, hr]
  exact hK _ _ (h v' w' h2 h3 h4 h5)
set_option maxHeartbeats 1000000 in
set_option maxRecDepth 100000 in
theorem W_WriteString (L : Lays.n166 P ρ) (X : Builder.Extra P ρ) {T : TypeId} (Y : WX P ρ T) (b : Nat) (d v0 : Value) (bs : List Value) (s : ByteArray) (w : World) (h : WAt T (ρ.t 5) b (.pointer none) d bs v0 w ∨ WAt T (ρ.t 5) b (.pointer (some ⟨b, 0, none⟩)) d bs v0 w) (hlen : bs.length + s.size ≤ 140737488355328) :
    Calls P (ρ.f 166) #[.pointer (some ⟨b, 0, none⟩), .string s] w fun e w' => e = .returned (.tuple #[.int .i64 s.size, .nilIface]) ∧ ∃ v', WAt T (ρ.t 5) b (.pointer (some ⟨b, 0, none⟩)) d (bs ++ Lib.strCells s) v' w' ∧ (v' = .slice none 0 0 ↔ v0 = .slice none 0 0 ∧ s.size = 0) ∧
      w'.os = w.os ∧ w'.tape = w.tape ∧ w'.output = w.output ∧ w.heap.size ≤ w'.heap.size ∧ (v'.ownBlock = v0.ownBlock ∨ ∃ g, v'.ownBlock = some g ∧ w.heap.size ≤ g) ∧ (∀ k, k < w.heap.size → k ≠ b → v0.ownBlock ≠ some k → w'.heap[k]? = w.heap[k]?) := by
  obtain ⟨i0, hi, hz0, hz1, hz2⟩ := info_parts X.infoByte
  have mixed := L.mixed
  have t72 := L.t72; have a72 := L.a72; have z72 := L.z72; have v72 := L.v72; have u72 := run_underlying L.t72
  have t70 := L.t70; have a70 := L.a70; have z70 := L.z70; have v70 := L.v70; have u70 := run_underlying L.t70
  have t37 := L.t37; have a37 := L.a37; have z37 := L.z37; have v37 := L.v37; have u37 := run_underlying L.t37
  have t3 := L.t3; have a3 := L.a3; have z3 := L.z3; have v3 := L.v3; have u3 := run_underlying L.t3
  have t9 := L.t9; have a9 := L.a9; have z9 := L.z9; have v9 := L.v9; have u9 := run_underlying L.t9
  have t4 := L.t4; have a4 := L.a4; have z4 := L.z4; have v4 := L.v4; have u4 := run_underlying L.t4
  have t164 := L.t164; have a164 := L.a164; have z164 := L.z164; have v164 := L.v164; have u164 := run_underlying L.t164
  have t5 := X.t5; have a5 := X.a5; have z5 := X.z5; have v5 := X.v5; have u5 := run_underlying X.t5
  have e240 : ∀ args w, (callFunc (ρ.f 240) args).run P w = .ok (.enter (ρ.f 240) args) w := enters_of L.f240 (by kernel_rfl) rfl
  go_enter L.f166, Body.n166_ntmps ρ
  go_wp2_with (go_at_fn (ρ.f 240); refine (W_copyCheck { L with } X.toX72 Y b d v0 bs _ h).mono ?_)
  rintro e w1 ⟨rfl, hw1, hbk, hown, hne⟩
  have c0 : w1.cell? ⟨b, 0, none⟩ = some (.pointer (some ⟨b, 0, none⟩)) := by rw [Lib.cell_of_heap hbk]; rfl
  have c1 : w1.cell? ⟨b, 1, none⟩ = some v0 := by rw [Lib.cell_of_heap hbk]; rfl
  have hsz : w1.heap.size = w.heap.size := by rcases hw1 with rfl | rfl <;> simp [World.setCell]
  have hos : w1.os = w.os ∧ w1.tape = w.tape ∧ w1.output = w.output := by rcases hw1 with rfl | rfl <;> simp [World.setCell]
  have hoth : ∀ k, k ≠ b → w1.heap[k]? = w.heap[k]? := fun k hk => by
    rcases hw1 with rfl | rfl
    · rfl
    · exact Below.heap_setCell _ _ _ _ (fun e => hk e)
  clear hw1
  go_wp2_with (at_builtin; refine wpList_app_str rfl _ _ (ρ.t 37) (ρ.t 9) rfl (ρ.t 5) i0 L.t37 L.t9 hi hz0 hz1 hz2 _ _ _ rfl hown s rfl ?c3 ?c4 ?_)
  case c3 => unfold maxLen; omega
  case c4 => omega
  intro v' w2 hown' hgrow hnil hblk
  have hlt : b < w1.heap.size := by
    rcases Nat.lt_or_ge b w1.heap.size with h' | h'
    · exact h'
    · simp [Array.getElem?_eq_none h'] at hbk
  have hb2 : w2.heap[b]? = some (.cells #[.pointer (some ⟨b, 0, none⟩), v0, d] T (0, 0)) := by
    rw [hgrow.block b hlt (fun e => hne e.symm)]
    exact hbk
  have d0 : w2.cell? ⟨b, 0, none⟩ = some (.pointer (some ⟨b, 0, none⟩)) := by rw [Lib.cell_of_heap hb2]; rfl
  have d1 : w2.cell? ⟨b, 1, none⟩ = some v0 := by rw [Lib.cell_of_heap hb2]; rfl
  have f1 : w2.frozen? ⟨b, 1, none⟩ = false := Lib.frozen_of_heap hb2 1
  obtain ⟨ao, n', cap, rfl⟩ : ∃ ao n' cap, v' = .slice ao n' cap := by
    rcases hown'.2 with ⟨hv, _⟩ | ⟨g, cap, cur, hv, _⟩
    · exact ⟨_, _, _, hv⟩
    · exact ⟨_, _, _, hv⟩
  go_wp2
  go_ret2
  have hne' : (Value.slice ao n' cap).ownBlock ≠ some b := by
    rcases hblk with q | ⟨g, q, q2⟩
    · rw [q]; exact hne
    · rw [q]; intro q3; cases q3; omega
  refine ⟨rfl, _, ⟨?_, ?_, hne'⟩, ⟨fun q => ⟨(hnil.1 q).1, by rw [(hnil.1 q).2]; rfl⟩, fun q => hnil.2 ⟨q.1, ByteArray.size_eq_zero_iff.1 q.2⟩⟩, ?_, ?_, ?_, ?_, ?_, ?_⟩
  · simp [World.setCell, Array.getElem?_modify, hb2]
  · have hk := hown'.kept (w' := w2.setCell ⟨b, 1, none⟩ (.slice ao n' cap)) hne' fun k hk => Below.heap_setCell _ _ _ _ (fun e => hk (by simp [e]))
    simpa [Lib.strCells_length] using hk
  · exact hgrow.os.trans hos.1
  · exact hgrow.tape.trans hos.2.1
  · exact hgrow.output.trans hos.2.2
  · show w.heap.size ≤ (w2.setCell _ _).heap.size
    have := hgrow.size
    simp [World.setCell]; omega
  · exact hblk.imp id fun ⟨g, q1, q2⟩ => ⟨g, q1, by omega⟩
  · intro k hk hkb hko
    have : (w2.setCell ⟨b, 1, none⟩ (.slice ao n' cap)).heap[k]? = w2.heap[k]? := Below.heap_setCell _ _ _ _ (fun e => hkb e)
    rw [this, hgrow.block k (by omega) (fun e => hko e.symm)]
    exact hoth k hkb
set_option maxHeartbeats 2000000 in
set_option maxRecDepth 100000 in
theorem W_String (L : Lays.n169 P ρ) (X : Builder.Extra P ρ) {T : TypeId} (b g cap : Nat) (p d : Value) (l : List UInt8) (cur : Array Value) (w : World) (hbk : w.heap[b]? = some (.cells #[p, .slice (some ⟨g, 0, none⟩) l.length cap, d] T (0, 0))) (hg : w.heap[g]? = some (.cells cur (ρ.t 5) (0, 0)))
    (hnc : l.length ≤ cap) (hcm : cap ≤ maxLen) (hcs : cap ≤ cur.size) (htake : cur.toList.take l.length = Lib.byteCells l) (h0 : l ≠ []) :
    Calls P (ρ.f 169) #[.pointer (some ⟨b, 0, none⟩)] w fun e w' => e = .returned (.string ⟨l.toArray⟩) ∧ w' = w.drew.freeze ⟨g, 0, none⟩ l.length := by
  have hl0 : l.length ≠ 0 := by simpa using h0
  have c1 : w.drew.cell? ⟨b, 1, none⟩ = some (.slice (some ⟨g, 0, none⟩) l.length cap) := by
    have : w.drew.heap[b]? = some (.cells #[p, .slice (some ⟨g, 0, none⟩) l.length cap, d] T (0, 0)) := hbk
    rw [Lib.cell_of_heap this]; rfl
  have hSD : (Builtin.unsafeSliceData_ #[(ρ.t 37)] (ρ.t 127) #[.slice (some ⟨g, 0, none⟩) l.length cap]).run P w.drew = .ok (.pointer (some ⟨g, 0, none⟩)) w.drew :=
    Lib.run_unsafeSliceData_row _ _ _ _ _ _ (by omega)
  have hUS : (Builtin.unsafeString_ #[(ρ.t 127), (ρ.t 3)] (ρ.t 9) #[.pointer (some ⟨g, 0, none⟩), .int .i64 l.length]).run P w.drew = .ok (.string ⟨l.toArray⟩) (w.drew.freeze ⟨g, 0, none⟩ l.length) := by
    refine Lib.run_unsafeString_row w.drew (ρ.t 127) (ρ.t 3) (ρ.t 9) (ρ.t 5) L.t127 X.cellsByte g cur.size (by have hg' : w.drew.heap[g]? = some (.cells cur (ρ.t 5) (0, 0)) := hg; simp [World.shape?, hg']) l h0 (by omega) (by unfold maxLen at hcm; omega) ?_
    intro j x hx
    have hg' : w.drew.heap[g]? = some (.cells cur (ρ.t 5) (0, 0)) := hg
    have hj : j < l.length := (List.getElem?_eq_some_iff.1 hx).1
    have h1 : (Lib.byteCells l)[j]? = some (.int .u8 x.toNat) := by simp [Lib.byteCells, hx]
    rw [← htake, List.getElem?_take, if_pos hj, Array.getElem?_toList] at h1
    have e : (⟨g, 0, none⟩ : Addr).add j = ⟨g, j, none⟩ := by simp [Addr.add]; omega
    rw [e, Lib.cell_of_heap hg']
    exact h1
  have mixed := L.mixed
  have t72 := L.t72; have a72 := L.a72; have z72 := L.z72; have v72 := L.v72; have u72 := run_underlying L.t72
  have t70 := L.t70; have a70 := L.a70; have z70 := L.z70; have v70 := L.v70; have u70 := run_underlying L.t70
  have t37 := L.t37; have a37 := L.a37; have z37 := L.z37; have v37 := L.v37; have u37 := run_underlying L.t37
  have t127 := L.t127; have a127 := L.a127; have z127 := L.z127; have v127 := L.v127; have u127 := run_underlying L.t127
  have t3 := L.t3; have a3 := L.a3; have z3 := L.z3; have v3 := L.v3; have u3 := run_underlying L.t3
  have t9 := L.t9; have a9 := L.a9; have z9 := L.z9; have v9 := L.v9; have u9 := run_underlying L.t9
  have t5 := X.t5; have a5 := X.a5; have z5 := X.z5; have v5 := X.v5; have u5 := run_underlying X.t5
  go_enter L.f169, Body.n169_ntmps ρ
  go_wp2
  go_region_o
  all_goals (go_wp2; go_ret; exact ⟨rfl, rfl⟩)
set_option maxHeartbeats 2000000 in
set_option maxRecDepth 100000 in
theorem W_String_nil (L : Lays.n169 P ρ) (X : Builder.Extra P ρ) {T : TypeId} (b : Nat) (p d : Value) (w : World) (hbk : w.heap[b]? = some (.cells #[p, .slice none 0 0, d] T (0, 0))) :
    Calls P (ρ.f 169) #[.pointer (some ⟨b, 0, none⟩)] w fun e w' => e = .returned (.string ⟨#[]⟩) ∧ Below w.heap.size w w' := by
  have hUS := Any.unsafeString_none L X
  have c1 : w.drew.cell? ⟨b, 1, none⟩ = some (.slice none 0 0) := by
    have : w.drew.heap[b]? = some (.cells #[p, .slice none 0 0, d] T (0, 0)) := hbk
    rw [Lib.cell_of_heap this]; rfl
  have hSD : (Builtin.unsafeSliceData_ #[(ρ.t 37)] (ρ.t 127) #[.slice none 0 0]).run P w.drew = .ok (.pointer none) w.drew := rfl
  have mixed := L.mixed
  have t72 := L.t72; have a72 := L.a72; have z72 := L.z72; have v72 := L.v72; have u72 := run_underlying L.t72
  have t70 := L.t70; have a70 := L.a70; have z70 := L.z70; have v70 := L.v70; have u70 := run_underlying L.t70
  have t37 := L.t37; have a37 := L.a37; have z37 := L.z37; have v37 := L.v37; have u37 := run_underlying L.t37
  have t127 := L.t127; have a127 := L.a127; have z127 := L.z127; have v127 := L.v127; have u127 := run_underlying L.t127
  have t3 := L.t3; have a3 := L.a3; have z3 := L.z3; have v3 := L.v3; have u3 := run_underlying L.t3
  have t9 := L.t9; have a9 := L.a9; have z9 := L.z9; have v9 := L.v9; have u9 := run_underlying L.t9
  have t5 := X.t5; have a5 := X.a5; have z5 := X.z5; have v5 := X.v5; have u5 := run_underlying X.t5
  go_enter L.f169, Body.n169_ntmps ρ
  go_wp2
  go_region_o
  all_goals (go_wp2; go_ret; exact ⟨rfl, Below.drew (Below.refl _ w)⟩)
end Go.Proofs
namespace Nm
open Go Go.RowKit Go.Shelf Go.Proofs
noncomputable def j5 (s:List Nat):List NV:=List.rec [] (fun c _ r=> .int .u8 (.lit (.ofNat c))::r) s
noncomputable def qA (a b:List NV):List NV:=List.rec b (fun x _ r=>x::r) a
def pR (id:D4) (a:NV):Bool:=match a with| .nilp=>true| .ptr i 0=>Nat.beq i.toNat id.toNat|_=>false
noncomputable def xi (T U:Nat) (l:List NV) (h:NH):Option (NV×NH):=
 match l with
 | [.ptr id 0,.str s]=>(match h.get id with
  |some (.cellsT T' [a,b,d])=>cond (Nat.beq T' T) (cond (pR id a) (match b with
   | .nils=>(match s with
    | []=>h.set id (.cellsT T [.ptr id 0,.nils,d]) fun h=>some (.tup [.int .i64 (.lit 0),.nili],h)
    |c::s=>ah (Nat.succ s.length) fun n=>cond (Nat.ble n 1000000) (h.set id (.cellsT T [.ptr id 0,.slc h.next 0 n 1 0,d]) fun h=>h.new (.cellsT U (j5 (c::s))) fun _ h=>some (.tup [.int .i64 (.lit (.ofNat n)),.nili],h)) none)
   | .slc ob 0 n 1 0=>(match h.get ob with
    |some (.cellsT U' c)=>cond (Nat.beq U' U) (cond (Nat.beq c.length n&&Nat.ble 1 n) (ah s.length fun m=>ah (Nat.add n m) fun k=>cond (Nat.ble k 1000000) (h.set ob .dead fun h=>h.set id (.cellsT T [.ptr id 0,.slc h.next 0 k 1 0,d]) fun h=>h.new (.cellsT U (qA c (j5 s))) fun _ h=>some (.tup [.int .i64 (.lit (.ofNat m)),.nili],h)) none) none) none
    |_=>none)
   |_=>none) none) none
  |_=>none)
 |_=>none
theorem nP (a b:List NV):qA a b=a++b:=by
 induction a with
 |nil=>rfl
 |cons x a ih=>show x::qA a b=_;rw[ih];rfl
theorem jL (s:List Nat):j5 s=s.map fun c=> .int .u8 (.lit (.ofNat c)):=by
 induction s with
 |nil=>rfl
 |cons x a ih=>show _::j5 a=_;rw[ih];rfl
section
variable [Val] {P:Program} {ι:aB} {B:Nat} {h h':NH} {w w':World}
theorem Rel.bld (hR:Rel P ι B h w) {id:D4} {p:Pl} (hp:ι id=some p) {T U:TypeId} {c0 c1 c2:List NV} (hid:h.get id=some (.cellsT T c0)) (K:D4->Prop) (hK:∀i,K i->i≠id/\Live (h.get i)/\h'.get i=some .dead/\∃q,ι i=some q)
 (hn:h'.next=h.next.nxt) (e1:h'.get h.next=some (.cellsT U c2)) (e2:h'.get id=some (.cellsT T c1)) (e3:∀i,i≠h.next->i≠id->¬K i->h'.get i=h.get i)
 {g:Nat} {cur curT:Array Value} (hg:w'.heap[g]? =some (.cells cur U (0,0))) (hgb:(∃i q,K i/\ι i=some q/\q.b=g)∨w.heap.size<=g)
 (hU:c2.length<=cur.size/\(MT U=true->c2.length=cur.size)) (hc2:∀ι':aB,ι.le ι'->∀(i:Nat) (v:NV),c2[i]? =some v->∃v':Value,cur[i]? =some v'/\VR ι' v v'/\v'.oneCell'=true)
 (hb:w'.heap[p.b]? =some (.cells curT T (0,0))) (hcT:curT.size=p.n) (hT:c1.length<=p.n/\(MT T=true->c1.length=p.n)) (hc1:∀ι':aB,ι.le ι'->ι' h.next=some ⟨g,0,cur.size⟩->∀(i:Nat) (v:NV),c1[i]? =some v->∃v':Value,curT[i]? =some v'/\VR ι' v v'/\v'.oneCell'=true)
 (hB:B<=w.heap.size) (hos:w'.os=w.os) (htape:w'.tape=w.tape) (hout:w'.output=w.output) (hsz:w.heap.size<=w'.heap.size)
 (hfr:∀k,k<w.heap.size->k≠p.b->(∀i q,K i->ι i=some q->q.b≠k)->w'.heap[k]? =w.heap[k]?):
 ∃ι',ι' h.next=some ⟨g,0,cur.size⟩/\Rel P ι' B h' w'/\Grow ι h w ι' h' w':=by
 have hnn:ι h.next=none:=by
  cases hi:ι h.next with
  |none=>rfl
  |some q=>obtain ⟨o,h1,_⟩:=hR.obj _ _ hi;exact xN (hR.fresh _ _ h1) (Nat.lt_irrefl _)
 have hlive:Live (h.get id):=by rw[hid];simp
 have hidn:id≠h.next:=fun q=>by rw[q,hnn] at hp;cases hp
 have hKn:∀i,K i->i≠h.next:=fun i hi q=>by obtain ⟨-,-,-,x,hx⟩:=hK i hi;rw[q,hnn] at hx;cases hx
 have hle:ι.le (ext ι h.next ⟨g,0,cur.size⟩):=fun i q hi=>by
  unfold ext
  by_cases e:i.toNat=h.next.toNat
  ·rw[D4.toNat_inj e,hnn] at hi;cases hi
  ·rw[xO e];exact hi
 have hinv:∀i q,ext ι h.next ⟨g,0,cur.size⟩ i=some q->(i=h.next/\q=⟨g,0,cur.size⟩)∨(ι i=some q/\i≠h.next):=fun i q hi=>by
  unfold ext at hi
  by_cases e:i.toNat=h.next.toNat
  ·rw[xP e] at hi;injection hi with hi;exact Or.inl ⟨D4.toNat_inj e,hi.symm⟩
  ·rw[xO e] at hi;exact Or.inr ⟨hi,fun q=>e (by rw[q])⟩
 have hnew:ext ι h.next ⟨g,0,cur.size⟩ h.next=some ⟨g,0,cur.size⟩:=by unfold ext;rw[xP rfl]
 have hlv:∀i,i≠h.next->Live (h'.get i)->Live (h.get i):=fun i hi hl=>by
  by_cases e:i=id
  ·subst e;exact hlive
  ·by_cases k:K i
   ·rw[(hK i k).2.2.1] at hl;exact xN rfl hl.1
   ·rwa [e3 i hi e k] at hl
 have hnd:∀i,i≠h.next->h'.get i≠some .dead->h.get i≠some .dead/\¬K i:=fun i hi hl=>by
  by_cases k:K i
  ·exact xN (hK i k).2.2.1 hl
  ·by_cases e:i=id
   ·subst e;exact ⟨hlive.1,k⟩
   ·rw[e3 i hi e k] at hl;exact ⟨hl,k⟩
 have hgj:∀j q,ι j=some q->h.get j≠some .dead->¬K j->q.b≠g:=fun j q hj hd hk=>by
  rcases hgb with ⟨i,r,k1,k2,k3⟩|k
  ·obtain ⟨-,l1,-,-⟩:=hK i k1
   have:=hR.inj i j r q k2 hj (fun e=>hk (e▸k1)) l1 hd
   omega
  ·have:=hR.lt j q hj;omega
 have hgB:B<=g:=by
  rcases hgb with ⟨i,r,k1,k2,k3⟩|k
  ·rw[←k3];exact hR.base i r k2 (hK i k1).2.1
  ·omega
 have hgl:g<w'.heap.size:=(Array.getElem?_eq_some_iff.1 hg).1
 refine ⟨_,hnew,⟨fun i q hi=> ?_,fun i j q r hi hj hij d1 d2=> ?_,fun i q hi d=> ?_,fun i q hi=> ?_,fun i o ho=> ?_,hR.gl.mono hle⟩,⟨hle, ?_,fun i q hi=> ?_,fun i q hi d=> ?_,fun i hi hl=> ?_,hsz,hos,htape,hout,fun b hb' hq=> ?_⟩⟩
 ·rcases hinv i q hi with ⟨rfl,rfl⟩|⟨hi,hne⟩
  ·exact ⟨_,e1,rfl,cur,hg,rfl,hU,hc2 _ hle⟩
  ·by_cases e:i=id
   ·subst e
    rw[hp] at hi;cases hi
    obtain ⟨o,o1,o2⟩:=hR.obj _ _ hp
    rw[hid] at o1;cases o1
    exact ⟨_,e2,o2.1,curT,hb,hcT,hT,hc1 _ hle hnew⟩
   ·by_cases k:K i
    ·exact ⟨_,(hK i k).2.2.1,trivial⟩
    ·obtain ⟨o,o1,o2⟩:=hR.obj i q hi
     refine ⟨o,by rw[e3 i hne e k];exact o1, ?_⟩
     by_cases hd:o= .dead
     ·subst hd;exact trivial
     ·have hd':h.get i≠some .dead:=by rw[o1];intro x;cases x;exact hd rfl
      refine o2.mono hle (hfr q.b (hR.lt i q hi) (hR.inj id i p q hp hi (fun x=>e x.symm) hlive hd').symm fun j r kj hj=> ?_)
      exact hR.inj j i r q hj hi (fun x=>k (x▸kj)) (hK j kj).2.1 hd'
 ·rcases hinv i q hi with ⟨rfl,rfl⟩|⟨hi,hne⟩
  ·rcases hinv j r hj with ⟨rfl,rfl⟩|⟨hj,hne'⟩
   ·exact xN rfl hij
   ·obtain ⟨x1,x2⟩:=hnd j hne' d2
    exact (hgj j r hj x1 x2).symm
  ·rcases hinv j r hj with ⟨rfl,rfl⟩|⟨hj,hne'⟩
   ·have l:=hlv i hne d1
    exact hgj i q hi l.1 fun k=>by rw[(hK i k).2.2.1] at d1;exact xN rfl d1.1
   ·exact hR.inj i j q r hi hj hij (hlv i hne d1) (hnd j hne' d2).1
 ·rcases hinv i q hi with ⟨rfl,rfl⟩|⟨hi,hne⟩
  ·exact hgB
  ·exact hR.base i q hi (hlv i hne d)
 ·rcases hinv i q hi with ⟨rfl,rfl⟩|⟨hi,_⟩
  ·exact hgl
  ·exact Nat.lt_of_lt_of_le (hR.lt i q hi) hsz
 ·rw[hn,D4.toNat_nxt]
  by_cases e:i=h.next
  ·subst e;omega
  ·by_cases e':i=id
   ·subst e';have:=hR.fresh _ _ hid;omega
   ·by_cases k:K i
    ·obtain ⟨-,l1,-,x,hx⟩:=hK i k
     obtain ⟨o,o1,_⟩:=hR.obj i x hx
     have:=hR.fresh i o o1;omega
    ·rw[e3 i e e' k] at ho;have:=hR.fresh i o ho;omega
 ·rw[hn,D4.toNat_nxt];omega
 ·rcases hinv i q hi with ⟨rfl,_⟩|⟨hi,_⟩
  ·exact .inr (Nat.le_refl _)
  ·exact .inl hi
 ·rcases hinv i q hi with ⟨rfl,rfl⟩|⟨hi,hne⟩
  ·rcases hgb with ⟨i,r,k1,k2,k3⟩|k
   ·exact .inr ⟨i,r,k2,(hK i k1).2.1,k3⟩
   ·exact .inl k
  ·exact .inr ⟨i,q,hi,hlv i hne d,rfl⟩
 ·have hne:i≠h.next:=fun e=>by rw[e] at hl;exact Nat.lt_irrefl _ hl
  have hk:¬K i:=fun k=>by obtain ⟨-,-,-,x,hx⟩:=hK i k;rw[hi] at hx;cases hx
  exact e3 i hne (fun e=>by rw[e,hp] at hi;cases hi) hk
 ·exact hfr b hb' (fun e=>hq id p hp hlive e.symm) fun i q k hi=>hq i q hi (hK i k).2.1
theorem Rel.bld0 (hR:Rel P ι B h w) {id:D4} {p:Pl} (hp:ι id=some p) {T:TypeId} {c0 c1:List NV} (hid:h.get id=some (.cellsT T c0)) {curT:Array Value}
 (hb:w'.heap[p.b]? =some (.cells curT T (0,0))) (hcT:curT.size=p.n) (hT:c1.length<=p.n/\(MT T=true->c1.length=p.n)) (hc1:∀(i:Nat) (v:NV),c1[i]? =some v->∃v':Value,curT[i]? =some v'/\VR ι v v'/\v'.oneCell'=true)
 (hos:w'.os=w.os) (htape:w'.tape=w.tape) (hout:w'.output=w.output) (hsz:w.heap.size<=w'.heap.size)
 (hfr:∀k,k<w.heap.size->k≠p.b->w'.heap[k]? =w.heap[k]?):Rel P ι B (h.put id (.cellsT T c1)) w'/\Grow ι h w ι (h.put id (.cellsT T c1)) w':=by
 have hlive:Live (h.get id):=by rw[hid];simp
 have hlv:∀i,Live ((h.put id (.cellsT T c1)).get i)->Live (h.get i):=fun i hl=>by
  by_cases e:i=id
  ·subst e;exact hlive
  ·rwa [NH.get_put_ne _ _ e] at hl
 have hnd:∀i,(h.put id (.cellsT T c1)).get i≠some .dead->h.get i≠some .dead:=fun i hl=>by
  by_cases e:i=id
  ·subst e;exact hlive.1
  ·rwa [NH.get_put_ne _ _ e] at hl
 refine ⟨⟨fun i q hi=> ?_,fun i j q r hi hj hij d1 d2=>hR.inj i j q r hi hj hij (hlv i d1) (hnd j d2),fun i q hi d=>hR.base i q hi (hlv i d),fun i q hi=>Nat.lt_of_lt_of_le (hR.lt i q hi) hsz,fun i o ho=> ?_,hR.gl⟩,⟨aB.le_refl _,Nat.le_refl _,fun i q hi=> .inl hi,fun i q hi d=> .inr ⟨i,q,hi,hlv i d,rfl⟩,fun i hi hl=> ?_,hsz,hos,htape,hout,fun b hb' hq=>hfr b hb' fun e=>hq id p hp hlive e.symm⟩⟩
 ·by_cases e:i=id
  ·subst e
   rw[hp] at hi;cases hi
   obtain ⟨o,o1,o2⟩:=hR.obj _ _ hp
   rw[hid] at o1;cases o1
   exact ⟨_,NH.get_put_same _ _ _,o2.1,curT,hb,hcT,hT,hc1⟩
  ·obtain ⟨o,o1,o2⟩:=hR.obj i q hi
   refine ⟨o,by rw[NH.get_put_ne _ _ e];exact o1, ?_⟩
   by_cases hd:o= .dead
   ·subst hd;exact trivial
   ·have hd':h.get i≠some .dead:=by rw[o1];intro x;cases x;exact hd rfl
    exact o2.mono (aB.le_refl _) (hfr q.b (hR.lt i q hi) (hR.inj id i p q hp hi (fun x=>e x.symm) hlive hd').symm)
 ·show i.toNat<h.next.toNat
  by_cases e:i=id
  ·subst e;exact hR.fresh _ _ hid
  ·rw[NH.get_put_ne _ _ e] at ho;exact hR.fresh i o ho
 ·exact NH.get_put_ne _ _ fun e=>by rw[e,hp] at hi;cases hi
theorem nX {ι:aB} {s:List Nat} {t:ByteArray} (hs:t.data.toList.map UInt8.toNat=s):∀(i:Nat) (v:NV),(j5 s)[i]? =some v->∃v':Value,(Lib.strCells t)[i]? =some v'/\VR ι v v'/\v'.oneCell'=true:=fun i v hv=>by
 subst hs
 rw[jL,List.map_map,List.getElem?_map] at hv
 obtain ⟨b,hb,rfl⟩:=Option.map_eq_some_iff.1 hv
 exact ⟨_,by rw[Lib.strCells,List.getElem?_map,hb];rfl,.int _ _,rfl⟩
omit [Val] in
theorem wF {c:Array Value} {a b d:Value} (hn:c.size=3) (h0:c[0]? =some a) (h1:c[1]? =some b) (h2:c[2]? =some d):c=#[a,b,d]:=by
 apply Array.ext_getElem?
 intro i
 match i with
 |0=>exact h0
 |1=>exact h1
 |2=>exact h2
 |i+3=>rw[Array.getElem?_eq_none (by omega)];rfl
set_option maxHeartbeats 1000000 in
theorem wG {ρ:Ren} (L:Lays.n166 P ρ) (X:Builder.Extra P ρ) {T:TypeId} (Y:WX P ρ T) (hMT:MT T=true) (hMU:MT (ρ.t 5)=false) (hen:∀args w,(callFunc (ρ.f 166) args).run P w= .ok (.enter (ρ.f 166) args) w):iW P (ρ.f 166) (xi T (ρ.t 5)):=
 iW.of hen fun ι B h w args args' v h' hF hR hB hl=>by
  unfold xi at hF
  split at hF
  rotate_left
  ·cases hF
  rename_i id s
  cases hl with
  |cons _ _ _ _ hx hl1=>
  cases hx with
  |ptr _ _ p hp=>
  cases hl1 with
  |cons _ _ _ _ hy hl2=>
  cases hy with
  |str _ t hs=>
  cases hl2
  split at hF
  rotate_left
  ·cases hF
  rename_i T' a b d hid
  obtain ⟨g1,hF1⟩:=am hF
  clear hF
  obtain rfl:=xS g1
  obtain ⟨g2,hF⟩:=am hF1
  clear hF1 g1
  obtain ⟨o,o1,o2⟩:=hR.obj id p hp
  rw[hid] at o1;cases o1
  obtain ⟨k0,cur0,k1,k2,k3,k4⟩:=o2
  have hn3:p.n=3:=(k3.2 hMT).symm
  obtain ⟨p0,c0,vp0,op0⟩:=k4 0 a rfl
  obtain ⟨v0,c1,vv0,ov0⟩:=k4 1 b rfl
  obtain ⟨d0,c2,vd0,od0⟩:=k4 2 d rfl
  have hcur:=wF (by omega) c0 c1 c2
  subst hcur
  have hself:p0= .pointer none∨p0= .pointer (some ⟨p.b,0,none⟩):=by
   unfold pR at g2
   split at g2
   ·cases vp0;exact .inl rfl
   ·rename_i i
    have e:=D4.toNat_inj (xS g2)
    subst e
    cases vp0 with
    |ptr _ _ p' hp'=>rw[hp] at hp';cases hp';exact .inr (by rw[k0])
   ·cases g2
  have hlive:Live (h.get id):=by rw[hid];simp
  have hsz:t.size=s.length:=by rw[←hs,List.length_map,Array.length_toList];rfl
  have hpo:(⟨p.b,p.o+0,none⟩:Addr)=⟨p.b,0,none⟩:=by rw[k0]
  rw[hpo]
  split at hF
  ·
   cases vv0
   have hW:WAt T' (ρ.t 5) p.b (.pointer none) d0 [] (.slice none 0 0) w∨WAt T' (ρ.t 5) p.b (.pointer (some ⟨p.b,0,none⟩)) d0 [] (.slice none 0 0) w:=by
    rcases hself with rfl|rfl
    ·exact .inl ⟨k1,⟨rfl,.inl ⟨rfl,rfl⟩⟩,by simp[Value.ownBlock]⟩
    ·exact .inr ⟨k1,⟨rfl,.inl ⟨rfl,rfl⟩⟩,by simp[Value.ownBlock]⟩
   split at hF
   ·rw[NH.set_eq] at hF
    injection hF with hF
    injection hF with hv hh
    subst hv;subst hh
    refine (W_WriteString L X Y p.b d0 _ [] t w hW (by simp[hsz])).mono ?_
    rintro e w' ⟨rfl,v',⟨w1,w2,w3⟩,hnil,hos,htape,hout,hsz',hblk,hfr⟩
    have hv':=hnil.2 ⟨rfl,by rw[hsz];rfl⟩
    subst hv'
    obtain ⟨r1,r2⟩:=hR.bld0 (w':=w') hp hid (c1:= [.ptr id 0,.nils,d]) w1 (by rw[hn3];rfl) ⟨by rw[hn3];exact Nat.le_refl 3,fun _=>by rw[hn3];rfl⟩ (fun i v hv=>by
     match i with
     |0=>cases hv;exact ⟨_,rfl,by rw[←hpo];exact .ptr _ _ p hp,rfl⟩
     |1=>cases hv;exact ⟨_,rfl,.nils,rfl⟩
     |2=>cases hv;exact ⟨_,rfl,vd0,od0⟩
     |i+3=>cases hv) hos htape hout hsz' (fun k hk hkb=>hfr k hk hkb (by simp[Value.ownBlock]))
    exact ⟨ι,_,rfl,.tup _ [_,_] (.cons _ _ _ _ (by rw[hsz];exact .int _ _) (.cons _ _ _ _ .nili .nil)),r1,Nat.le_trans hB hsz',r2⟩
   ·rename_i c s
    rw[aa] at hF
    obtain ⟨g3,hF3⟩:=am hF
    clear hF
    have g3:=Nat.le_of_ble_eq_true g3
    rw[NH.set_eq,NH.new_eq] at hF3
    injection hF3 with hF
    injection hF with hv hh
    subst hv;subst hh
    have hsz:t.size=s.length+1:=hsz
    refine (W_WriteString L X Y p.b d0 _ [] t w hW (by simp;omega)).mono ?_
    rintro e w' ⟨rfl,v',⟨w1,w2,w3⟩,hnil,hos,htape,hout,hsz',hblk,hfr⟩
    rcases w2.2 with ⟨rfl,q⟩|⟨g,cap,cur,rfl,hg,n1,n2,n3,n4⟩
    ·have:=(hnil.1 rfl).2;omega
    have hlb:([]++Lib.strCells t).length=s.length+1:=by simp[Lib.strCells_length,hsz]
    rw[hlb] at w1 n1 n4
    have hbl:(j5 (c::s)).length=s.length+1:=by rw[jL,List.length_map];rfl
    obtain ⟨ι',j1,j2,j3⟩:=hR.bld (h':=(h.put id (.cellsT T' [.ptr id 0,.slc h.next 0 (Nat.succ s.length) 1 0,d])).add (.cellsT (ρ.t 5) (j5 (c::s)))) hp hid (fun _=>False) (fun _ q=>q.elim) rfl (NH.get_add_same _ _)
     (by rw[NH.get_add_ne _ _ (fun q=>by
      obtain ⟨o,h1,_⟩:=hR.obj _ _ hp
      have:=hR.fresh _ _ h1
      rw[q] at this;exact Nat.lt_irrefl _ this)];exact NH.get_put_same _ _ _) (fun i i1 i2 _=>by rw[NH.get_add_ne (h.put id _) _ i1,NH.get_put_ne _ _ i2])
     hg (.inr (by
      rcases hblk with q|⟨g',q,q'⟩
      ·cases q
      ·cases q;exact q')) ⟨by omega,fun q=>by rw[hMU] at q;cases q⟩ (fun ι' hle i v hv=>by
       have hi:i<s.length+1:=by rw[←hbl];exact (List.getElem?_eq_some_iff.1 hv).1
       obtain ⟨v',a1,a2,a3⟩:=nX (ι:=ι') hs i v hv
       refine ⟨v', ?_,a2,a3⟩
       rw[List.nil_append] at n4
       rw[←n4,List.getElem?_take,xP hi,Array.getElem?_toList] at a1
       exact a1) w1 (by rw[hn3];rfl) ⟨by rw[hn3];exact Nat.le_refl 3,fun _=>by rw[hn3];rfl⟩ (fun ι' hle hnx i v hv=>by
     match i with
     |0=>cases hv;exact ⟨_,rfl,by rw[←hpo];exact .ptr _ _ p (hle _ _ hp),rfl⟩
     |1=>cases hv;exact ⟨_,rfl,.slc _ _ _ _ _ _ _ _ hnx n1 (Nat.zero_le _) n2 (by decide) (fun _=>⟨rfl,by show 0+0+cap*1<=cur.size;omega⟩),rfl⟩
     |2=>cases hv;exact ⟨_,rfl,vd0.mono hle,od0⟩
     |i+3=>cases hv) hB hos htape hout hsz' (fun k hk hkb _=>hfr k hk hkb (by simp[Value.ownBlock]))
    exact ⟨ι',_,rfl,.tup _ [_,_] (.cons _ _ _ _ (by rw[hsz];exact .int _ _) (.cons _ _ _ _ .nili .nil)),j2,Nat.le_trans hB hsz',j3⟩
  ·
   rename_i ob n
   split at hF
   rotate_left
   ·cases hF
   rename_i U' c hob
   obtain ⟨g3,hF3⟩:=am hF
   clear hF
   obtain rfl:=xS g3
   obtain ⟨g4,hF⟩:=am hF3
   clear hF3 g3
   simp only[Bool.and_eq_true] at g4
   obtain ⟨g4,g5⟩:=g4
   obtain rfl:=xS g4
   have g5:=Nat.le_of_ble_eq_true g5
   rw[aa,aa] at hF
   obtain ⟨g6,hF3⟩:=am hF
   clear hF
   have g6:=Nat.le_of_ble_eq_true g6
   have g6:c.length+s.length<=1000000:=g6
   rw[NH.set_eq,NH.set_eq,NH.new_eq] at hF3
   injection hF3 with hF
   injection hF with hv hh
   subst hv;subst hh
   cases vv0 with
   |slc _ _ _ _ _ q a' cap z1 z2 z3 z4 z5 z6=>
   obtain ⟨z6,z7⟩:=z6 (by omega)
   have z8:cap<=q.n:=by omega
   obtain ⟨o,o1,o2⟩:=hR.obj ob q z1
   rw[hob] at o1;cases o1
   obtain ⟨m0,curO,m1,m2,m3,m4⟩:=o2
   have hobl:Live (h.get ob):=by rw[hob];simp
   have hne:ob≠id:=fun e=>by
    rw[e,hid] at hob
    injection hob with x
    injection x with x _
    rw[x,hMU] at hMT;cases hMT
   have hqp:q.b≠p.b:=hR.inj ob id q p z1 hp hne hobl hlive.1
   have ha':a'=⟨q.b,0,none⟩:=by rw[z6,m0]
   subst ha'
   have hcl:(curO.toList.take c.length).length=c.length:=by
    have y:curO.toList.length=curO.size:=Array.length_toList
    rw[List.length_take];have:=m3.1;omega
   have hOW:OW (ρ.t 5) (.slice (some ⟨q.b,0,none⟩) c.length cap) (curO.toList.take c.length).length (curO.toList.take c.length) w:=by
    rw[hcl]
    exact ⟨hcl,.inr ⟨q.b,cap,curO,rfl,m1,z2,z4,by omega,rfl⟩⟩
   have hob2:(Value.slice (some ⟨q.b,0,none⟩) c.length cap).ownBlock≠some p.b:=fun e=>hqp (by simpa [Value.ownBlock] using e)
   have hW:WAt T' (ρ.t 5) p.b (.pointer none) d0 (curO.toList.take c.length) (.slice (some ⟨q.b,0,none⟩) c.length cap) w∨WAt T' (ρ.t 5) p.b (.pointer (some ⟨p.b,0,none⟩)) d0 (curO.toList.take c.length) (.slice (some ⟨q.b,0,none⟩) c.length cap) w:=by
    rcases hself with rfl|rfl
    ·exact .inl ⟨k1,hOW,hob2⟩
    ·exact .inr ⟨k1,hOW,hob2⟩
   refine (W_WriteString L X Y p.b d0 _ _ t w hW (by rw[hcl];omega)).mono ?_
   rintro e w' ⟨rfl,v',⟨w1,w2,w3⟩,hnil,hos,htape,hout,hsz',hblk,hfr⟩
   have hlb:(curO.toList.take c.length++Lib.strCells t).length=c.length+s.length:=by rw[List.length_append,hcl,Lib.strCells_length,hsz]
   rw[hlb] at w2
   rcases w2.2 with ⟨rfl,q⟩|⟨g,cap',cur,rfl,hg,n1,n2,n3,n4⟩
   ·omega
   have hbl:(qA c (j5 s)).length=c.length+s.length:=by rw[nP,List.length_append,jL,List.length_map]
   have hidn:∀{i:D4} {r:Pl},ι i=some r->i≠h.next:=fun hi e=>by
    obtain ⟨o,h1,_⟩:=hR.obj _ _ hi
    have:=hR.fresh _ _ h1
    rw[e] at this;exact Nat.lt_irrefl _ this
   obtain ⟨ι',j1,j2,j3⟩:=hR.bld (h':=((h.put ob .dead).put id (.cellsT T' [.ptr id 0,.slc h.next 0 (Nat.add c.length s.length) 1 0,d])).add (.cellsT (ρ.t 5) (qA c (j5 s)))) hp hid (fun i=>i=ob)
    (fun i e=>by rw[e];exact ⟨hne,hobl,by rw[NH.get_add_ne ((h.put ob .dead).put id _) _ (hidn z1),NH.get_put_ne _ _ hne];exact NH.get_put_same _ _ _,q,z1⟩) rfl (NH.get_add_same _ _)
    (by rw[NH.get_add_ne ((h.put ob .dead).put id _) _ (hidn hp)];exact NH.get_put_same _ _ _) (fun i i1 i2 i3=>by rw[NH.get_add_ne ((h.put ob .dead).put id _) _ i1,NH.get_put_ne _ _ i2,NH.get_put_ne _ _ i3])
    hg (by
     rcases hblk with e|⟨g',e,e'⟩
     ·cases e;exact .inl ⟨ob,q,rfl,z1,rfl⟩
     ·cases e;exact .inr e') ⟨by omega,fun q=>by rw[hMU] at q;cases q⟩ (fun ι' hle i v hv=>by
      have hi:i<c.length+s.length:=by rw[←hbl];exact (List.getElem?_eq_some_iff.1 hv).1
      have hat:cur[i]? =(curO.toList.take c.length++Lib.strCells t)[i]? :=by rw[←n4,List.getElem?_take,xP hi,Array.getElem?_toList]
      rw[hat]
      rw[nP] at hv
      by_cases h2:i<c.length
      ·rw[List.getElem?_append_left h2] at hv
       obtain ⟨u,a1,a2,a3⟩:=m4 i v hv
       exact ⟨u,by rw[List.getElem?_append_left (by omega),List.getElem?_take,xP h2,Array.getElem?_toList];exact a1,a2.mono hle,a3⟩
      ·rw[List.getElem?_append_right (by omega)] at hv
       rw[List.getElem?_append_right (by omega),hcl]
       exact nX hs _ v hv) w1 (by rw[hn3];rfl) ⟨by rw[hn3];exact Nat.le_refl 3,fun _=>by rw[hn3];rfl⟩ (fun ι' hle hnx i v hv=>by
    match i with
    |0=>cases hv;exact ⟨_,rfl,by rw[←hpo];exact .ptr _ _ p (hle _ _ hp),rfl⟩
    |1=>cases hv;exact ⟨_,rfl,.slc _ _ _ _ _ _ _ _ hnx n1 (Nat.zero_le _) n2 (by decide) (fun _=>⟨rfl,by show 0+0+cap'*1<=cur.size;omega⟩),rfl⟩
    |2=>cases hv;exact ⟨_,rfl,vd0.mono hle,od0⟩
    |i+3=>cases hv) hB hos htape hout hsz' (fun k hk hkb hK=>hfr k hk hkb (fun e=>hK ob q rfl z1 (by simpa [Value.ownBlock] using e)))
   exact ⟨ι',_,rfl,.tup _ [_,_] (.cons _ _ _ _ (by rw[hsz];exact .int _ _) (.cons _ _ _ _ .nili .nil)),j2,Nat.le_trans hB hsz',j3⟩
  ·cases hF
noncomputable def uE (c:List NV):Option (List Nat):=List.rec (some []) (fun v _ r=>match v with| .int .u8 (.lit (.ofNat k))=>cond (Nat.blt k 256) (match r with|some l=>some (k::l)|none=>none) none|_=>none) c
omit [Val] in
theorem lf:∀{c:List NV} {l:List Nat},uE c=some l->c=l.map (fun k=> .int .u8 (.lit (.ofNat k)))/\∀k∈l,k<256
 | [],l,e=>by cases e;exact ⟨rfl,by simp⟩
 |v::c,l,e=>by
  have e:(match (generalizing:=false) v with| .int .u8 (.lit (.ofNat k))=>cond (Nat.blt k 256) (match uE c with|some l=>some (k::l)|none=>none) none|_=>none)=some l:=e
  split at e
  ·obtain ⟨b,e2⟩:=am e
   split at e2
   ·rename_i l' hl
    cases e2
    obtain ⟨q1,q2⟩:=lf hl
    refine ⟨by rw[q1];rfl,fun k hk=> ?_⟩
    rcases List.mem_cons.1 hk with rfl|hk
    ·exact Nat.le_of_ble_eq_true b
    ·exact q2 k hk
   ·cases e2
  ·cases e
noncomputable def uG (T U:Nat) (l:List NV) (h:NH):Option (NV×NH):=
 match l with
 | [.ptr id 0]=>(match h.get id with
  |some (.cellsT T' [_,b,_])=>cond (Nat.beq T' T) (match b with
   | .nils=>some (.str [],h)
   | .slc ob 0 n 1 0=>(match h.get ob with
    |some (.cellsT U' c)=>cond (Nat.beq U' U) (cond (Nat.beq c.length n&&Nat.ble 1 n) (match uE c with|some s=>h.set ob .dead fun h=>some (.str s,h)|none=>none) none) none
    |_=>none)
   |_=>none) none
  |_=>none)
 |_=>none
theorem uM {ρ:Ren} (L:Lays.n169 P ρ) (X:Builder.Extra P ρ) {T:TypeId} (hMT:MT T=true) (hMU:MT (ρ.t 5)=false) (hen:∀args w,(callFunc (ρ.f 169) args).run P w= .ok (.enter (ρ.f 169) args) w):iW P (ρ.f 169) (uG T (ρ.t 5)):=
 iW.of hen fun ι B h w args args' v h' hF hR hB hl=>by
  unfold uG at hF
  split at hF
  rotate_left
  ·cases hF
  rename_i id
  cases hl with
  |cons _ _ _ _ hx hl1=>
  cases hx with
  |ptr _ _ p hp=>
  cases hl1
  split at hF
  rotate_left
  ·cases hF
  rename_i T' a b d hid
  obtain ⟨g1,hF1⟩:=am hF
  clear hF
  obtain rfl:=xS g1
  clear g1
  obtain ⟨o,o1,o2⟩:=hR.obj id p hp
  rw[hid] at o1;cases o1
  obtain ⟨k0,cur0,k1,k2,k3,k4⟩:=o2
  have hn3:p.n=3:=(k3.2 hMT).symm
  obtain ⟨p0,c0,vp0,op0⟩:=k4 0 a rfl
  obtain ⟨v0,c1,vv0,ov0⟩:=k4 1 b rfl
  obtain ⟨d0,c2,vd0,od0⟩:=k4 2 d rfl
  have hcur:=wF (by omega) c0 c1 c2
  subst hcur
  have hlive:Live (h.get id):=by rw[hid];simp
  have hpo:(⟨p.b,p.o+0,none⟩:Addr)=⟨p.b,0,none⟩:=by rw[k0]
  rw[hpo]
  split at hF1
  ·cases vv0
   injection hF1 with hF
   injection hF with hv hh
   subst hv;subst hh
   refine (W_String_nil L X p.b p0 d0 w k1).mono ?_
   rintro e w' ⟨rfl,hb⟩
   exact ⟨ι,_,rfl,.str _ _ rfl,hR.below hb,Nat.le_trans hB hb.size,.below hb⟩
  ·rename_i ob n
   split at hF1
   rotate_left
   ·cases hF1
   rename_i U' c hob
   obtain ⟨g3,hF3⟩:=am hF1
   clear hF1
   obtain rfl:=xS g3
   obtain ⟨g4,hF⟩:=am hF3
   clear hF3 g3
   simp only[Bool.and_eq_true] at g4
   obtain ⟨g4,g5⟩:=g4
   obtain rfl:=xS g4
   have g5:=Nat.le_of_ble_eq_true g5
   split at hF
   rotate_left
   ·cases hF
   rename_i ks hks
   obtain ⟨y1,y2⟩:=lf hks
   rw[NH.set_eq] at hF
   injection hF with hF
   injection hF with hv hh
   subst hv;subst hh
   cases vv0 with
   |slc _ _ _ _ _ q a' cap z1 z2 z3 z4 z5 z6=>
   obtain ⟨z6,z7⟩:=z6 (by omega)
   obtain ⟨o,o1,o2⟩:=hR.obj ob q z1
   rw[hob] at o1;cases o1
   obtain ⟨m0,curO,m1,m2,m3,m4⟩:=o2
   have hobl:Live (h.get ob):=by rw[hob];simp
   have ha':a'=⟨q.b,0,none⟩:=by rw[z6,m0]
   subst ha'
   have hkl:ks.length=c.length:=by rw[y1,List.length_map]
   have hll:(ks.map UInt8.ofNat).length=c.length:=by rw[List.length_map,hkl]
   have hcs:curO.toList.length=curO.size:=Array.length_toList
   have htk:curO.toList.take (ks.map UInt8.ofNat).length=Lib.byteCells (ks.map UInt8.ofNat):=by
    apply List.ext_getElem?
    intro i
    rw[hll,List.getElem?_take]
    by_cases hi:i<c.length
    ·rw[xP hi,Array.getElem?_toList]
     have hi2:i<ks.length:=by omega
     obtain ⟨u,a1,a2,a3⟩:=m4 i (.int .u8 (.lit (.ofNat ks[i]))) (by rw[y1,List.getElem?_map,List.getElem?_eq_getElem hi2];rfl)
     rw[a1]
     cases a2 with
     |int _ _=>
     have h256:=y2 ks[i] (List.getElem_mem hi2)
     simp only[Lib.byteCells,List.getElem?_map,List.getElem?_eq_getElem hi2,Option.map_some]
     congr 2
     rw[UInt8.toNat_ofNat',Nat.mod_eq_of_lt h256];rfl
    ·rw[xO hi,List.getElem?_eq_none (by simp[Lib.byteCells];omega)]
   rw[←hll] at k1
   refine (W_String L X p.b q.b cap p0 d0 (ks.map UInt8.ofNat) curO w k1 m1 (by omega) z4 (by omega) htk (fun e=>by rw[e] at hll;simp at hll;omega)).mono ?_
   rintro e w' ⟨rfl,rfl⟩
   obtain ⟨r1,r2⟩:=hR.turn (w':=w.drew.freeze ⟨q.b,0,none⟩ (ks.map UInt8.ofNat).length) z1 hobl .dead trivial (by unfold World.freeze;split<;>simp) (by unfold World.freeze;split<;>rfl) (by unfold World.freeze;split<;>rfl) (by unfold World.freeze;split<;>rfl) (fun b hb=>by
    unfold World.freeze;split
    ·rfl
    ·simp only[Array.getElem?_modify];rw[xO fun e=>hb e.symm];rfl)
   refine ⟨ι,_,rfl,.str _ _ ?_,r1,Nat.le_trans hB r2.size,r2⟩
   rw[List.toList_toArray,List.map_map]
   conv=>rhs;rw[←List.map_id ks]
   apply List.map_congr_left
   intro k hk
   show (UInt8.ofNat k).toNat=k
   rw[UInt8.toNat_ofNat',Nat.mod_eq_of_lt (y2 k hk)]
  ·cases hF1
end
end Nm
/-
  DERIVED: THE SHELF's CONTRACTS AT THIS DUMP, IN PLAIN WORDS (tools/lay-plain.mjs out of 'TrydShq.lean', which tools/lay-shelf.mjs wrote): THE SAME DECLARATIONS UNDER THE SAME NAMES: 'import', 'namespace', 'open', 'def', 'theorem' AND NOTHING ELSE: no command of the shelf's: FOR A HAND-IN. Each laying: the table of numbers ('.._ren') and one theorem, a field a fact of the dump's own or the kernel's comparison; each contract: ONE APPLICATION.
-/
namespace Go.Proofs
open Go.Shelf
def Tryd.lays169_ren : Go.Shelf.Ren := ⟨fun | 169 => 16 | n => n, fun | 70 => 54 | 9 => 9 | 0 => 0 | 72 => 56 | 37 => 32 | 127 => 89 | 3 => 3 | 5 => 5 | n => n, fun | n => n⟩
theorem Tryd.lays169 : Go.Proofs.Lays.n169 Tryd.prog Tryd.lays169_ren := {
  mixed := by kernel_rfl
  f169 := Tryd.func16.trans (congrArg some (by kernel_rfl))
  t0 := Tryd.underlying0
  a0 := Tryd.isAgg0
  z0 := Tryd.sizeOf0
  v0 := Tryd.zeroValue0
  t3 := Tryd.underlying3
  a3 := Tryd.isAgg3
  z3 := Tryd.sizeOf3
  v3 := Tryd.zeroValue3
  t9 := Tryd.underlying9
  a9 := Tryd.isAgg9
  z9 := Tryd.sizeOf9
  v9 := Tryd.zeroValue9
  t37 := Tryd.underlying32
  a37 := Tryd.isAgg32
  z37 := Tryd.sizeOf32
  v37 := Tryd.zeroValue32
  t70 := Tryd.underlying54
  a70 := Tryd.isAgg54
  z70 := Tryd.sizeOf54
  v70 := Tryd.zeroValue54
  t72 := Tryd.underlying56
  a72 := Tryd.isAgg56
  z72 := Tryd.sizeOf56
  v72 := Tryd.zeroValue56
  t127 := Tryd.underlying89
  a127 := Tryd.isAgg89
  z127 := Tryd.sizeOf89
  v127 := Tryd.zeroValue89 }
def Tryd.lays166_ren : Go.Shelf.Ren := ⟨fun | 166 => 27 | 240 => 37 | 276 => 61 | n => n, fun | 0 => 0 | 3 => 3 | 4 => 4 | 5 => 5 | 9 => 9 | 20 => 20 | 37 => 32 | 70 => 54 | 72 => 56 | 75 => 82 | 80 => 66 | 164 => 119 | 127 => 89 | n => n, fun | n => n⟩
theorem Tryd.lays166 : Go.Proofs.Lays.n166 Tryd.prog Tryd.lays166_ren := {
  mixed := by kernel_rfl
  f166 := Tryd.func27.trans (congrArg some (by kernel_rfl))
  f240 := Tryd.func37.trans (congrArg some (by kernel_rfl))
  f276 := Tryd.func61.trans (congrArg some (by kernel_rfl))
  t0 := Tryd.underlying0
  a0 := Tryd.isAgg0
  z0 := Tryd.sizeOf0
  v0 := Tryd.zeroValue0
  t3 := Tryd.underlying3
  a3 := Tryd.isAgg3
  z3 := Tryd.sizeOf3
  v3 := Tryd.zeroValue3
  t4 := Tryd.underlying4
  a4 := Tryd.isAgg4
  z4 := Tryd.sizeOf4
  v4 := Tryd.zeroValue4
  t9 := Tryd.underlying9
  a9 := Tryd.isAgg9
  z9 := Tryd.sizeOf9
  v9 := Tryd.zeroValue9
  t20 := Tryd.underlying20
  a20 := Tryd.isAgg20
  z20 := Tryd.sizeOf20
  v20 := Tryd.zeroValue20
  t37 := Tryd.underlying32
  a37 := Tryd.isAgg32
  z37 := Tryd.sizeOf32
  v37 := Tryd.zeroValue32
  t70 := Tryd.underlying54
  a70 := Tryd.isAgg54
  z70 := Tryd.sizeOf54
  v70 := Tryd.zeroValue54
  t72 := Tryd.underlying56
  a72 := Tryd.isAgg56
  z72 := Tryd.sizeOf56
  v72 := Tryd.zeroValue56
  t75 := Tryd.underlying82
  a75 := Tryd.isAgg82
  z75 := Tryd.sizeOf82
  v75 := Tryd.zeroValue82
  t164 := Tryd.underlying119
  a164 := Tryd.isAgg119
  z164 := Tryd.sizeOf119
  v164 := Tryd.zeroValue119
}
end Go.Proofs
open Go Nm Go.Proofs Go.RowKit Go.Shelf
open Go.Proofs.YtjmhciggnonhfaaDoor
namespace SK
theorem mixed:Tryd.prog.follows .mixedOrders=true:=by kernel_rfl
noncomputable def S1:bp:=sv 27 (xi 58 5) (sv 16 (uG 58 5) xF)
theorem kept:lE code S1 20000 4 [] (.bool true)=true:=by kernel_rfl
noncomputable def S0:bp:=vQ 4 [] (.bool true) S1
theorem tV (ρ:Ren) (h72:ρ.t 72=56) (h5:ρ.t 5=5):Builder.Extra Tryd.prog ρ where
 sizeBuilder:=by rw[h72];kernel_rfl
 liesBuilder:=by rw[h72];kernel_rfl
 t5:=by rw[h5];exact Tryd.underlying5
 a5:=by rw[h5];exact Tryd.isAgg5
 z5:=by rw[h5];exact Tryd.sizeOf5
 v5:=by rw[h5];exact Tryd.zeroValue5
 infoByte:=by rw[h5];kernel_rfl
 cellsByte:=by rw[h5];kernel_rfl
 sizeByte:=by rw[h5];kernel_rfl
 neB5:=by rw[h72,h5];decide
section
variable [Val]
theorem xM:cS Tryd.prog S1:=
 nO (nO pY (uM (T:=58) Tryd.lays169 (tV _ rfl rfl) (by kernel_rfl) (by kernel_rfl) (enters_of Tryd.func16 (by kernel_rfl) rfl)))
  (wG (T:=58) Tryd.lays166 (tV _ rfl rfl) ⟨by kernel_rfl,by decide⟩ (by kernel_rfl) (by kernel_rfl) (enters_of Tryd.func27 (by kernel_rfl) rfl))
theorem u0:cS Tryd.prog S0:=rz mixed Tryd.codeOk xM (nW.kept kept)
end
theorem wj:a6 code S0 200000 3 [.int .i64 (.lit 0)]=true:=by kernel_rfl
theorem wc:a6 code S0 200000 3 [.int .i64 (.lit 1)]=true:=by kernel_rfl
theorem vo:a6 code S0 200000 3 [.int .i64 (.lit 2)]=true:=by kernel_rfl
theorem ww:a6 code S0 200000 3 [.int .i64 (.lit 3)]=true:=by kernel_rfl
theorem wI:a6 code S0 200000 3 [.int .i64 (.lit 4)]=true:=by kernel_rfl
theorem wf:a6 code S0 200000 3 [.int .i64 (.lit 5)]=true:=by kernel_rfl
theorem vu:a6 code S0 200000 3 [.int .i64 (.lit 6)]=true:=by kernel_rfl
theorem vO:a6 code S0 200000 3 [.int .i64 (.lit 7)]=true:=by kernel_rfl
theorem wX:a6 code S0 200000 3 [.int .i64 (.lit 8)]=true:=by kernel_rfl
theorem wo:a6 code S0 200000 3 [.int .i64 (.lit 9)]=true:=by kernel_rfl
theorem uk:a6 code S0 200000 3 [.int .i64 (.le (-1))]=true:=by kernel_rfl
theorem tZ:a6 code S0 200000 3 [.int .i64 (.ge 10)]=true:=by kernel_rfl
section
variable [Val]
theorem xk (n:Int):∃x:SI,(∀ι,VR ι (.int .i64 x) (.int .i64 n))/\a6 code S0 200000 3 [.int .i64 x]=true:=by
 by_cases h1:n<=-1
 ·exact ⟨_,fun _=> .ile _ _ _ h1,uk⟩
 by_cases h2:10<=n
 ·exact ⟨_,fun _=> .ige _ _ _ h2,tZ⟩
 have h:n=0∨n=1∨n=2∨n=3∨n=4∨n=5∨n=6∨n=7∨n=8∨n=9:=by omega
 rcases h with rfl|rfl|rfl|rfl|rfl|rfl|rfl|rfl|rfl|rfl
 ·exact ⟨_,fun _=> .int _ _,wj⟩
 ·exact ⟨_,fun _=> .int _ _,wc⟩
 ·exact ⟨_,fun _=> .int _ _,vo⟩
 ·exact ⟨_,fun _=> .int _ _,ww⟩
 ·exact ⟨_,fun _=> .int _ _,wI⟩
 ·exact ⟨_,fun _=> .int _ _,wf⟩
 ·exact ⟨_,fun _=> .int _ _,vu⟩
 ·exact ⟨_,fun _=> .int _ _,vO⟩
 ·exact ⟨_,fun _=> .int _ _,wX⟩
 ·exact ⟨_,fun _=> .int _ _,wo⟩
set_option maxRecDepth 100000 in
open Go.ChangeShapes Go.WideShapes Go.ChangeAt in
theorem showKnown {W:World} (hL:laidMetH Tryd.prog Rows.showKnownRow.laid W) (_:W.ShapedOpen Tryd.prog) {H:Type} {enc:TypeId×Value->H} {args:List Value} {ds:List (DataW H)} {ps:List MemPlace}
 (h:DataW.TrodAll enc Tryd.prog W 0 (fun _=>true) true [3] args ds ps) {base:Nat} (hval:∀(j:Nat) t v, [3][j]? =some t->args[j]? =some v->Value.okWide Tryd.prog W .any base t v):
 Calls Tryd.prog 3 args.toArray W fun e W'=>e= .returned (.bool true)/\Below W.heap.size W W':=by
 obtain ⟨v0,vs0,d0,ds0,p0,q0,rfl,rfl,rfl,h0,r0⟩:=trodAll_cons h
 obtain ⟨rfl,rfl,rfl⟩:=trodAll_nil r0
 obtain ⟨n,rfl,_⟩:=open_int Tryd.underlying3 (hval 0 3 v0 rfl rfl) h0
 obtain ⟨x,hx,hr⟩:=xk n
 exact qt (args':= [.int .i64 n]) mixed Tryd.codeOk u0 (nW.run hr) (.cons _ _ _ _ (hx _) .nil) W (Nat.zero_le _)
end
end SK
