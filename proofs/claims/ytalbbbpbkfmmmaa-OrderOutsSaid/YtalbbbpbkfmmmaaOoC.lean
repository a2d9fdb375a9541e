/- A machine that runs the given program with memory and order of evaluation taken apart, and what it shows of the law OrderOuts: part 3. -/
import Derived.Lib.Bytealg
import Derived.Below
import Derived.WideKeyArgs
import Derived.Carry
import Derived.ChangeArms
import Derived.HandedShaped
import Derived.Shelf.SlIterI.Nil
import Derived.Shelf.SlIterI.Sorted
import Derived.Shelf.SlSortCmp.Insertion
import Derived.Shelf.GgSortFunc.InsertionK
import Derived.Test.YtalbbbpbkfmmmaaOoB
set_option linter.unusedSimpArgs false
set_option linter.unusedVariables false
set_option linter.unusedSectionVars false
set_option linter.defProp false
namespace Nm
open Go
variable [Val]
omit [Val] in
theorem x1:Extern.allNextRows.lookup "math/bits.Add64" =none:=by kernel_rfl
omit [Val] in
theorem x2:Extern.allNextRows.lookup "" =none:=by kernel_rfl
omit [Val] in
theorem x3:Extern.allGenericRows.lookup "math/bits.Add64" =none:=by kernel_rfl
omit [Val] in
theorem x4:Extern.allTypedRows.lookup "math/bits.Add64" =none:=by kernel_rfl
omit [Val] in
theorem x5:Extern.allRows.lookup "math/bits.Add64" =some add64Entry:=by kernel_rfl
omit [Val] in
theorem y1:Extern.allNextRows.lookup "internal/bytealg.IndexByteString" =none:=by kernel_rfl
omit [Val] in
theorem y3:Extern.allGenericRows.lookup "internal/bytealg.IndexByteString" =none:=by kernel_rfl
omit [Val] in
theorem y4:Extern.allTypedRows.lookup "internal/bytealg.IndexByteString" =none:=by kernel_rfl
omit [Val] in
theorem y5:Extern.allRows.lookup "internal/bytealg.IndexByteString" =some Extern.BytealgIndexByte.indexByte:=by kernel_rfl
omit [Val] in
theorem Gd:Extern.allNextRows.lookup "internal/bytealg.CountString" =none:=by kernel_rfl
omit [Val] in
theorem Gf:Extern.allGenericRows.lookup "internal/bytealg.CountString" =none:=by kernel_rfl
omit [Val] in
theorem Gg:Extern.allTypedRows.lookup "internal/bytealg.CountString" =none:=by kernel_rfl
omit [Val] in
theorem Ge:Extern.allRows.lookup "internal/bytealg.CountString" =some Extern.BytealgCount.count:=by kernel_rfl
omit [Val] in
theorem zn (c:Nat) (hc:c<=255):∀(l:List UInt8) (n:Nat),wl c (l.map UInt8.toNat) n=n+Lib.countByte l c.toUInt8:=by
 intro l
 induction l with
 |nil=>intro n;rfl
 |cons x l ih=>
  intro n
  have e:wl c (List.map UInt8.toNat (x::l)) n=cond (Nat.beq x.toNat c) (ag (Nat.succ n) (wl c (l.map UInt8.toNat))) (wl c (l.map UInt8.toNat) n):=rfl
  rw[e,aa,ih,ih]
  unfold Lib.countByte
  rw[List.count_cons]
  have hb:(x==c.toUInt8)=Nat.beq x.toNat c:=by
   rw[Bool.eq_iff_iff]
   simp only[beq_iff_eq,Nat.beq_eq]
   constructor
   ·intro h;rw[h];simp;omega
   ·intro h;rw[←h];simp
  rw[hb]
  cases Nat.beq x.toNat c<;>simp<;>omega
omit [Val] in
theorem w9 (c:Nat):∀(l:List Nat) (i:Nat),tI c l i=(l.findIdx? (fun x=>x==c)).map (·+i):=by
 intro l
 induction l with
 |nil=>intro i;rfl
 |cons x l ih=>
  intro i
  have e:tI c (x::l) i=cond (Nat.beq x c) (some i) (ag (Nat.succ i) (tI c l)):=rfl
  rw[e,aa,ih,List.findIdx?_cons]
  cases h:Nat.beq x c with
  |true=>have:=Gm h;simp[this]
  |false=>
   have:=Nat.ne_of_beq_eq_false h
   simp only[cond_false]
   rw[Gi (by simpa using this)]
   cases List.findIdx? (fun x=>x==c) l with
   |none=>rfl
   |some j=>simp;omega
omit [Val] in
theorem qI (p:Nat->Bool):∀n,(List.range n).find? p=none↔∀i,i<n->p i=false:=by
 intro n;simp
omit [Val] in
theorem pm (s:ByteArray) (c:Nat) (hc:c<=255):firstIdx s c.toUInt8=match tI c (s.data.toList.map UInt8.toNat) 0 with|some i=>(i:Int)|none=>-1:=by
 rw[w9]
 have hsz:s.data.toList.length=s.size:=aU s
 have hml:(s.data.toList.map UInt8.toNat).length=s.size:=by rw[List.length_map,hsz]
 have hat:∀i (h:i<s.size),(s[i]! ==c.toUInt8)=(((s.data.toList.map UInt8.toNat)[i]'(by rw[hml];exact h))==c):=by
  intro i h
  have e:s[i]! =s.data.toList[i]'(by rw[hsz];exact h):=by
   rw[getElem!_pos s i h];simp[ByteArray.getElem_eq_getElem_data]
  rw[e,List.getElem_map]
  rw[Bool.eq_iff_iff]
  simp only[beq_iff_eq]
  constructor
  ·intro h;rw[h];simp;omega
  ·intro h;rw[←h];simp
 unfold firstIdx
 cases hf:(s.data.toList.map UInt8.toNat).findIdx? (fun x=>x==c) with
 |none=>
  have h1:(List.range s.size).find? (fun i=>s[i]! ==c.toUInt8)=none:=by
   rw[qI]
   intro i hi
   rw[hat i hi]
   rw[List.findIdx?_eq_none_iff] at hf
   exact hf _ (List.getElem_mem _)
  rw[h1];rfl
 |some j=>
  rw[List.findIdx?_eq_some_iff_getElem] at hf
  obtain ⟨hj,h1,h2⟩:=hf
  have hj':j<s.size:=by rw[←hml];exact hj
  have h3:(List.range s.size).find? (fun i=>s[i]! ==c.toUInt8)=some j:=by
   rw[List.find?_range_eq_some]
   refine ⟨?_,by simpa using hj',fun k hk=> ?_⟩
   ·rw[hat j hj'];exact h1
   ·rw[hat k (by omega)]
    simpa using h2 k hk
  rw[h3];simp
section
variable {P:Program} {S:bA} {B:Nat}
theorem sV {ι:aB} {fn:Func} {e:Ext} {f:Nat} (hf:P.funcs[f]? =some fn) (hb:fn.body=none) (he:su fn=some e) {args:List NV} {args':List Value} (ha:VRL ι args args') {v:NV} (hv:jc e args=some v) (w:World):
 ∃v',(callFunc f args'.toArray).run P w= .ok (.value v') w/\VR ι v v':=by
 unfold su at he
 obtain ⟨ho,he⟩:=au he
 have ho':fn.origin= "" :=by simpa using ho
 cases hn:(fn.name== "math/bits.Add64") with
 |true=>
  rw[hn] at he
  cases he
  have hname:fn.name= "math/bits.Add64" :=by simpa using hn
  have hnx:Extern.findNext fn=none:=by unfold Extern.findNext;rw[hname,ho'];simp only[x1,x2];rfl
  have hfi:Extern.find fn=some add64Entry:=by unfold Extern.find;rw[hname,ho'];simp only[x3,x4,x5];rfl
  have hcall:=run_callFunc_extern hf (by rw[hname];decide) (by rw[hb];rfl) hnx hfi args'.toArray w
  unfold jc at hv
  split at hv
  ·rename_i x y c hargs
   obtain ⟨hc1,hv⟩:=au hv
   rw[aa,aa] at hv
   cases hv
   cases ha with
   |cons _ _ _ _ h1 ha=>
    cases ha with
    |cons _ _ _ _ h2 ha=>
     cases ha with
     |cons _ _ _ _ h3 ha=>
      cases ha
      cases h1;cases h2;cases h3
      have hc:=Nat.le_of_ble_eq_true hc1
      refine ⟨_, ?_,.tup [_,_] [_,_] (.cons _ _ _ _ (.int .u64 _) (.cons _ _ _ _ (.int .u64 _) .nil))⟩
      have:=run_add64 (P:=P) (Int.ofNat x) (Int.ofNat y) (Int.ofNat c) (Int.natCast_nonneg _) (Int.natCast_nonneg _) (Int.natCast_nonneg _) (by show (c:Int)<=1;omega) w
      rw[hcall]
      show Result.andThen (Sem.run P (add64Entry #[.int .u64 (Int.ofNat x),.int .u64 (Int.ofNat y),.int .u64 (Int.ofNat c)]) w) _=_
      rw[this]
      rfl
  ·rename_i h;cases h
  ·rename_i h;cases h
  ·cases hv
 |false=>
  rw[hn] at he
  simp only[cond_false] at he
  cases hn2:(fn.name== "internal/bytealg.IndexByteString") with
  |true=>
   rw[hn2] at he
   cases he
   have hname:fn.name= "internal/bytealg.IndexByteString" :=by simpa using hn2
   have hnx:Extern.findNext fn=none:=by unfold Extern.findNext;rw[hname,ho'];simp only[y1,x2];rfl
   have hfi:Extern.find fn=some Extern.BytealgIndexByte.indexByte:=by unfold Extern.find;rw[hname,ho'];simp only[y3,y4,y5];rfl
   have hcall:=run_callFunc_extern hf (by rw[hname];decide) (by rw[hb];rfl) hnx hfi args'.toArray w
   unfold jc at hv
   split at hv
   ·rename_i h;cases h
   ·rename_i s c _
    obtain ⟨hc1,hv⟩:=au hv
    have hc:=Nat.le_of_ble_eq_true hc1
    cases ha with
    |cons _ _ _ _ h1 ha=>
     cases ha with
     |cons _ _ _ _ h2 ha=>
      cases ha
      cases h2
      cases h1 with
      |str l s' hs=>
       subst hs
       have hrun:=run_indexByte_string (P:=P) s' (Int.ofNat c) w
       refine ⟨.int .i64 (firstIdx s' c.toUInt8), ?_, ?_⟩
       ·rw[hcall]
        show Result.andThen (Sem.run P (Extern.BytealgIndexByte.indexByte #[.string s',.int .u8 (Int.ofNat c)]) w) _=_
        rw[hrun]
        rfl
       ·rw[pm s' c hc]
        cases hi:tI c (s'.data.toList.map UInt8.toNat) 0 with
        |none=>rw[hi] at hv;cases hv;exact .int .i64 _
        |some i=>rw[hi] at hv;cases hv;exact .int .i64 _
   ·rename_i h;cases h
   ·cases hv
  |false=>
   rw[hn2] at he
   simp only[cond_false] at he
   obtain ⟨hn3,he⟩:=au he
   cases he
   have hname:fn.name= "internal/bytealg.CountString" :=by simpa using hn3
   have hnx:Extern.findNext fn=none:=by unfold Extern.findNext;rw[hname,ho'];simp only[Gd,x2];rfl
   have hfi:Extern.find fn=some Extern.BytealgCount.count:=by unfold Extern.find;rw[hname,ho'];simp only[Gf,Gg,Ge];rfl
   have hcall:=run_callFunc_extern hf (by rw[hname];decide) (by rw[hb];rfl) hnx hfi args'.toArray w
   unfold jc at hv
   split at hv
   ·rename_i h;cases h
   ·rename_i h;cases h
   ·rename_i s c _
    obtain ⟨hc1,hv⟩:=au hv
    have hc:=Nat.le_of_ble_eq_true hc1
    cases hv
    cases ha with
    |cons _ _ _ _ h1 ha=>
     cases ha with
     |cons _ _ _ _ h2 ha=>
      cases ha
      cases h2
      cases h1 with
      |str l s' hs=>
       subst hs
       refine ⟨.int .i64 (Lib.countByte s'.data.toList c.toUInt8), ?_, ?_⟩
       ·rw[hcall]
        show Result.andThen (Sem.run P (Extern.BytealgCount.count #[.string s',.int .u8 (Int.ofNat c)]) w) _=_
        rw[Lib.run_countString]
        rfl
       ·rw[zn c hc,Nat.zero_add]
        exact .int .i64 _
   ·cases hv
def dR (P:Program) (S:bA):Prop:=
 ∀(ι:aB) (B:Nat) (h:NH) (w:World) (f:Nat) (args:List NV) (args':List Value) (v:NV) (h':NH),S f args h=some (v,h')->Rel P ι B h w->B<=w.heap.size->VRL ι args args'->
  mi P ι B h w ((callFunc f args'.toArray).run P w) (.val v none h')
theorem wi:dR P F9:=fun _ _ _ _ _ _ _ _ _ h=>by cases h
omit [Val] in
theorem sR {f:Nat} {e:Ext} (h:an P f=some (.ext e)):∃fn,P.funcs[f]? =some fn/\fn.body=none/\su fn=some e:=by
 unfold an at h
 split at h
 ·rename_i fn hfn
  cases hn:(fn.name== "runtime.NumGoroutine") with
  |true=>rw[hn] at h;cases h
  |false=>
   rw[hn] at h
   simp only[cond_false] at h
   split at h
   ·split at h
    ·rw[aa] at h;cases h
    ·cases h
   ·rename_i hb
    split at h
    ·rename_i e' he;cases h;exact ⟨fn,hfn,hb,he⟩
    ·cases h
 ·cases h
omit [Val] in
theorem cK {fr:Frame} {w:World} {e:Ending} (hk:fr.kind= .normal) (h:fr.going P w e):fr.leaving P w e:=by
 cases e with
 |returned v=>exact ⟨h.1,h.2.1,hk,h.2.2⟩
 |panicked c=>exact h
 |outgrown=>trivial
theorem j6 (hK:iv P) (hS:dR P S) {n:Nat} (hO:fb P S n) (ι:aB) (B:Nat) (h:NH) (w:World) (f:Nat) (args:List NV) (args':List Value) (hR:Rel P ι B h w) (hB:B<=w.heap.size) (ha:VRL ι args args'):
 mi P ι B h w ((callFunc f args'.toArray).run P w) (bh P S (ev P S n) f args h):=by
 unfold bh
 cases hs:S f args h with
 |some v=>exact hS ι B h w f args args' v.1 v.2 hs hR hB ha
 |none=>
  dsimp only
  cases hcf:an P f with
  |none=>trivial
  |some x=>
   cases x with
   |ext e=>
    dsimp only
    cases hx:jc e args with
    |none=>trivial
    |some v=>
     intro c cs
     obtain ⟨fn,h1,h2,h3⟩:=sR hcf
     obtain ⟨v',e1,e2⟩:=sV h1 h2 h3 ha hx w
     exact ⟨ι,v',w,e2,hR,hB,.refl _ _ _,.inl e1⟩
   |code nf=>
    dsimp only
    have hD:=fN hK hO 3 f args none h
    obtain ⟨fn,code,e1,e2,e3,_⟩:=gp hcf
    have hent:=i6 (P:=P) e1 e2 e3 args'.toArray w
    cases hr:bP P (ev P S n) 3 f args none h with
    |fail=>trivial
    |val v x h'=>
     intro c cs
     obtain ⟨_,hF⟩:=hD (by rw[hr];simp)
     have hF:=hF B ι w args' .normal (c::cs) hR hB ha (fun b hb=>by unfold tryRecover;rw[hb])
     rw[hr] at hF
     obtain ⟨ι',v',w',cs',fr,f1,f2,f3,f4,f5,f6,f7,_,f8⟩:=hF
     obtain ⟨rfl,_⟩:=f5.none
     exact ⟨ι',v',w',f1,f2,f3,f4,.inr ⟨w,.inl ⟨f,args'.toArray,hent,Steps.trans f6 (.one (step_leave_returned (cK f7 f8)))⟩⟩⟩
    |pan v x h'=>
     intro c cs
     obtain ⟨_,hF⟩:=hD (by rw[hr];simp)
     have hF:=hF B ι w args' .normal (c::cs) hR hB ha (fun b hb=>by unfold tryRecover;rw[hb])
     rw[hr] at hF
     obtain ⟨ι',v',w',cs',fr,f1,f2,f3,f4,f5,f6,f7,_,f8⟩:=hF
     obtain ⟨rfl,_⟩:=f5.none
     exact ⟨ι',v',w',f1,f2,f3,f4,w,.inl ⟨f,args'.toArray,hent,Steps.trans f6 (.one (step_leave_panicked (cK f7 f8)))⟩⟩
noncomputable def lA:List D4->List NV->Tm->Tm
 |p::ps,v::vs,t=>lA ps vs (NT.put p v t)
 |_,_,t=>t
omit [Val] in
theorem jx {r:CR} (hr:r≠.fail) {K:Tm->CR}:∀{ps:List D4} {vs:List NV} {t:Tm},cq .fail ps vs t K=r->vs.length=ps.length/\K (lA ps vs t)=r:=by
 intro ps
 induction ps with
 |nil=>
  intro vs t h
  cases vs with
  |nil=>exact ⟨rfl,h⟩
  |cons v vs=>exact Gh (show CR.fail=r from h).symm hr
 |cons p ps ih=>
  intro vs t h
  cases vs with
  |nil=>exact Gh (show CR.fail=r from h).symm hr
  |cons v vs=>
   have e:cq .fail (p::ps) (v::vs) t K=NT.set p v t fun t=>cq .fail ps vs t K:=rfl
   rw[e,NT.set_eq] at h
   obtain ⟨h1,h2⟩:=ih h
   exact ⟨by simp[h1],h2⟩
theorem yn {ι:aB}:∀{ps:List Nat} {vs:List NV} {vs':List Value} {t:Tm} {a:Array Value},VRL ι vs vs'->TR ι t a->(∀q∈ps,q<a.size)->
 TR ι (lA (ps.map D4.of) vs t) ((ps.zip vs').foldl (fun tmps (t,a)=>tmps.setIfInBounds t a) a)/\((ps.zip vs').foldl (fun tmps (t,a)=>tmps.setIfInBounds t a) a).size=a.size:=by
 intro ps
 induction ps with
 |nil=>intro vs vs' t a _ hT _;cases vs<;>exact ⟨hT,rfl⟩
 |cons p ps ih=>
  intro vs vs' t a hv hT hp
  cases hv with
  |nil=>exact ⟨hT,rfl⟩
  |cons v v' vs vs' h1 h2=>
   have hT':=hT.put (hp p (by simp)) h1
   obtain ⟨q1,q2⟩:=ih h2 hT' (fun q hq=>by simp;exact hp q (by simp[hq]))
   exact ⟨q1,q2.trans (by simp)⟩
def DL (P:Program) (B:Nat) (ι:aB) (h:NH) (w:World) (fr0:Frame) (c:Frame) (cs:List Frame):CR->Prop
 | .fail=>True
 | .val v _ h'=>∃ι' v' w',VR ι' v v'/\Rel P ι' B h' w'/\B<=w'.heap.size/\Grow ι h w ι' h' w'/\Steps P (lone fr0 (c::cs) w) (lone (c.finish v') cs w')
 | .pan v _ h'=>∃ι' v' w',VR ι' v v'/\Rel P ι' B h' w'/\B<=w'.heap.size/\Grow ι h w ι' h' w'/\Steps P (lone fr0 (c::cs) w) (lone (c.raise [{v:=v',recovered:=false}]) cs w')
theorem jv {n:Nat} (hO:fb P S n) (ι:aB) (B:Nat) (h:NH) (w:World) (l:D4) (p:Pl) (args:List NV) (args':List Value) (hR:Rel P ι B h w) (hB:B<=w.heap.size) (ha:VRL ι args args') (hp:ι l=some p):
 mi P ι B h w ((Instr.yield p.b args'.toArray).run P w) (round (ev P S n) l args h):=by
 by_cases hne:round (ev P S n) l args h= .fail
 ·rw[hne];trivial
 generalize hrr:round (ev P S n) l args h=r at hne
 have hrr':=hrr
 unfold round at hrr'
 obtain ⟨ob,ho1,ho2⟩:=hR.obj _ _ hp
 rw[ho1] at hrr'
 cases ob with
 |loop st pd tm ps na nb=>
  cases st with
  |succ st=>exact Gh hrr'.symm hne
  |zero=>
   obtain ⟨L,l1,l2,l3,l4,l5,l6,l7,⟨fn,bl,la,lb,l8,l9,l10,l11,_⟩,l12⟩:=ho2
   obtain ⟨hlen,hrr2⟩:=jx hne hrr'
   have hsz:args'.toArray.size=L.params.size:=by
    have:=ha.length
    rw[l5] at hlen
    simp at hlen ⊢;omega
   have hy:=run_yield (P:=P) l1 hsz
   obtain ⟨t1,t2⟩:=yn (ps:=L.params.toList) ha l4 l12
   have hz:(L.params.zip args'.toArray).foldl (fun tmps (t,a)=>tmps.setIfInBounds t a) L.tmps=(L.params.toList.zip args').foldl (fun tmps (t,a)=>tmps.setIfInBounds t a) L.tmps:=by
    rw[←Array.foldl_toList,Array.toList_zip]
   rw[hz] at hy
   rw[←l5] at t1
   generalize (L.params.toList.zip args').foldl (fun tmps (t,a)=>tmps.setIfInBounds t a) L.tmps=tmps at hy t1 t2
   let b:Frame:={(default:Frame) with fn:=L.fn,kind:= .normal,roundOf:=some p.b}
   have hfr:Frame.round p.b L.fn tmps L.assign L.body .normal=b.atR {tmps:=tmps,defers:= []} [.code L.assign,.beginRound,.code L.body]:=by
    simp[Frame.round,Frame.atR,b]
   cases hev:ev P S n (some l) na ⟨lA ps args tm, [],none,h⟩ with
   |fail=>rw[hev] at hrr2;exact Gh hrr2.symm hne
   |mk o d=>
    rw[hev] at hrr2
    cases o with
    |norm=>
     dsimp only at hrr2
     cases hdd:d.dfs with
     |cons x xs=>rw[hdd] at hrr2;exact Gh hrr2.symm hne
     |nil=>
      rw[hdd] at hrr2
      have hrb:bH (ev P S n) l nb d.t d.h=r:=hrr2
      have main:∀(c:Frame) (cs:List Frame),DL P B ι h w (Frame.round p.b L.fn tmps L.assign L.body .normal) c cs r:=by
       intro c cs
       have hctx:∀ι:aB,pR ι b.kind (c::cs) none:=fun ι b' hb'=>by unfold tryRecover;rw[hb']
       have hs:Sd P ι B (some l) [] none h b ([]:List Deferred) (c::cs) w:=⟨trivial,hctx ι,hR,hB,⟨p,hp,rfl⟩⟩
       have hgo:=hO L.assign na fn [] [] l6 l10 (some l) ⟨lA ps args tm, [],none,h⟩ .norm d hev (.code L.assign) (.inl rfl) B b [.beginRound,.code L.body] ι {tmps:=tmps,defers:= []} (c::cs) w l8 t1 hs (by rw[t2];exact l9)
       obtain ⟨ι1,a1,cs1,w1,g1,g2,g3,g4⟩:=hgo
       obtain ⟨rfl,hctx1⟩:=g3.ca.none
       have sd1:=g3.sd
       have hdef1:a1.defers= []:=by
        have:=sd1.df
        rw[hdd] at this
        cases hq:a1.defers with
        |nil=>rfl
        |cons d ds=>rw[hq] at this;exact this.elim
       have hp1:ι1 l=some p:=g3.gr.le _ _ hp
       obtain ⟨ob1,ho3,ho4⟩:=sd1.rel.obj _ _ hp1
       have hrb':=hrb
       unfold bH at hrb'
       rw[ho3] at hrb'
       cases ob1 with
       |loop st1 pd1 tm1 ps1 na1 nb1=>
        cases st1 with
        |succ st1=>exact Gh hrb'.symm hne
        |zero=>
         replace hrb':d.h.set l (.loop 1 pd1 tm1 ps1 na1 nb1) (fun h=>match ev P S n (some l) nb ⟨d.t, [],none,h⟩ with
          | .mk o d=>(match o with
           | .pan v=>(match d.dfs with| []=>CR.pan v none d.h|_=> .fail)
           |o=>cu l o d.h)
          | .fail=> .fail)=r:=hrb'
         rw[NH.set_eq] at hrb'
         obtain ⟨L1,m1,m2,m3⟩:=ho4
         have hbr:=run_beginRound (P:=P) m1 m2
         have hlt1:=sd1.rel.lt _ _ hp1
         have hst1:SR 1 ({L1 with state:= .busy}:Loop).state:=rfl
         obtain ⟨u1,u2⟩:=sd1.rel.turn (w':=w1.putObj p.b (.loop {L1 with state:= .busy})) hp1 (by rw[ho3];simp) (.loop 1 pd1 tm1 ps1 na1 nb1)
          ⟨_,World.putObj_heap_same hlt1,hst1,m3⟩ (by simp) rfl rfl rfl (fun q hq=>World.putObj_heap_other hq)
         have hbeg:=stepR_beginRound (P:=P) (b:=b) (a:=a1) (k:= [.code L.body]) (cs:=c::cs) rfl hbr
         have hs2:Sd P ι1 B (some l) [] none (d.h.put l (.loop 1 pd1 tm1 ps1 na1 nb1)) b a1.defers (c::cs) (w1.putObj p.b (.loop {L1 with state:= .busy})):=
          ⟨by rw[hdef1];trivial,hctx ι1,u1,by simpa using sd1.base,⟨p,hp1,rfl⟩⟩
         generalize w1.putObj p.b (.loop {L1 with state:= .busy})=w2 at *
         generalize d.h.put l (.loop 1 pd1 tm1 ps1 na1 nb1)=h2 at *
         cases hev2:ev P S n (some l) nb ⟨d.t, [],none,h2⟩ with
         |fail=>rw[hev2] at hrb';exact Gh hrb'.symm hne
         |mk o2 d2=>
          rw[hev2] at hrb'
          have hgo2:=hO L.body nb fn bl la l7 l11 (some l) ⟨d.t, [],none,h2⟩ o2 d2 hev2 (.code L.body) (.inl rfl) B b [] ι1 a1 (c::cs) w2 l8 g2 hs2 (by rw[g4,t2];exact l9)
          obtain ⟨ι3,a3,cs3,w3,e1,e2,e3,e4⟩:=hgo2
          obtain ⟨rfl,_⟩:=e3.ca.none
          have hp3:ι3 l=some p:=e3.gr.le _ _ hp1
          have hpre:Steps P (lone (Frame.round p.b L.fn tmps L.assign L.body .normal) (c::cs) w) (lone (b.atR a1 [.code L.body]) (c::cs) w2):=by
           rw[hfr];exact Steps.trans g1 (.one hbeg)
          have hgr:=(g3.gr.trans u2).trans e3.gr
          have fin:∀(jump:Option Code) (st':Nat) (pd':Jump),cu l o2 d2.h=r->(∀tm ps na nb,(match o2 with
           | .norm=>(d2.h.set l (.loop 0 .none tm ps na nb) fun h=>CR.val (.bool true) none h)
           | .ret=>d2.h.set l (.loop 2 .ret tm ps na nb) fun h=> .val (.bool false) none h
           | .exit id=>d2.h.set l (.loop 2 (.exit id) tm ps na nb) fun h=> .val (.bool false) none h
           | .pan _=> .fail)= .val (.bool jump.isNone) none (d2.h.put l (.loop st' pd' tm ps na nb)))->
           (SR st' (if jump.isNone then .ready else .done))->JR pd' jump->
           (∀(v:Value) (w4:World),(Instr.endRound p.b jump).run P w3= .ok v w4->Steps P (lone (b.atR a1 [.code L.body]) (c::cs) w2) (lone (c.finish v) cs w4))->
           DL P B ι h w (Frame.round p.b L.fn tmps L.assign L.body .normal) c cs r:=by
           intro jump st' pd' hre hval hSR hJR hsteps
           unfold cu at hre
           obtain ⟨ob3,ho5,ho6⟩:=e3.sd.rel.obj _ _ hp3
           rw[ho5] at hre
           cases ob3 with
           |loop st3 pd3 tm3 ps3 na3 nb3=>
            have hre':=(hval tm3 ps3 na3 nb3).symm.trans hre
            rw[←hre']
            obtain ⟨L3,k1,k2,k3,k4⟩:=ho6
            have hend:=run_endRound (P:=P) jump k1
            have hlt3:=e3.sd.rel.lt _ _ hp3
            obtain ⟨z1,z2⟩:=e3.sd.rel.turn (w':=w3.putObj p.b (.loop {L3 with state:=if jump.isNone then .ready else .done,pending:=jump})) hp3 (by rw[ho5];simp) (.loop st' pd' tm3 ps3 na3 nb3)
             ⟨_,World.putObj_heap_same hlt3,hSR,hJR,k4⟩ (by simp) rfl rfl rfl (fun q hq=>World.putObj_heap_other hq)
            exact ⟨ι3,.bool jump.isNone,_,.bool _,z1,by simpa using e3.sd.base,hgr.trans z2,hpre.trans (hsteps _ _ hend)⟩
           |_=>exact Gh hre.symm hne
          cases o2 with
          |norm=>
           exact fin none 0 .none hrb' (fun tm ps na nb=>NH.set_eq _ _ _ _) rfl rfl fun v w4 he=>Steps.trans e1 (.one (stepR_round_end rfl rfl he))
          |ret=>
           obtain ⟨k0,e1⟩:=e1
           exact fin (some .ret) 2 .ret hrb' (fun tm ps na nb=>NH.set_eq _ _ _ _) rfl rfl fun v w4 he=>Steps.trans e1 (.one (stepR_round_ret rfl rfl he))
          |exit id=>
           obtain ⟨k0,e0,e1⟩:=e1
           exact fin (some (.exit id)) 2 (.exit id) hrb' (fun tm ps na nb=>NH.set_eq _ _ _ _) rfl rfl fun v w4 he=>Steps.trans e1 (.one (stepR_round_exit rfl rfl (by rw[e0];rfl) he))
          |pan v=>
           dsimp only at hrb'
           cases hd2:d2.dfs with
           |cons x xs=>rw[hd2] at hrb';exact Gh hrb'.symm hne
           |nil=>
            rw[hd2] at hrb'
            rw[←show CR.pan v none d2.h=r from hrb']
            obtain ⟨td,v',f1,f2⟩:=e1
            have hdef3:a3.defers= []:=by
             have:=e3.sd.df
             rw[hd2] at this
             cases hq:a3.defers with
             |nil=>rfl
             |cons d ds=>rw[hq] at this;exact this.elim
            refine ⟨ι3,v',w3,f1,e3.sd.rel,e3.sd.base,hgr,hpre.trans (Steps.trans f2 (.one (step_leave_panicked ⟨rfl,hdef3,fn,l8⟩)))⟩
       |_=>exact Gh hrb'.symm hne
      cases r with
      |fail=>trivial
      |val v x h'=>
       intro c cs
       obtain ⟨ι',v',w',q1,q2,q3,q4,q5⟩:=main c cs
       exact ⟨ι',v',w',q1,q2,q3,q4,.inr ⟨w,.inr ⟨p.b,L.fn,tmps,L.assign,L.body,hy,q5⟩⟩⟩
      |pan v x h'=>
       intro c cs
       obtain ⟨ι',v',w',q1,q2,q3,q4,q5⟩:=main c cs
       exact ⟨ι',v',w',q1,q2,q3,q4,w,.inr ⟨p.b,L.fn,tmps,L.assign,L.body,hy,q5⟩⟩
    |_=>exact Gh hrr2.symm hne
 |_=>exact Gh hrr'.symm hne
theorem lj (hM:P.follows .mixedOrders=true) (hK:iv P) (hS:dR P S):∀n,fb P S n/\CallsOK P S (ev P S n):=by
 intro n
 induction n with
 |zero=>
  have h0:fb P S 0:=fun c nc fn bl la _ _ rnd d o d' h=>by cases h
  exact ⟨h0,⟨j6 hK hS h0,jv h0⟩⟩
 |succ n ih=>
  have h1:fb P S (n+1):=sP hM ih.1 ih.2
  exact ⟨h1,⟨j6 hK hS h1,jv h1⟩⟩
end
end Nm
namespace Nm
open Go Go.RowKit
noncomputable def vi (n:Nat):NT NO:=Nat.rec .leaf (fun k t=>NT.put (D4.of k) .dead t) n
noncomputable def G0:NH:=⟨vi NG,D4.of NG⟩
theorem tk (n k:Nat):NT.get (D4.of k) (vi n)=if k<n then some .dead else none:=by
 induction n with
 |zero=>exact NT.get_leaf _
 |succ n ih=>
  show NT.get (D4.of k) (NT.put (D4.of n) .dead (vi n))=_
  by_cases e:k=n
  ·subst e;rw[NT.get_put_same,Gj (Nat.lt_succ_self k)]
  ·rw[NT.get_put_ne (fun x=>e (D4.of_inj x)),ih]
   by_cases h:k<n
   ·rw[Gj h,Gj (by omega)]
   ·rw[Gi h,Gi (by omega)]
theorem wo (i:D4):G0.get i=if i.toNat<NG then some .dead else none:=by
 rw[←tk NG i.toNat,D4.of_toNat];rfl
def ι0:aB:=fun i=>if i.toNat<NG then some ⟨i.toNat,0,GN i.toNat⟩ else none
theorem u3 {i:D4} {p:Pl} (h:ι0 i=some p):i.toNat<NG/\p=⟨i.toNat,0,GN i.toNat⟩:=by
 unfold ι0 at h
 split at h
 ·exact ⟨‹_›,(Option.some.inj h).symm⟩
 ·cases h
theorem Df:Ca ι0:=fun g hg=>by unfold ι0;rw[D4.toNat_of,Gj hg]
theorem ir {i:D4} {p:Pl} (h:ι0 i=some p):G0.get i=some .dead:=by rw[wo,Gj (u3 h).1]
theorem cH:¬Live (some .dead):=fun h=>h.1 rfl
variable [Val]
theorem CN (P:Program) (w:World) (hw:NG<=w.heap.size):Rel P ι0 w.heap.size G0 w where
 obj:=fun i p h=>⟨.dead,ir h,trivial⟩
 inj:=fun i j p q h _ _ hl _=>Gh (ir h▸hl) cH
 base:=fun i p h hl=>Gh (ir h▸hl) cH
 lt:=fun i p h=>by have:=u3 h;rw[this.2];exact Nat.lt_of_lt_of_le this.1 hw
 fresh:=fun i o h=>by
  rw[wo] at h
  split at h
  ·show i.toNat<(D4.of NG).toNat;rw[D4.toNat_of];assumption
  ·cases h
 gl:=Df
theorem Rel.room {P:Program} {ι:aB} {B:Nat} {h:NH} {w:World} (r:Rel P ι B h w):NG<=w.heap.size:=by
 rcases Nat.eq_zero_or_pos NG with h0|h0
 ·rw[h0];exact Nat.zero_le _
 ·have h1:=r.gl (NG - 1) (by omega)
  have h2:=r.lt _ _ h1
  dsimp only at h2
  omega
noncomputable def sg (m:NH) (cf:Nat->Option NFn) (S:bA) (n f:Nat) (args:List NV):CR:=bP cf (ev cf S n) 3 f args none m
noncomputable def qv (cf:Nat->Option NFn) (S:bA) (n f:Nat) (args:List NV):CR:=sg G0 cf S n f args
noncomputable def Bh (r:CR):Bool:=
 match r with
 | .val (.bool b) _ _=>b
 |_=>false
noncomputable def rL (cf:Nat->Option NFn) (S:bA) (n f:Nat) (args:List NV):Bool:=Bh (qv cf S n f args)
theorem wP {P:Program} {S:bA} (hM:P.follows .mixedOrders=true) (hP:P.check= .ok ()) (hS:dR P S) {m:NH} {n f:Nat} {args:List NV} {v:NV} {x:Option NV} {h:NH} (hr:sg m P S n f args= .val v x h)
 {ι:aB} {w:World} (hR:Rel P ι w.heap.size m w) (hlive:∀i p,ι i=some p->¬Live (m.get i)) {args':List Value} (ha:VRL ι args args'):
 Calls P f args'.toArray w fun e w'=>(∃ι v',e= .returned v'/\VR ι v v'/\Rel P ι w.heap.size h w')/\Below w.heap.size w w':=by
 intro cs
 obtain ⟨hO,_⟩:=lj hM (ig hP) hS n
 have hD:=fN (ig hP) hO 3 f args none m
 obtain ⟨_,hF⟩:=hD (by rw[show bP P (ev P S n) 3 f args none m= .val v x h from hr];simp)
 have hF:=hF w.heap.size ι w args' .normal cs hR (Nat.le_refl _) ha (fun b hb=>by unfold tryRecover;rw[hb])
 rw[show bP P (ev P S n) 3 f args none m= .val v x h from hr] at hF
 obtain ⟨ι',v',w',cs',fr,f1,f2,f3,f4,f5,f6,f7,f8,f9⟩:=hF
 obtain ⟨rfl,_⟩:=f5.none
 refine ⟨.returned v',w',fr,⟨⟨ι',v',rfl,f1,f2⟩,⟨f4.os,f4.tape,f4.output,f4.size,fun k hk=>f4.frame k hk fun i p hi hl=>Gh hl (hlive i p hi)⟩⟩,f6,f8,cK f7 f9⟩
theorem yJ {P:Program} {S:bA} (hM:P.follows .mixedOrders=true) (hP:P.check= .ok ()) (hS:dR P S) {n f:Nat} {args:List NV} {v:NV} {x:Option NV} {h:NH} (hr:qv P S n f args= .val v x h) {args':List Value} (ha:VRL ι0 args args') (w:World) (hw:NG<=w.heap.size):
 Calls P f args'.toArray w fun e w'=>(∃ι v',e= .returned v'/\VR ι v v'/\Rel P ι w.heap.size h w')/\Below w.heap.size w w':=
 wP hM hP hS hr (CN P w hw) (fun i p hi=>by rw[ir hi];exact cH) ha
end Nm
namespace Nm
open Go Go.RowKit
variable [Val]
mutual
def cX:NV->Bool
 | .bool _| .int _ _| .str _| .nilp| .nils| .nilm| .nilf| .nili=>true
 | .ifc _ v=>cX v
 | .agg l=>gY l
 | .tup l=>gY l
 |_=>false
def gY:List NV->Bool
 | []=>true
 |v::l=>cX v&&gY l
end
mutual
theorem VR.plain {ι ι':aB}:∀{v:NV} {v':Value},VR ι v v'->cX v=true->VR ι' v v'
 |_,_,.bool b,_=> .bool b
 |_,_,.int k n,_=> .int k n
 |_,_,.ige k a n h,_=> .ige k a n h
 |_,_,.ile k a n h,_=> .ile k a n h
 |_,_,.sym k c ts n h hn,_=> .sym k c ts n h hn
 |_,_,.str l s h,_=> .str l s h
 |_,_,.nilp,_=> .nilp
 |_,_,.ptr ..,h=>by simp[cX] at h
 |_,_,.nils,_=> .nils
 |_,_,.slc ..,h=>by simp[cX] at h
 |_,_,.nilm,_=> .nilm
 |_,_,.map ..,h=>by simp[cX] at h
 |_,_,.nilf,_=> .nilf
 |_,_,.fn ..,h=>by simp[cX] at h
 |_,_,.yld ..,h=>by simp[cX] at h
 |_,_,.nili,_=> .nili
 |_,_,.ifc t v v' h,k=> .ifc t v v' (VR.plain h (by simpa [cX] using k))
 |_,_,.agg l l' h h1,k=> .agg l l' (VRL.plain h (by simpa [cX] using k)) h1
 |_,_,.tup l l' h,k=> .tup l l' (VRL.plain h (by simpa [cX] using k))
theorem VRL.plain {ι ι':aB}:∀{l:List NV} {l':List Value},VRL ι l l'->gY l=true->VRL ι' l l'
 |_,_,.nil,_=> .nil
 |_,_,.cons v v' l l' h hl,k=> .cons v v' l l' (VR.plain h (by simp[gY] at k;exact k.1)) (VRL.plain hl (by simp[gY] at k;exact k.2))
end
noncomputable def CC (f:Nat) (args:List NV) (v:NV) (S:bA):bA:=fun g l=>
 cond (Nat.beq g f) (cond (iD (bx 3) l args) (fun h=>some (v,h)) (S g l)) (S g l)
noncomputable def o6 (cf:Nat->Option NFn) (S:bA) (n f:Nat) (args:List NV) (v:NV):Bool:=
 match qv cf S n f args with
 | .val u _ _=>cond (gY args) (cond (cX v) (bx 5 u v) false) false
 |_=>false
omit [Val] in
theorem ph {P:Program} {self:Option D4->NC->Dyn->Res} {d f:Nat} {args:List NV} {ctx:Option NV} {h:NH} (hn:bP P self d f args ctx h≠.fail):∃nf,an P f=some (.code nf):=by
 cases d with
 |zero=>exact Gh rfl hn
 |succ d=>
  rw[cD] at hn
  cases hc:an P f with
  |none=>rw[hc] at hn;exact Gh rfl hn
  |some x=>
   cases x with
   |code nf=>exact ⟨nf,rfl⟩
   |ext e=>rw[hc] at hn;exact Gh rfl hn
theorem Ak {P:Program} {S:bA} (hM:P.follows .mixedOrders=true) (hP:P.check= .ok ()) (hS:dR P S) {n f:Nat} {args:List NV} {v:NV} (hr:o6 P S n f args v=true):dR P (CC f args v S):=by
 intro ι B h w g l l' u hh hg hR hB hl
 have hg':cond (Nat.beq g f) (cond (iD (bx 3) l args) (fun h=>some (v,h)) (S g l)) (S g l) h=some (u,hh):=hg
 by_cases h1:Nat.beq g f=true/\iD (bx 3) l args=true
 ·obtain ⟨h2,h3⟩:=h1
  rw[h2,h3] at hg'
  cases hg'
  have:=Gm h2
  subst this
  have:=im (iH 3) h3
  subst this
  unfold o6 at hr
  split at hr
  ·rename_i u x h0 hrun
   obtain ⟨p1,hr⟩:=b7 hr
   obtain ⟨p2,hr⟩:=b7 hr
   have:=iH _ _ _ hr
   subst this
   intro c cs
   have hcalls:=yJ hM hP hS hrun (hl.plain p1) w hR.room
   obtain ⟨e,w',fr,⟨⟨ι1,v',he,hv,_⟩,hb⟩,hcomes,hfn,hleave⟩:=hcalls (c::cs)
   subst he
   obtain ⟨nf,hnf⟩:=ph (show bP P (ev P S n) 3 g l none G0≠.fail by rw[show bP P (ev P S n) 3 g l none G0=_ from hrun];simp)
   obtain ⟨fn,code,e1,e2,e3,_⟩:=gp hnf
   refine ⟨ι,v',w',hv.plain p2,⟨fun i p hi=> ?_,hR.inj,hR.base,fun i p hi=>Nat.lt_of_lt_of_le (hR.lt i p hi) hb.size,hR.fresh,hR.gl⟩,Nat.le_trans hB hb.size, ?_,.inr ⟨w,.inl ⟨g,l'.toArray,i6 e1 e2 e3 _ w,Steps.trans hcomes (.one (step_leave_returned hleave))⟩⟩⟩
   ·obtain ⟨o,o1,o2⟩:=hR.obj i p hi
    exact ⟨o,o1,o2.mono (aB.le_refl _) (hb.block _ (hR.lt i p hi))⟩
   ·exact ⟨aB.le_refl _,Nat.le_refl _,fun _ _ x=> .inl x,fun i p x y=> .inr ⟨i,p,x,y,rfl⟩,fun _ _ _=>rfl,hb.size,hb.os,hb.tape,hb.output,fun b hb' _=>hb.block b hb'⟩
  ·cases hr
 ·have:S g l h=some (u,hh):=by
   cases h2:Nat.beq g f with
   |false=>rw[h2] at hg';exact hg'
   |true=>
    rw[h2] at hg'
    cases h3:iD (bx 3) l args with
    |false=>rw[h3] at hg';exact hg'
    |true=>exact Gh ⟨h2,h3⟩ h1
  exact hS ι B h w g l l' u hh this hR hB hl
noncomputable def aF (P:Program) (k:Nat) (nf:NFun) (f:Nat):Option NFn:=cond (Nat.beq f k) (some (.code nf)) (an P f)
noncomputable def aG (m:Nat) (a b:Nat->Option NFn) (f:Nat):Option NFn:=cond (Nat.ble f m) (a f) (b f)
def ez (P:Program) (cf:Nat->Option NFn):Prop:=∀f,cf f=an P f
omit [Val] in
theorem ah {P:Program} {k:Nat} {nf:NFun} (h:an P k=some (.code nf)):ez P (aF P k nf):=fun f=>by
 unfold aF
 cases hb:Nat.beq f k with
 |false=>rfl
 |true=>rw[Gm hb];exact h.symm
omit [Val] in
theorem ai {P:Program} {m:Nat} {a b:Nat->Option NFn} (ha:ez P a) (hb:ez P b):ez P (aG m a b):=fun f=>by
 unfold aG
 cases Nat.ble f m with
 |false=>exact hb f
 |true=>exact ha f
omit [Val] in
theorem ez.run {P:Program} {cf:Nat->Option NFn} (h:ez P cf) {S:bA} {n f:Nat} {args:List NV} (hr:rL cf S n f args=true):rL P S n f args=true:=by
 have e:cf=an P:=funext h
 rw[e] at hr;exact hr
omit [Val] in
theorem ez.kept {P:Program} {cf:Nat->Option NFn} (h:ez P cf) {S:bA} {n f:Nat} {args:List NV} {v:NV} (hr:o6 cf S n f args v=true):o6 P S n f args v=true:=by
 have e:cf=an P:=funext h
 rw[e] at hr;exact hr
end Nm
namespace Nm
open Go Go.RowKit
noncomputable section
end
end Nm
namespace Nm
open Go Go.RowKit
def Le (a b:Option D4->NC->Dyn->Res):Prop:=∀r c d o d',a r c d= .mk o d'->b r c d= .mk o d'
section
variable {P:Program} {S:bA} {a b:Option D4->NC->Dyn->Res}
theorem fq {F G:Nat->List NV->Option NV->NH->CR} (h:∀f l p m r,F f l p m=r->r≠.fail->G f l p m=r) {K:Option NV->NH->CR}:∀(l:List Dfr) (p:Option NV) (m:NH) (r:CR),unwind F K l p m=r->r≠.fail->unwind G K l p m=r:=by
 intro l
 induction l with
 |nil=>exact fun p m r e _=>e
 |cons c l ih=>
  intro p m r e hr
  rw[jw] at e ⊢
  cases c with
  |mark id=>
   dsimp only at e ⊢
   split at e
   ·exact ih _ _ _ e hr
   ·exact Gh e.symm hr
  |call f cap=>
   dsimp only at e ⊢
   cases hf:F f cap p m with
   |fail=>rw[hf] at e;exact Gh e.symm hr
   |pan v x m'=>rw[hf] at e;exact Gh e.symm hr
   |val v x m'=>
    rw[hf] at e
    rw[h f cap p m _ hf (by simp)]
    exact ih _ _ _ e hr
theorem pM (h:Le a b):∀(d f:Nat) (l:List NV) (p:Option NV) (m:NH) (r:CR),bP P a d f l p m=r->r≠.fail->bP P b d f l p m=r:=by
 intro d
 induction d with
 |zero=>intro f l p m r e hr;exact Gh e.symm hr
 |succ d ih=>
  intro f l p m r e hr
  rw[cD] at e ⊢
  cases hc:an P f with
  |none=>rw[hc] at e;exact Gh e.symm hr
  |some x=>
   cases x with
   |ext x=>rw[hc] at e;exact Gh e.symm hr
   |code nf=>
    rw[hc] at e
    dsimp only at e ⊢
    cases ha:a none nf.body ⟨bY l 0 .leaf, [],p,m⟩ with
    |fail=>rw[ha] at e;exact Gh e.symm hr
    |mk o d'=>
     rw[ha] at e
     rw[h _ _ _ _ _ ha]
     cases o with
     |norm=>exact fq (fun f l p m r=>ih f l p m r) _ _ _ _ e hr
     |ret=>exact fq (fun f l p m r=>ih f l p m r) _ _ _ _ e hr
     |pan v=>exact fq (fun f l p m r=>ih f l p m r) _ _ _ _ e hr
     |exit id=>exact Gh e.symm hr
theorem cj (h:Le a b) {f:Nat} {l:List NV} {m:NH} {r:CR} (e:bh P S a f l m=r) (hr:r≠.fail):bh P S b f l m=r:=by
 unfold bh at e ⊢
 cases hs:S f l m with
 |some v=>rw[hs] at e;exact e
 |none=>
  rw[hs] at e
  dsimp only at e ⊢
  cases hc:an P f with
  |none=>rw[hc] at e;exact e
  |some x=>
   rw[hc] at e
   cases x with
   |ext x=>exact e
   |code nf=>exact pM h _ _ _ _ _ _ e hr
theorem j5 (h:Le a b) {l:D4} {bd:NC} {t:Tm} {m:NH} {r:CR} (e:bH a l bd t m=r) (hr:r≠.fail):bH b l bd t m=r:=by
 unfold bH at e ⊢
 split at e
 ·rename_i p tm ps assign body hm
  rw[NH.set_eq] at e ⊢
  cases ha:a (some l) bd ⟨t, [],none,m.put l (.loop 1 p tm ps assign body)⟩ with
  |fail=>rw[ha] at e;exact Gh e.symm hr
  |mk o d=>rw[ha] at e;rw[h _ _ _ _ _ ha];exact e
 ·exact Gh e.symm hr
theorem dg (h:Le a b) {l:D4} {args:List NV} {m:NH} {r:CR} (e:round a l args m=r) (hr:r≠.fail):round b l args m=r:=by
 unfold round at e ⊢
 split at e
 ·rename_i x tm ps assign body hm
  obtain ⟨h1,h2⟩:=jx hr e
  have key:∀K:Tm->CR,cq .fail ps args tm K=K (lA ps args tm):=by
   clear e h2 hm
   intro K
   induction ps generalizing args tm with
   |nil=>cases args with
    |nil=>rfl
    |cons=>simp at h1
   |cons q ps ih=>
    cases args with
    |nil=>simp at h1
    |cons v vs=>
     have e:cq .fail (q::ps) (v::vs) tm K=NT.set q v tm fun t=>cq .fail ps vs t K:=rfl
     rw[e,NT.set_eq]
     exact ih _ (by simpa using h1)
  rw[key]
  cases ha:a (some l) assign ⟨lA ps args tm, [],none,m⟩ with
  |fail=>rw[ha] at h2;exact Gh h2.symm hr
  |mk o d=>
   rw[ha] at h2
   rw[h _ _ _ _ _ ha]
   cases o with
   |norm=>
    dsimp only at h2 ⊢
    split at h2
    ·exact j5 h h2 hr
    ·exact Gh h2.symm hr
   |_=>exact Gh h2.symm hr
 ·exact Gh e.symm hr
theorem kq (h:Le a b) {rnd:Option D4} {dfs:List Dfr} {ctx:Option NV} {m:NH} {x:NR} {r:OpO} (e:cv P S a rnd dfs ctx m x=r) (hr:r≠.fail):cv P S b rnd dfs ctx m x=r:=by
 cases x with
 |call f l=>
  have e':pC dfs ctx (bh P S a f l m)=r:=e
  have hn:bh P S a f l m≠.fail:=fun hh=>by rw[hh] at e';exact hr e'.symm
  show pC dfs ctx (bh P S b f l m)=r
  rw[cj h rfl hn];exact e'
 |yld l args=>
  have e':pC dfs ctx (round a l args m)=r:=e
  have hn:round a l args m≠.fail:=fun hh=>by rw[hh] at e';exact hr e'.symm
  show pC dfs ctx (round b l args m)=r
  rw[dg h rfl hn];exact e'
 |_=>exact e
theorem uN {dst:Option D4} {K L:Dyn->Res} (hk:∀d o d',K d= .mk o d'->L d= .mk o d') {t:Tm} {dfs:List Dfr} {ctx:Option NV} {x:OpO} {o:Out} {d':Dyn} (e:pJ dst K t dfs ctx x= .mk o d'):pJ dst L t dfs ctx x= .mk o d':=by
 cases x with
 |fail=>cases e
 |next v dfs ctx h=>exact hk _ _ _ e
 |pan v h=>exact e
theorem Bz {dst:Option D4} {K:Dyn->Res} {t:Tm} {dfs:List Dfr} {ctx:Option NV} {x:OpO} {o:Out} {d':Dyn} (e:pJ dst K t dfs ctx x= .mk o d'):x≠.fail:=by
 rintro rfl;cases e
theorem fB (h:Le a b) {rnd:Option D4}:∀(l:List NOper) (d:Dyn) (o:Out) (d':Dyn),bR P S a rnd l d= .mk o d'->bR P S b rnd l d= .mk o d':=by
 intro l
 induction l with
 |nil=>exact fun d o d' e=>e
 |cons x l ih=>
  rintro ⟨t,dfs,ctx,m⟩ o d' e
  rw[bo] at e ⊢
  cases hg:ak t x.guard with
  |none=>rw[hg] at e;cases e
  |some on=>
   rw[hg] at e
   cases on with
   |false=>exact ih _ _ _ e
   |true=>
    dsimp only at e ⊢
    rw[kq h rfl (Bz e)]
    exact uN ih e
theorem iT (h:Le a b) {rnd:Option D4}:∀(l:List NOper) (hs:List (Nat×NH)) (rs:List (Nat×(NH->NR)×NV)) (d:Dyn) (o:Out) (d':Dyn),bf P S a rnd l hs rs d= .mk o d'->bf P S b rnd l hs rs d= .mk o d':=by
 intro l
 induction l with
 |nil=>exact fun hs rs d o d' e=>e
 |cons x l ih=>
  rintro hs rs ⟨t,dfs,ctx,m⟩ o d' e
  rw[bi] at e ⊢
  cases hg:ak t x.guard with
  |none=>rw[hg] at e;cases e
  |some on=>
   rw[hg] at e
   cases on with
   |false=>exact ih _ _ _ _ _ e
   |true=>
    dsimp only at e ⊢
    cases hcl:aj x.op with
    |pure=>
     rw[hcl] at e
     dsimp only at e ⊢
     cases hop:ae x.op t m<;>rw[hop] at e<;>first|exact ih _ _ _ _ _ e|cases e
    |alloc=>
     rw[hcl] at e
     dsimp only at e ⊢
     cases ha:ahead x.pre hs with
     |false=>rw[ha] at e;cases e
     |true=>
      rw[ha] at e
      simp only[cond_true] at e ⊢
      cases hop:ae x.op t m<;>rw[hop] at e<;>first|exact ih _ _ _ _ _ e|cases e
    |read=>
     rw[hcl] at e
     dsimp only at e ⊢
     cases hop:ae x.op t m with
     |val v=>
      rw[hop] at e
      dsimp only at e ⊢
      cases hst:bW x.pre (ae x.op t) v hs with
      |false=>rw[hst] at e;cases e
      |true=>rw[hst] at e;exact ih _ _ _ _ _ e
     |_=>rw[hop] at e;cases e
    |eff=>
     rw[hcl] at e
     dsimp only at e ⊢
     cases ha:ahead x.pre hs with
     |false=>rw[ha] at e;cases e
     |true=>
      rw[ha] at e
      simp only[cond_true] at e ⊢
      have hk:∀d o d',cond (aL x.pre d.h rs) (bf P S a rnd l ((x.idx,m)::hs) rs d) .fail= .mk o d'->cond (aL x.pre d.h rs) (bf P S b rnd l ((x.idx,m)::hs) rs d) .fail= .mk o d':=by
       intro d o d' e
       cases hs':aL x.pre d.h rs with
       |false=>rw[hs'] at e;cases e
       |true=>rw[hs'] at e;exact ih _ _ _ _ _ e
      have hne:cv P S a rnd dfs ctx m (ae x.op t m)≠.fail:=by
       intro hh
       rw[hh] at e
       cases e
      rw[kq h rfl hne]
      cases hoo:cv P S a rnd dfs ctx m (ae x.op t m) with
      |fail=>exact Gh hoo hne
      |pan v m'=>rw[hoo] at e;exact e
      |next v dfs1 ctx1 m'=>
       rw[hoo] at e
       have e':bX (aV x.idx l) (cond (aL x.pre m' rs) (bf P S a rnd l ((x.idx,m)::hs) rs ⟨az x.dst v t,dfs1,ctx1,m'⟩) .fail)= .mk o d':=e
       show bX (aV x.idx l) (cond (aL x.pre m' rs) (bf P S b rnd l ((x.idx,m)::hs) rs ⟨az x.dst v t,dfs1,ctx1,m'⟩) .fail)= .mk o d'
       cases hin:cond (aL x.pre m' rs) (bf P S a rnd l ((x.idx,m)::hs) rs ⟨az x.dst v t,dfs1,ctx1,m'⟩) .fail with
       |fail=>rw[hin] at e';cases e'
       |mk o2 d2=>
        have:=hk ⟨az x.dst v t,dfs1,ctx1,m'⟩ o2 d2 hin
        rw[hin] at e'
        rw[show cond (aL x.pre m' rs) (bf P S b rnd l ((x.idx,m)::hs) rs ⟨az x.dst v t,dfs1,ctx1,m'⟩) .fail= .mk o2 d2 from this]
        exact e'
theorem ie (h:Le a b) {f:Nat} {cap:List NV} {ps:List D4} {x y:NC} {t:Tm} {dfs:List Dfr} {ctx:Option NV} {m:NH} {o:Out} {d':Dyn} (e:br P S a f cap ps x y t dfs ctx m= .mk o d'):br P S b f cap ps x y t dfs ctx m= .mk o d':=by
 unfold br at e ⊢
 rw[NH.new_eq] at e ⊢
 cases hc:bh P S a f (.yld m.next::cap) (m.add (.loop 0 .none t ps x y)) with
 |fail=>rw[hc] at e;cases e
 |val v c m'=>rw[hc] at e;rw[cj h hc (by simp)];exact e
 |pan v c m'=>rw[hc] at e;rw[cj h hc (by simp)];exact e
theorem qU (h:Le a b):Le (cr P S a) (cr P S b):=by
 intro r c d o d' e
 cases c with
 |skip=>exact e
 |reg l=>exact fB h _ _ _ _ e
 |regD l=>
  have e':(match bf P S a r l [] [] d with| .mk (.pan v) d=>Res.mk (.pan v) ⟨iw l d.t,d.dfs,d.ctx,d.h⟩|r=>r)= .mk o d':=e
  show (match bf P S b r l [] [] d with| .mk (.pan v) d=>Res.mk (.pan v) ⟨iw l d.t,d.dfs,d.ctx,d.h⟩|r=>r)= .mk o d'
  cases hr:bf P S a r l [] [] d with
  |fail=>rw[hr] at e';cases e'
  |mk o2 d2=>rw[hr] at e';rw[iT h _ _ _ _ _ _ hr];exact e'
 |seq x y=>
  have e':(match a r x d with| .mk o d=>(match o with| .norm=>a r y d|o=> .mk o d)| .fail=> .fail)=Res.mk o d':=(pP (cf:=P) (S:=S)).symm.trans e
  refine (pP (cf:=P) (S:=S)).trans ?_
  show (match b r x d with| .mk o d=>(match o with| .norm=>b r y d|o=> .mk o d)| .fail=> .fail)=Res.mk o d'
  cases hx:a r x d with
  |fail=>rw[hx] at e';cases e'
  |mk o2 d2=>
   rw[hx] at e'
   rw[h _ _ _ _ _ hx]
   cases o2 with
   |norm=>exact h _ _ _ _ _ e'
   |_=>exact e'
 |cond g x y=>
  have e':(match ρ d.t g with|some (.bool c)=>(Bool.rec (a r y d) (a r x d) c:Res)|_=> .fail)=Res.mk o d':=(mW (cf:=P) (S:=S)).symm.trans e
  refine (mW (cf:=P) (S:=S)).trans ?_
  show (match ρ d.t g with|some (.bool c)=>(Bool.rec (b r y d) (b r x d) c:Res)|_=> .fail)=Res.mk o d'
  cases hg:ρ d.t g with
  |none=>rw[hg] at e';cases e'
  |some v=>
   rw[hg] at e'
   cases v with
   |bool q=>cases q<;>exact h _ _ _ _ _ e'
   |_=>cases e'
 |block id x=>
  have e':(match a r x d with| .mk o d=>(match o with| .exit i=>cond (Nat.beq i id) (.mk .norm d) (.mk (.exit i) d)|o=> .mk o d)| .fail=> .fail)=Res.mk o d':=(ke (cf:=P) (S:=S)).symm.trans e
  refine (ke (cf:=P) (S:=S)).trans ?_
  show (match b r x d with| .mk o d=>(match o with| .exit i=>cond (Nat.beq i id) (.mk .norm d) (.mk (.exit i) d)|o=> .mk o d)| .fail=> .fail)=Res.mk o d'
  cases hx:a r x d with
  |fail=>rw[hx] at e';cases e'
  |mk o2 d2=>rw[hx] at e';rw[h _ _ _ _ _ hx];exact e'
 |loop x=>
  have e':(match a r x d with| .mk o d=>(match o with| .norm=>a r (.loop x) d|o=> .mk o d)| .fail=> .fail)=Res.mk o d':=(mE (cf:=P) (S:=S)).symm.trans e
  refine (mE (cf:=P) (S:=S)).trans ?_
  show (match b r x d with| .mk o d=>(match o with| .norm=>b r (.loop x) d|o=> .mk o d)| .fail=> .fail)=Res.mk o d'
  cases hx:a r x d with
  |fail=>rw[hx] at e';cases e'
  |mk o2 d2=>
   rw[hx] at e'
   rw[h _ _ _ _ _ hx]
   cases o2 with
   |norm=>exact h _ _ _ _ _ e'
   |_=>exact e'
 |rangeFunc f ps x y=>
  obtain ⟨t,dfs,ctx,m⟩:=d
  have e':(match ρ t f with
   |some (.fn f cap)=>(match (generalizing:=false) r with
    |none=>m.new (.defd true) fun q m=>br P S a f cap ps x y t (.mark q::dfs) ctx m
    |some l=>(match m.get l with
     |some (.loop ..)=>br P S a f cap ps x y t dfs ctx m
     |_=> .fail))
   |_=> .fail)=Res.mk o d':=e
  show (match ρ t f with
   |some (.fn f cap)=>(match (generalizing:=false) r with
    |none=>m.new (.defd true) fun q m=>br P S b f cap ps x y t (.mark q::dfs) ctx m
    |some l=>(match m.get l with
     |some (.loop ..)=>br P S b f cap ps x y t dfs ctx m
     |_=> .fail))
   |_=> .fail)=Res.mk o d'
  cases hf:ρ t f with
  |none=>rw[hf] at e';cases e'
  |some v=>
   rw[hf] at e'
   cases v with
   |fn f cap=>
    dsimp only at e' ⊢
    cases r with
    |none=>
     dsimp only at e' ⊢
     rw[NH.new_eq] at e' ⊢
     exact ie h e'
    |some l=>
     dsimp only at e' ⊢
     split at e'
     ·exact ie h e'
     ·cases e'
   |_=>cases e'
 |exit id=>exact e
 |ret=>exact e
theorem yd:∀n,Le (ev P S n) (ev P S (n+1)):=by
 intro n
 induction n with
 |zero=>intro r c d o d' e;cases e
 |succ n ih=>exact qU ih
theorem bk {n m:Nat} (hnm:n<=m):Le (ev P S n) (ev P S m):=by
 induction m with
 |zero=>
  have:n=0:=by omega
  subst this;exact fun _ _ _ _ _ e=>e
 |succ m ih=>
  by_cases h:n=m+1
  ·subst h;exact fun _ _ _ _ _ e=>e
  ·exact fun r c d o d' e=>yd m r c d o d' (ih (by omega) r c d o d' e)
end
def cA (P:Program) (S:bA) (r:Option D4) (c:NC) (d:Dyn) (o:Out) (d':Dyn):Prop:=∃n,ev P S n r c d= .mk o d'
def Call (P:Program) (S:bA) (f:Nat) (l:List NV) (m:NH) (x:CR):Prop:=x≠.fail/\∃n,bh P S (ev P S n) f l m=x
def gy (P:Program) (S:bA) (r:Option D4) (l:List NOper) (d:Dyn) (o:Out) (d':Dyn):Prop:=∃n,bR P S (ev P S n) r l d= .mk o d'
section
variable {P:Program} {S:bA} {r:Option D4}
theorem cA.skip (d:Dyn):cA P S r .skip d .norm d:=⟨1,rfl⟩
theorem cA.ret (d:Dyn):cA P S r .ret d .ret d:=⟨1,rfl⟩
theorem cA.exit (id:Nat) (d:Dyn):cA P S r (.exit id) d (.exit id) d:=⟨1,rfl⟩
theorem cA.seq {x y:NC} {d d1 d2:Dyn} {o:Out} (hx:cA P S r x d .norm d1) (hy:cA P S r y d1 o d2):cA P S r (.seq x y) d o d2:=by
 obtain ⟨n,hn⟩:=hx
 obtain ⟨m,hm⟩:=hy
 refine ⟨max n m+1, ?_⟩
 refine pQ.trans ?_
 show (match ev P S (max n m) r x d with| .mk o d=>(match o with| .norm=>ev P S (max n m) r y d|o=> .mk o d)| .fail=> .fail)=Res.mk o d2
 rw[bk (Nat.le_max_left n m) _ _ _ _ _ hn]
 exact bk (Nat.le_max_right n m) _ _ _ _ _ hm
theorem cA.seq_out {x y:NC} {d d1:Dyn} {o:Out} (hx:cA P S r x d o d1) (ho:o≠.norm):cA P S r (.seq x y) d o d1:=by
 obtain ⟨n,hn⟩:=hx
 refine ⟨n+1, ?_⟩
 refine pQ.trans ?_
 show (match ev P S n r x d with| .mk o d=>(match o with| .norm=>ev P S n r y d|o=> .mk o d)| .fail=> .fail)=Res.mk o d1
 rw[hn]
 cases o<;>first|rfl|exact Gh rfl ho
theorem cA.cond {g:NOpd} {q:Bool} {x y:NC} {d d1:Dyn} {o:Out} (hg:ρ d.t g=some (.bool q)) (h:cA P S r (if q then x else y) d o d1):cA P S r (.cond g x y) d o d1:=by
 obtain ⟨n,hn⟩:=h
 refine ⟨n+1, ?_⟩
 refine r8.trans ?_
 show (match ρ d.t g with|some (.bool c)=>(Bool.rec (ev P S n r y d) (ev P S n r x d) c:Res)|_=> .fail)=Res.mk o d1
 rw[hg]
 cases q<;>exact hn
theorem cA.block {id:Nat} {x:NC} {d d1:Dyn} {o:Out} (h:cA P S r x d o d1):cA P S r (.block id x) d (match o with| .exit i=>_root_.cond (Nat.beq i id) .norm (.exit i)|o=>o) d1:=by
 obtain ⟨n,hn⟩:=h
 refine ⟨n+1, ?_⟩
 refine og.trans ?_
 show (match ev P S n r x d with| .mk o d=>(match o with| .exit i=>_root_.cond (Nat.beq i id) (Res.mk .norm d) (Res.mk (.exit i) d)|o=>Res.mk o d)| .fail=>Res.fail)=_
 rw[hn]
 cases o with
 |exit i=>dsimp only;cases Nat.beq i id<;>rfl
 |_=>rfl
theorem cA.loop {x:NC} {d d1 d2:Dyn} {o:Out} (hx:cA P S r x d .norm d1) (hy:cA P S r (.loop x) d1 o d2):cA P S r (.loop x) d o d2:=by
 obtain ⟨n,hn⟩:=hx
 obtain ⟨m,hm⟩:=hy
 refine ⟨max n m+1, ?_⟩
 refine nh.trans ?_
 show (match ev P S (max n m) r x d with| .mk o d=>(match o with| .norm=>ev P S (max n m) r (.loop x) d|o=> .mk o d)| .fail=> .fail)=Res.mk o d2
 rw[bk (Nat.le_max_left n m) _ _ _ _ _ hn]
 exact bk (Nat.le_max_right n m) _ _ _ _ _ hm
theorem cA.loop_out {x:NC} {d d1:Dyn} {o:Out} (hx:cA P S r x d o d1) (ho:o≠.norm):cA P S r (.loop x) d o d1:=by
 obtain ⟨n,hn⟩:=hx
 refine ⟨n+1, ?_⟩
 refine nh.trans ?_
 show (match ev P S n r x d with| .mk o d=>(match o with| .norm=>ev P S n r (.loop x) d|o=> .mk o d)| .fail=> .fail)=Res.mk o d1
 rw[hn]
 cases o<;>first|rfl|exact Gh rfl ho
theorem cA.reg {l:List NOper} {d d1:Dyn} {o:Out} (h:gy P S r l d o d1):cA P S r (.reg l) d o d1:=by
 obtain ⟨n,hn⟩:=h
 exact ⟨n+1,hn⟩
theorem gy.nil (d:Dyn):gy P S r [] d .norm d:=⟨0,rfl⟩
theorem gy.val {x:NOper} {l:List NOper} {t:Tm} {dfs:List Dfr} {ctx:Option NV} {m:NH} {o:Out} {d1:Dyn} {v:NV} (hg:ak t x.guard=some true) (hop:ae x.op t m= .val v)
 (h:gy P S r l ⟨az x.dst v t,dfs,ctx,m⟩ o d1):gy P S r (x::l) ⟨t,dfs,ctx,m⟩ o d1:=by
 obtain ⟨n,hn⟩:=h
 refine ⟨n, ?_⟩
 rw[bo,hg,hop]
 exact hn
theorem gy.mem {x:NOper} {l:List NOper} {t:Tm} {dfs:List Dfr} {ctx:Option NV} {m m':NH} {o:Out} {d1:Dyn} {v:NV} (hg:ak t x.guard=some true) (hop:ae x.op t m= .mem v m')
 (h:gy P S r l ⟨az x.dst v t,dfs,ctx,m'⟩ o d1):gy P S r (x::l) ⟨t,dfs,ctx,m⟩ o d1:=by
 obtain ⟨n,hn⟩:=h
 refine ⟨n, ?_⟩
 rw[bo,hg,hop]
 exact hn
theorem gy.off {x:NOper} {l:List NOper} {t:Tm} {dfs:List Dfr} {ctx:Option NV} {m:NH} {o:Out} {d1:Dyn} (hg:ak t x.guard=some false)
 (h:gy P S r l ⟨az x.dst ax t,dfs,ctx,m⟩ o d1):gy P S r (x::l) ⟨t,dfs,ctx,m⟩ o d1:=by
 obtain ⟨n,hn⟩:=h
 refine ⟨n, ?_⟩
 rw[bo,hg]
 exact hn
theorem gy.call {x:NOper} {l:List NOper} {t:Tm} {dfs:List Dfr} {ctx:Option NV} {m m':NH} {o:Out} {d1:Dyn} {f:Nat} {args:List NV} {v:NV} {c:Option NV} (hg:ak t x.guard=some true) (hop:ae x.op t m= .call f args)
 (hc:Call P S f args m (.val v c m')) (h:gy P S r l ⟨az x.dst v t,dfs,ctx,m'⟩ o d1):gy P S r (x::l) ⟨t,dfs,ctx,m⟩ o d1:=by
 obtain ⟨n,hn⟩:=h
 obtain ⟨hne,k,hk⟩:=hc
 refine ⟨max n k, ?_⟩
 rw[bo,hg,hop]
 show pJ x.dst (bR P S (ev P S (max n k)) r l) t dfs ctx (pC dfs ctx (bh P S (ev P S (max n k)) f args m))=_
 rw[cj (bk (Nat.le_max_right n k)) hk hne]
 exact fB (bk (Nat.le_max_left n k)) _ _ _ _ hn
theorem Call.of_run {f:Nat} {nf:NFun} (hs:∀l,S f l=fun _=>none) (hf:an P f=some (.code nf)) {args:List NV} {m:NH} {o:Out} {d:Dyn} (ho:o= .norm∨o= .ret) (h:cA P S none nf.body ⟨bY args 0 .leaf, [],none,m⟩ o d) (hd:d.dfs= [])
 {x:CR} (hx:bt d.h d.t nf.results .fail (fun l=> .val (fR l) d.ctx d.h)=x) (hne:x≠.fail):Call P S f args m x:=by
 obtain ⟨n,hn⟩:=h
 refine ⟨hne,n, ?_⟩
 unfold bh
 rw[hs]
 dsimp only
 rw[hf]
 dsimp only
 rw[cD,hf]
 dsimp only
 rw[hn]
 rcases ho with rfl|rfl<;>(dsimp only;rw[hd];exact hx)
variable [Val] in
theorem uF (hM:P.follows .mixedOrders=true) (hP:P.check= .ok ()) (hS:dR P S) {f:Nat} {args:List NV} {m m':NH} {v:NV} {c:Option NV} {nf:NFun} (hf:an P f=some (.code nf)) (hs:S f args=fun _=>none) (hc:Call P S f args m (.val v c m'))
 {ι:aB} {w:World} (hR:Rel P ι w.heap.size m w) (hlive:∀i p,ι i=some p->¬Live (m.get i)) {args':List Value} (ha:VRL ι args args'):
 Calls P f args'.toArray w fun e w'=>(∃ι' v',e= .returned v'/\VR ι' v v'/\ι.le ι'/\Rel P ι' w.heap.size m' w')/\Below w.heap.size w w':=by
 intro cs
 obtain ⟨_,n,hn⟩:=hc
 have hn':bP P (ev P S n) 3 f args none m= .val v c m':=by
  unfold bh at hn
  rw[hs] at hn
  dsimp only at hn
  rw[hf] at hn
  exact hn
 obtain ⟨hO,_⟩:=lj hM (ig hP) hS n
 have hD:=fN (ig hP) hO 3 f args none m
 obtain ⟨_,hF⟩:=hD (by rw[hn'];simp)
 have hF:=hF w.heap.size ι w args' .normal cs hR (Nat.le_refl _) ha (fun b hb=>by unfold tryRecover;rw[hb])
 rw[hn'] at hF
 obtain ⟨ι',v',w',cs',fr,f1,f2,f3,f4,f5,f6,f7,f8,f9⟩:=hF
 obtain ⟨rfl,_⟩:=f5.none
 refine ⟨.returned v',w',fr,⟨⟨ι',v',rfl,f1,f4.le,f2⟩,⟨f4.os,f4.tape,f4.output,f4.size,fun k hk=>f4.frame k hk fun i p hi hl=>Gh hl (hlive i p hi)⟩⟩,f6,f8,cK f7 f9⟩
end
end Nm
namespace Nm
open Go Go.RowKit
noncomputable def ap:List (D4×NV)->Tm->Tm
 | [],t=>t
 |p::l,t=>NT.put p.1 p.2 (ap l t)
noncomputable def cP (k:D4):List (D4×NV)->Option NV->Option NV
 | [],d=>d
 |p::l,d=>cond (aO k p.1) (some p.2) (cP k l d)
theorem jQ (k:D4):aO k k=true:=by
 induction k with
 |e=>rfl
 |a d ih=>exact ih
 |b d ih=>exact ih
 |c d ih=>exact ih
 |f d ih=>exact ih
theorem dh (k:D4) (l:List (D4×NV)) (t:Tm):NT.get k (ap l t)=cP k l (NT.get k t):=by
 induction l with
 |nil=>rfl
 |cons p l ih=>
  show NT.get k (NT.put p.1 p.2 (ap l t))=cond (aO k p.1) (some p.2) (cP k l (NT.get k t))
  cases h:aO k p.1 with
  |true=>rw[fK h,NT.get_put_same];rfl
  |false=>
   have hne:k≠p.1:=fun e=>by rw[e,jQ] at h;cases h
   rw[NT.get_put_ne hne,ih];rfl
def aT (P:Program) (S:bA) (r:Option D4) (l:List NOper) (hs:List (Nat×NH)) (rs:List (Nat×(NH->NR)×NV)) (d:Dyn) (o:Out) (d':Dyn):Prop:=∃n,bf P S (ev P S n) r l hs rs d= .mk o d'
section
variable {P:Program} {S:bA} {r:Option D4} {x:NOper} {l:List NOper} {hs:List (Nat×NH)} {rs:List (Nat×(NH->NR)×NV)} {t:Tm} {dfs:List Dfr} {ctx:Option NV} {m m':NH} {o:Out} {d d1:Dyn} {v:NV}
theorem cA.regD (h:aT P S r l [] [] d .norm d1):cA P S r (.regD l) d .norm d1:=by
 obtain ⟨n,hn⟩:=h
 refine ⟨n+1, ?_⟩
 show (match bf P S (ev P S n) r l [] [] d with| .mk (.pan v) d=>Res.mk (.pan v) ⟨iw l d.t,d.dfs,d.ctx,d.h⟩|r=>r)=_
 rw[hn]
theorem aT.nil (d:Dyn):aT P S r [] hs rs d .norm d:=⟨0,rfl⟩
theorem aT.off (hg:ak t x.guard=some false) (h:aT P S r l hs rs ⟨az x.dst ax t,dfs,ctx,m⟩ o d1):aT P S r (x::l) hs rs ⟨t,dfs,ctx,m⟩ o d1:=by
 obtain ⟨n,hn⟩:=h
 exact ⟨n,by rw[bi,hg];exact hn⟩
theorem aT.pure (hg:ak t x.guard=some true) (hc:aj x.op= .pure) (hop:ae x.op t m= .val v) (h:aT P S r l hs rs ⟨az x.dst v t,dfs,ctx,m⟩ o d1):aT P S r (x::l) hs rs ⟨t,dfs,ctx,m⟩ o d1:=by
 obtain ⟨n,hn⟩:=h
 exact ⟨n,by rw[bi,hg];dsimp only;rw[hc];dsimp only;rw[hop];exact hn⟩
theorem aT.alloc (hg:ak t x.guard=some true) (hc:aj x.op= .alloc) (ha:ahead x.pre hs=true) (hop:ae x.op t m= .mem v m') (h:aT P S r l hs rs ⟨az x.dst v t,dfs,ctx,m'⟩ o d1):aT P S r (x::l) hs rs ⟨t,dfs,ctx,m⟩ o d1:=by
 obtain ⟨n,hn⟩:=h
 exact ⟨n,by rw[bi,hg];dsimp only;rw[hc];dsimp only;rw[ha,hop];exact hn⟩
theorem aT.read (hg:ak t x.guard=some true) (hc:aj x.op= .read) (hop:ae x.op t m= .val v) (ha:bW x.pre (ae x.op t) v hs=true)
 (h:aT P S r l hs ((x.idx,ae x.op t,v)::rs) ⟨az x.dst v t,dfs,ctx,m⟩ o d1):aT P S r (x::l) hs rs ⟨t,dfs,ctx,m⟩ o d1:=by
 obtain ⟨n,hn⟩:=h
 exact ⟨n,by rw[bi,hg];dsimp only;rw[hc];dsimp only;rw[hop];dsimp only;rw[ha];exact hn⟩
theorem aT.eff (hg:ak t x.guard=some true) (hc:aj x.op= .eff) (ha:ahead x.pre hs=true) (hop:ae x.op t m= .mem v m') (hst:aL x.pre m' rs=true)
 (h:aT P S r l ((x.idx,m)::hs) rs ⟨az x.dst v t,dfs,ctx,m'⟩ .norm d1):aT P S r (x::l) hs rs ⟨t,dfs,ctx,m⟩ .norm d1:=by
 obtain ⟨n,hn⟩:=h
 refine ⟨n, ?_⟩
 rw[bi,hg];dsimp only;rw[hc];dsimp only;rw[ha,hop]
 show bX (aV x.idx l) (cond (aL x.pre m' rs) (bf P S (ev P S n) r l ((x.idx,m)::hs) rs ⟨az x.dst v t,dfs,ctx,m'⟩) .fail)=_
 rw[hst]
 show bX (aV x.idx l) (bf P S (ev P S n) r l ((x.idx,m)::hs) rs ⟨az x.dst v t,dfs,ctx,m'⟩)=_
 rw[hn];rfl
theorem aT.effv (hg:ak t x.guard=some true) (hc:aj x.op= .eff) (ha:ahead x.pre hs=true) (hop:ae x.op t m= .val v) (hst:aL x.pre m rs=true)
 (h:aT P S r l ((x.idx,m)::hs) rs ⟨az x.dst v t,dfs,ctx,m⟩ .norm d1):aT P S r (x::l) hs rs ⟨t,dfs,ctx,m⟩ .norm d1:=by
 obtain ⟨n,hn⟩:=h
 refine ⟨n, ?_⟩
 rw[bi,hg];dsimp only;rw[hc];dsimp only;rw[ha,hop]
 show bX (aV x.idx l) (cond (aL x.pre m rs) (bf P S (ev P S n) r l ((x.idx,m)::hs) rs ⟨az x.dst v t,dfs,ctx,m⟩) .fail)=_
 rw[hst]
 show bX (aV x.idx l) (bf P S (ev P S n) r l ((x.idx,m)::hs) rs ⟨az x.dst v t,dfs,ctx,m⟩)=_
 rw[hn];rfl
theorem aT.call {f:Nat} {args:List NV} {c:Option NV} (hg:ak t x.guard=some true) (hc:aj x.op= .eff) (ha:ahead x.pre hs=true) (hop:ae x.op t m= .call f args) (hcall:Call P S f args m (.val v c m')) (hst:aL x.pre m' rs=true)
 (h:aT P S r l ((x.idx,m)::hs) rs ⟨az x.dst v t,dfs,ctx,m'⟩ .norm d1):aT P S r (x::l) hs rs ⟨t,dfs,ctx,m⟩ .norm d1:=by
 obtain ⟨n,hn⟩:=h
 obtain ⟨hne,k,hk⟩:=hcall
 refine ⟨max n k, ?_⟩
 rw[bi,hg];dsimp only;rw[hc];dsimp only;rw[ha,hop]
 show bX (aV x.idx l) (pJ x.dst (fun d=>cond (aL x.pre d.h rs) (bf P S (ev P S (max n k)) r l ((x.idx,m)::hs) rs d) .fail) t dfs ctx (pC dfs ctx (bh P S (ev P S (max n k)) f args m)))=_
 rw[cj (bk (Nat.le_max_right n k)) hk hne]
 show bX (aV x.idx l) (cond (aL x.pre m' rs) (bf P S (ev P S (max n k)) r l ((x.idx,m)::hs) rs ⟨az x.dst v t,dfs,ctx,m'⟩) .fail)=_
 rw[hst]
 show bX (aV x.idx l) (bf P S (ev P S (max n k)) r l ((x.idx,m)::hs) rs ⟨az x.dst v t,dfs,ctx,m'⟩)=_
 rw[iT (bk (Nat.le_max_left n k)) _ _ _ _ _ _ hn];rfl
end
def qH (P:Program) (S:bA) (l:D4) (args:List NV) (m:NH) (x:CR):Prop:=x≠.fail/\∃n,round (ev P S n) l args m=x
section
variable {P:Program} {S:bA} {r:Option D4} {x:NOper} {l:List NOper} {hs:List (Nat×NH)} {rs:List (Nat×(NH->NR)×NV)} {t:Tm} {dfs:List Dfr} {ctx:Option NV} {m m':NH} {o:Out} {d1:Dyn} {v:NV} {q:D4} {args:List NV} {c:Option NV}
theorem gy.yld (hg:ak t x.guard=some true) (hop:ae x.op t m= .yld q args) (hc:qH P S q args m (.val v c m')) (h:gy P S r l ⟨az x.dst v t,dfs,ctx,m'⟩ o d1):gy P S r (x::l) ⟨t,dfs,ctx,m⟩ o d1:=by
 obtain ⟨n,hn⟩:=h
 obtain ⟨hne,k,hk⟩:=hc
 refine ⟨max n k, ?_⟩
 rw[bo,hg,hop]
 show pJ x.dst (bR P S (ev P S (max n k)) r l) t dfs ctx (pC dfs ctx (round (ev P S (max n k)) q args m))=_
 rw[dg (bk (Nat.le_max_right n k)) hk hne]
 exact fB (bk (Nat.le_max_left n k)) _ _ _ _ hn
theorem aT.yld (hg:ak t x.guard=some true) (hc:aj x.op= .eff) (ha:ahead x.pre hs=true) (hop:ae x.op t m= .yld q args) (hcall:qH P S q args m (.val v c m')) (hst:aL x.pre m' rs=true)
 (h:aT P S r l ((x.idx,m)::hs) rs ⟨az x.dst v t,dfs,ctx,m'⟩ .norm d1):aT P S r (x::l) hs rs ⟨t,dfs,ctx,m⟩ .norm d1:=by
 obtain ⟨n,hn⟩:=h
 obtain ⟨hne,k,hk⟩:=hcall
 refine ⟨max n k, ?_⟩
 rw[bi,hg];dsimp only;rw[hc];dsimp only;rw[ha,hop]
 show bX (aV x.idx l) (pJ x.dst (fun d=>cond (aL x.pre d.h rs) (bf P S (ev P S (max n k)) r l ((x.idx,m)::hs) rs d) .fail) t dfs ctx (pC dfs ctx (round (ev P S (max n k)) q args m)))=_
 rw[dg (bk (Nat.le_max_right n k)) hk hne]
 show bX (aV x.idx l) (cond (aL x.pre m' rs) (bf P S (ev P S (max n k)) r l ((x.idx,m)::hs) rs ⟨az x.dst v t,dfs,ctx,m'⟩) .fail)=_
 rw[hst]
 show bX (aV x.idx l) (bf P S (ev P S (max n k)) r l ((x.idx,m)::hs) rs ⟨az x.dst v t,dfs,ctx,m'⟩)=_
 rw[iT (bk (Nat.le_max_left n k)) _ _ _ _ _ _ hn];rfl
end
section
variable {P:Program} {S:bA} {r:Option D4} {x:NOper} {l:List NOper} {hs:List (Nat×NH)} {rs:List (Nat×(NH->NR)×NV)} {L:List (D4×NV)} {t:Tm} {dfs:List Dfr} {ctx:Option NV} {m m':NH} {o:Out} {d1:Dyn} {v:NV} {k:D4}
theorem aT.p (hd:x.dst=some k) (hg:ak (ap L t) x.guard=some true) (hc:aj x.op= .pure) (hop:ae x.op (ap L t) m= .val v) (h:aT P S r l hs rs ⟨ap ((k,v)::L) t,dfs,ctx,m⟩ o d1):aT P S r (x::l) hs rs ⟨ap L t,dfs,ctx,m⟩ o d1:=
 aT.pure hg hc hop (by rw[hd];exact h)
theorem aT.rd (hd:x.dst=some k) (hg:ak (ap L t) x.guard=some true) (hc:aj x.op= .read) (hop:ae x.op (ap L t) m= .val v) (ha:bW x.pre (ae x.op (ap L t)) v hs=true)
 (h:aT P S r l hs ((x.idx,ae x.op (ap L t),v)::rs) ⟨ap ((k,v)::L) t,dfs,ctx,m⟩ o d1):aT P S r (x::l) hs rs ⟨ap L t,dfs,ctx,m⟩ o d1:=
 aT.read hg hc hop ha (by rw[hd];exact h)
theorem aT.e (hd:x.dst=some k) (hg:ak (ap L t) x.guard=some true) (hc:aj x.op= .eff) (ha:ahead x.pre hs=true) (hop:ae x.op (ap L t) m= .mem v m') (hst:aL x.pre m' rs=true)
 (h:aT P S r l ((x.idx,m)::hs) rs ⟨ap ((k,v)::L) t,dfs,ctx,m'⟩ .norm d1):aT P S r (x::l) hs rs ⟨ap L t,dfs,ctx,m⟩ .norm d1:=
 aT.eff hg hc ha hop hst (by rw[hd];exact h)
theorem aT.c {f:Nat} {args:List NV} {c:Option NV} (hd:x.dst=some k) (hg:ak (ap L t) x.guard=some true) (hc:aj x.op= .eff) (ha:ahead x.pre hs=true) (hop:ae x.op (ap L t) m= .call f args) (hcall:Call P S f args m (.val v c m')) (hst:aL x.pre m' rs=true)
 (h:aT P S r l ((x.idx,m)::hs) rs ⟨ap ((k,v)::L) t,dfs,ctx,m'⟩ .norm d1):aT P S r (x::l) hs rs ⟨ap L t,dfs,ctx,m⟩ .norm d1:=
 aT.call hg hc ha hop hcall hst (by rw[hd];exact h)
end
section
variable {t:Tm} {m:NH}
theorem nu {op:BinOp} {k:IntKind} {a b:Int} (h:bL op=false):eC .num op (.int k (.lit a)) (.int k (.lit b))=aZ op k a b:=by
 show cond (bL op) (aZ op k a b) (cond (e8 k k) (aZ op k a b) none)=_
 rw[show e8 k k=true by cases k<;>rfl,h];rfl
theorem CI {k:IntKind} {a b:Int}:eC .num .lss (.int k (.lit a)) (.int k (.lit b))=some (.bool (decide (a<b))):=
 (nu rfl).trans (by show aP (iO a b)=_;rw[bK,aD])
theorem D8 {k:IntKind} {a b:Int}:eC .num .gtr (.int k (.lit a)) (.int k (.lit b))=some (.bool (decide (b<a))):=
 (nu rfl).trans (by show aP (iO b a)=_;rw[bK,aD])
theorem Dj {k:IntKind} {a b:Int}:eC .num .eql (.int k (.lit a)) (.int k (.lit b))=some (.bool (decide (a=b))):=
 (nu rfl).trans (by show aP (fZ a b)=_;rw[a8,aD];rfl)
theorem C5 {k:IntKind} {a b:Int}:eC .num .neq (.int k (.lit a)) (.int k (.lit b))=some (.bool (decide (a≠b))):=
 (nu rfl).trans (by show aP (eg (fZ a b))=_;rw[a8,aD,bu];by_cases h:a=b<;>simp[h])
theorem wrap_small {n:Int} (h:-9223372036854775808<=n) (h':n<9223372036854775808):bM .i64 n=n:=by
 cases n with
 |ofNat m=>
  show cond (Nat.ble (Nat.succ m) 9223372036854775808) (Int.ofNat m) _=_
  rw[Nat.ble_eq_true_of_le (by have:(m:Int)<9223372036854775808:=h';omega)];rfl
 |negSucc m=>
  show cond (Nat.ble (Nat.succ m) 9223372036854775808) (Int.negSucc m) _=_
  rw[Nat.ble_eq_true_of_le (by have:-9223372036854775808<=Int.negSucc m:=h;omega)];rfl
theorem Ez {a b:Int} (h:-9223372036854775808<=a+b) (h':a+b<9223372036854775808):eC .num .add (.int .i64 (.lit a)) (.int .i64 (.lit b))=some (.int .i64 (.lit (a+b))):=by
 refine (nu rfl).trans ?_
 show bz .i64 (bM .i64 (nK a b))=_
 have e:nK a b=a+b:=by cases a<;>cases b<;>rfl
 rw[e,wrap_small h h']
 exact bS _ _
end
end Nm
namespace Nm
open Go Go.RowKit
section
variable {P:Program} {S:bA} {r:Option D4}
theorem gy.callp {x:NOper} {l:List NOper} {t:Tm} {dfs:List Dfr} {ctx:Option NV} {m m':NH} {f:Nat} {args:List NV} {v:NV} {c:Option NV} (hg:ak t x.guard=some true) (hop:ae x.op t m= .call f args)
 (hc:Call P S f args m (.pan v c m')):gy P S r (x::l) ⟨t,dfs,ctx,m⟩ (.pan v) ⟨t,dfs,ctx,m'⟩:=by
 obtain ⟨hne,k,hk⟩:=hc
 refine ⟨k, ?_⟩
 rw[bo,hg,hop]
 show pJ x.dst (bR P S (ev P S k) r l) t dfs ctx (pC dfs ctx (bh P S (ev P S k) f args m))=_
 rw[hk];rfl
theorem cA.regDp {l:List NOper} {d d1:Dyn} {v:NV} (h:aT P S r l [] [] d (.pan v) d1):cA P S r (.regD l) d (.pan v) ⟨iw l d1.t,d1.dfs,d1.ctx,d1.h⟩:=by
 obtain ⟨n,hn⟩:=h
 refine ⟨n+1, ?_⟩
 show (match bf P S (ev P S n) r l [] [] d with| .mk (.pan v) d=>Res.mk (.pan v) ⟨iw l d.t,d.dfs,d.ctx,d.h⟩|r=>r)=_
 rw[hn]
theorem aT.callp {x:NOper} {l:List NOper} {rs:List (Nat×(NH->NR)×NV)} {t:Tm} {dfs:List Dfr} {ctx:Option NV} {m m':NH} {f:Nat} {args:List NV} {v:NV} {c:Option NV} (hg:ak t x.guard=some true) (hc:aj x.op= .eff) (hop:ae x.op t m= .call f args)
 (hb:aV x.idx l=true) (hcall:Call P S f args m (.pan v c m')):aT P S r (x::l) [] rs ⟨t,dfs,ctx,m⟩ (.pan v) ⟨t,dfs,ctx,m'⟩:=by
 obtain ⟨hne,k,hk⟩:=hcall
 refine ⟨k, ?_⟩
 rw[bi,hg];dsimp only;rw[hc];dsimp only;rw[hop]
 rw[show ahead x.pre []=true from rfl]
 show bX (aV x.idx l) (pJ x.dst (fun d=>cond (aL x.pre d.h rs) (bf P S (ev P S k) r l ((x.idx,m):: []) rs d) .fail) t dfs ctx (pC dfs ctx (bh P S (ev P S k) f args m)))=_
 rw[hk,hb];rfl
theorem gy.pan {x:NOper} {l:List NOper} {t:Tm} {dfs:List Dfr} {ctx:Option NV} {m:NH} {v:NV} (hg:ak t x.guard=some true) (hop:ae x.op t m= .pan v):gy P S r (x::l) ⟨t,dfs,ctx,m⟩ (.pan v) ⟨t,dfs,ctx,m⟩:=by
 refine ⟨0, ?_⟩
 rw[bo,hg,hop];rfl
end
structure PE where
 p:Program
 E:NV->NH->Prop
instance:Coe Program PE:=⟨fun P=>⟨P,fun _ _=>False⟩⟩
def WF (P:PE) (S:bA) (f:Nat) (args:List NV) (m:NH) (K:NV->NH->Prop):Prop:=(∃v c m',Call P.p S f args m (.val v c m')/\K v m')∨∃v c m',Call P.p S f args m (.pan v c m')/\P.E v m'
def qE (P:PE) (Q:Out->Dyn->Prop) (o:Out) (d:Dyn):Prop:=match o with| .pan v=>d.dfs= []/\P.E v d.h|o=>Q o d
def qN (P:PE) (K:Dyn->Prop) (o:Out) (d:Dyn):Prop:=match o with| .norm=>K d| .pan v=>d.dfs= []/\P.E v d.h|_=>False
def kC (K:Dyn->Prop) (Q:Out->Dyn->Prop) (o:Out) (d:Dyn):Prop:=match o with| .norm=>K d|o=>Q o d
def kU (i:Nat) (Q:Out->Dyn->Prop) (o:Out) (d:Dyn):Prop:=match o with| .exit j=>Q (if j=i then .norm else .exit j) d|o=>Q o d
def wB (o:Option NV) (A B:Prop):Prop:=match o with|some (.bool q)=>(q=true->A)/\(q=false->B)|_=>False
section
variable (P:PE) (S:bA) (r:Option D4)
def W (c:NC) (d:Dyn) (Q:Out->Dyn->Prop):Prop:=∃o d',cA P.p S r c d o d'/\qE P Q o d'
def wN (dst:Option D4) (t:Tm) (dfs:List Dfr) (ctx:Option NV) (m:NH) (x:NR) (K:Dyn->Prop):Prop:=match x with
 | .val v=>K ⟨az dst v t,dfs,ctx,m⟩
 | .mem v m'=>K ⟨az dst v t,dfs,ctx,m'⟩
 | .call f args=>(match dfs with| []=>WF P S f args m fun v m'=>K ⟨az dst v t, [],ctx,m'⟩|x::l=>WF P.p S f args m fun v m'=>K ⟨az dst v t,x::l,ctx,m'⟩)
 | .yld q args=>∃v c m',qH P.p S q args m (.val v c m')/\K ⟨az dst v t,dfs,ctx,m'⟩
 | .pan v=>(match dfs with| []=>P.E v m|_=>False)
 |_=>False
def EM (dst:Option D4) (t:Tm) (dfs:List Dfr) (ctx:Option NV) (m:NH) (x:NR) (K:Dyn->Prop):Prop:=match x with
 | .val v=>K ⟨az dst v t,dfs,ctx,m⟩
 | .mem v m'=>K ⟨az dst v t,dfs,ctx,m'⟩
 | .call f args=>WF P.p S f args m fun v m'=>K ⟨az dst v t,dfs,ctx,m'⟩
 | .yld q args=>∃v c m',qH P.p S q args m (.val v c m')/\K ⟨az dst v t,dfs,ctx,m'⟩
 |_=>False
noncomputable def lU (hs:List (Nat×NH)) (i:Nat) (l:List NOper):Bool:=match hs with| []=>aV i l|_=>false
def Ft (b:Bool) (dst:Option D4) (t:Tm) (dfs:List Dfr) (ctx:Option NV) (m:NH) (x:NR) (K:Dyn->Prop):Prop:=match b,x with
 |true,.call f args=>wN P S dst t dfs ctx m (.call f args) K
 |_,x=>EM P S dst t dfs ctx m x K
def wO:List NOper->Dyn->(Dyn->Prop)->Prop
 | [],d,K=>K d
 |x::l,d,K=>match ak d.t x.guard with
  |some true=>wN P S x.dst d.t d.dfs d.ctx d.h (ae x.op d.t d.h) fun d=>wO l d K
  |some false=>wO l ⟨az x.dst ax d.t,d.dfs,d.ctx,d.h⟩ K
  |none=>False
def wD:List NOper->List (Nat×NH)->List (Nat×(NH->NR)×NV)->Dyn->(Dyn->Prop)->Prop
 | [],_,_,d,K=>K d
 |x::l,hs,rs,d,K=>match ak d.t x.guard with
  |some true=>(match aj x.op with
   | .pure=>(match ae x.op d.t d.h with| .val v=>wD l hs rs ⟨az x.dst v d.t,d.dfs,d.ctx,d.h⟩ K|_=>False)
   | .alloc=>ahead x.pre hs=true/\(match ae x.op d.t d.h with| .mem v m'=>wD l hs rs ⟨az x.dst v d.t,d.dfs,d.ctx,m'⟩ K|_=>False)
   | .read=>(match ae x.op d.t d.h with| .val v=>bW x.pre (ae x.op d.t) v hs=true/\wD l hs ((x.idx,ae x.op d.t,v)::rs) ⟨az x.dst v d.t,d.dfs,d.ctx,d.h⟩ K|_=>False)
   | .eff=>ahead x.pre hs=true/\Ft P S (lU hs x.idx l) x.dst d.t d.dfs d.ctx d.h (ae x.op d.t d.h) fun d'=>aL x.pre d'.h rs=true/\wD l ((x.idx,d.h)::hs) rs d' K)
  |some false=>wD l hs rs ⟨az x.dst ax d.t,d.dfs,d.ctx,d.h⟩ K
  |none=>False
def wp:NC->Dyn->(Out->Dyn->Prop)->Prop
 | .skip,d,Q=>Q .norm d
 | .ret,d,Q=>Q .ret d
 | .exit i,d,Q=>Q (.exit i) d
 | .seq a b,d,Q=>wp a d (kC (fun d=>wp b d Q) Q)
 | .cond g a b,d,Q=>wB (ρ d.t g) (wp a d Q) (wp b d Q)
 | .block i a,d,Q=>wp a d (kU i Q)
 | .reg l,d,Q=>wO P S l d (Q .norm)
 | .regD l,d,Q=>wD P S l [] [] d (Q .norm)
 | .loop a,d,Q=>W P S r (.loop a) d Q
 | .rangeFunc f ps a b,d,Q=>W P S r (.rangeFunc f ps a b) d Q
end
section
variable {P:PE} {S:bA} {r:Option D4}
theorem WF.ret' {P:Program} {f:Nat} {args:List NV} {m:NH} {K:NV->NH->Prop} (h:WF P S f args m K):∃v c m',Call P S f args m (.val v c m')/\K v m':=by
 rcases h with h|⟨_,_,_,_,h⟩
 ·exact h
 ·exact h.elim
theorem wA:∀(l:List NOper) (d:Dyn) (K:Dyn->Prop),wO P S l d K->∃o d',gy P.p S r l d o d'/\qN P K o d':=by
 intro l
 induction l with
 |nil=>exact fun d K h=>⟨_,d,gy.nil d,h⟩
 |cons x l ih=>
  rintro ⟨t,dfs,ctx,m⟩ K h
  unfold wO at h
  dsimp only at h
  split at h
  ·rename_i hg
   cases hop:ae x.op t m with
   |val v=>rw[hop] at h;obtain ⟨o,d',h1,h2⟩:=ih _ _ h;exact ⟨o,d',gy.val hg hop h1,h2⟩
   |mem v m'=>rw[hop] at h;obtain ⟨o,d',h1,h2⟩:=ih _ _ h;exact ⟨o,d',gy.mem hg hop h1,h2⟩
   |call f args=>
    rw[hop] at h
    cases dfs with
    |nil=>
     rcases h with ⟨v,c,m',hc,h⟩|⟨v,c,m',hc,h⟩
     ·obtain ⟨o,d',h1,h2⟩:=ih _ _ h
      exact ⟨o,d',gy.call hg hop hc h1,h2⟩
     ·exact ⟨_,_,gy.callp hg hop hc,rfl,h⟩
    |cons y dfs=>
     obtain ⟨v,c,m',hc,h⟩:=WF.ret' h
     obtain ⟨o,d',h1,h2⟩:=ih _ _ h
     exact ⟨o,d',gy.call hg hop hc h1,h2⟩
   |yld q args=>
    rw[hop] at h
    obtain ⟨v,c,m',hc,h⟩:=h
    obtain ⟨o,d',h1,h2⟩:=ih _ _ h
    exact ⟨o,d',gy.yld hg hop hc h1,h2⟩
   |pan v=>
    rw[hop] at h
    cases dfs with
    |nil=>exact ⟨_,_,gy.pan hg hop,rfl,h⟩
    |cons=>exact h.elim
   |_=>rw[hop] at h;exact h.elim
  ·rename_i hg
   obtain ⟨o,d',h1,h2⟩:=ih _ _ h;exact ⟨o,d',gy.off hg h1,h2⟩
  ·exact h.elim
theorem vJ:∀(l:List NOper) (hs:List (Nat×NH)) (rs:List (Nat×(NH->NR)×NV)) (d:Dyn) (K:Dyn->Prop),wD P S l hs rs d K->∃o d',aT P.p S r l hs rs d o d'/\qN P K o d'/\(o= .norm∨hs= []):=by
 intro l
 induction l with
 |nil=>exact fun hs rs d K h=>⟨_,d,aT.nil d,h,Or.inl rfl⟩
 |cons x l ih=>
  rintro hs rs ⟨t,dfs,ctx,m⟩ K h
  unfold wD at h
  dsimp only at h
  split at h
  ·rename_i hg
   split at h
   ·rename_i hcl
    cases hop:ae x.op t m with
    |val v=>rw[hop] at h;obtain ⟨o,d',h1,h2,h3⟩:=ih _ _ _ _ h;exact ⟨o,d',aT.pure hg hcl hop h1,h2,h3⟩
    |_=>rw[hop] at h;exact h.elim
   ·rename_i hcl
    obtain ⟨ha,h⟩:=h
    cases hop:ae x.op t m with
    |mem v m'=>rw[hop] at h;obtain ⟨o,d',h1,h2,h3⟩:=ih _ _ _ _ h;exact ⟨o,d',aT.alloc hg hcl ha hop h1,h2,h3⟩
    |_=>rw[hop] at h;exact h.elim
   ·rename_i hcl
    cases hop:ae x.op t m with
    |val v=>rw[hop] at h;obtain ⟨ha,h⟩:=h;obtain ⟨o,d',h1,h2,h3⟩:=ih _ _ _ _ h;exact ⟨o,d',aT.read hg hcl hop ha h1,h2,h3⟩
    |_=>rw[hop] at h;exact h.elim
   ·rename_i hcl
    obtain ⟨ha,h⟩:=h
    have fin:∀{a:Nat×NH} {o:Out},o= .norm∨a::hs= []->o= .norm:=fun h=>h.elim id fun h=>by cases h
    cases hop:ae x.op t m with
    |val v=>
     rw[hop] at h
     have h:EM P S x.dst t dfs ctx m (.val v) (fun d'=>aL x.pre d'.h rs=true/\wD P S l ((x.idx,m)::hs) rs d' K):=by cases he:lU hs x.idx l<;>rw[he] at h<;>exact h
     obtain ⟨hst,h⟩:=h
     obtain ⟨o,d',h1,h2,h3⟩:=ih _ _ _ _ h
     obtain rfl:=fin h3
     exact ⟨_,d',aT.effv hg hcl ha hop hst h1,h2,Or.inl rfl⟩
    |mem v m'=>
     rw[hop] at h
     have h:EM P S x.dst t dfs ctx m (.mem v m') (fun d'=>aL x.pre d'.h rs=true/\wD P S l ((x.idx,m)::hs) rs d' K):=by cases he:lU hs x.idx l<;>rw[he] at h<;>exact h
     obtain ⟨hst,h⟩:=h
     obtain ⟨o,d',h1,h2,h3⟩:=ih _ _ _ _ h
     obtain rfl:=fin h3
     exact ⟨_,d',aT.eff hg hcl ha hop hst h1,h2,Or.inl rfl⟩
    |call f args=>
     rw[hop] at h
     have key:WF P.p S f args m (fun v m'=>aL x.pre m' rs=true/\wD P S l ((x.idx,m)::hs) rs ⟨az x.dst v t,dfs,ctx,m'⟩ K)∨(hs= []/\dfs= []/\aV x.idx l=true/\WF P S f args m (fun v m'=>aL x.pre m' rs=true/\wD P S l ((x.idx,m)::hs) rs ⟨az x.dst v t,dfs,ctx,m'⟩ K)):=by
      cases he:lU hs x.idx l with
      |false=>rw[he] at h;exact Or.inl h
      |true=>
       rw[he] at h
       cases hs with
       |cons a hs=>cases he
       |nil=>
        cases dfs with
        |nil=>exact Or.inr ⟨rfl,rfl,he,h⟩
        |cons y dfs=>exact Or.inl h
     have go:∀{v:NV} {c:Option NV} {m':NH},Call P.p S f args m (.val v c m')->aL x.pre m' rs=true/\wD P S l ((x.idx,m)::hs) rs ⟨az x.dst v t,dfs,ctx,m'⟩ K->∃o d',aT P.p S r (x::l) hs rs ⟨t,dfs,ctx,m⟩ o d'/\qN P K o d'/\(o= .norm∨hs= []):=by
      rintro v c m' hc ⟨hst,h⟩
      obtain ⟨o,d',h1,h2,h3⟩:=ih _ _ _ _ h
      obtain rfl:=fin h3
      exact ⟨_,d',aT.call hg hcl ha hop hc hst h1,h2,Or.inl rfl⟩
     rcases key with h|⟨rfl,rfl,hb,⟨v,c,m',hc,h⟩|⟨v,c,m',hc,h⟩⟩
     ·obtain ⟨v,c,m',hc,h⟩:=WF.ret' h
      exact go hc h
     ·exact go hc h
     ·exact ⟨_,_,aT.callp hg hcl hop hb hc,⟨rfl,h⟩,Or.inr rfl⟩
    |yld q args=>
     rw[hop] at h
     have h:EM P S x.dst t dfs ctx m (.yld q args) (fun d'=>aL x.pre d'.h rs=true/\wD P S l ((x.idx,m)::hs) rs d' K):=by cases he:lU hs x.idx l<;>rw[he] at h<;>exact h
     obtain ⟨v,c,m',hc,hst,h⟩:=h
     obtain ⟨o,d',h1,h2,h3⟩:=ih _ _ _ _ h
     obtain rfl:=fin h3
     exact ⟨_,d',aT.yld hg hcl ha hop hc hst h1,h2,Or.inl rfl⟩
    |_=>rw[hop] at h;cases he:lU hs x.idx l<;>rw[he] at h<;>exact h.elim
  ·rename_i hg
   obtain ⟨o,d',h1,h2,h3⟩:=ih _ _ _ _ h;exact ⟨o,d',aT.off hg h1,h2,h3⟩
  ·exact h.elim
theorem bO:∀(c:NC) (d:Dyn) (Q:Out->Dyn->Prop),wp P S r c d Q->W P S r c d Q:=by
 intro c
 induction c with
 |skip=>exact fun d Q h=>⟨_,_,cA.skip d,h⟩
 |ret=>exact fun d Q h=>⟨_,_,cA.ret d,h⟩
 |exit i=>exact fun d Q h=>⟨_,_,cA.exit i d,h⟩
 |seq a b iha ihb=>
  intro d Q h
  obtain ⟨o,d1,h1,h2⟩:=iha _ _ h
  cases o with
  |norm=>obtain ⟨o,d2,h3,h4⟩:=ihb _ _ h2;exact ⟨o,d2,cA.seq h1 h3,h4⟩
  |_=>exact ⟨_,_,cA.seq_out h1 (by simp),h2⟩
 |cond g a b iha ihb=>
  intro d Q h
  unfold wp wB at h
  split at h
  ·rename_i q hq
   cases q with
   |true=>obtain ⟨o,d1,h1,h2⟩:=iha _ _ (h.1 rfl);exact ⟨o,d1,cA.cond hq (by simpa using h1),h2⟩
   |false=>obtain ⟨o,d1,h1,h2⟩:=ihb _ _ (h.2 rfl);exact ⟨o,d1,cA.cond hq (by simpa using h1),h2⟩
  ·exact h.elim
 |block i a iha=>
  intro d Q h
  obtain ⟨o,d1,h1,h2⟩:=iha _ _ h
  refine ⟨_,d1,cA.block h1, ?_⟩
  cases o with
  |exit j=>
   dsimp only
   change Q (if j=i then .norm else .exit j) d1 at h2
   by_cases e:j=i
   ·subst e;rw[Gj rfl] at h2;rw[Nat.beq_refl];exact h2
   ·rw[Gi e] at h2
    rw[show Nat.beq j i=false from by cases hb:Nat.beq j i with|false=>rfl|true=>exact Gh (Gm hb) e];exact h2
  |_=>exact h2
 |reg l=>
  intro d Q h
  obtain ⟨o,d',h1,h2⟩:=wA (r:=r) _ _ _ h
  cases o with
  |norm=>exact ⟨_,_,cA.reg h1,h2⟩
  |pan v=>exact ⟨_,_,cA.reg h1,h2⟩
  |_=>exact h2.elim
 |regD l=>
  intro d Q h
  obtain ⟨o,d',h1,h2,h3⟩:=vJ (r:=r) _ _ _ _ _ h
  cases o with
  |norm=>exact ⟨_,_,cA.regD h1,h2⟩
  |pan v=>exact ⟨_,_,cA.regDp h1,h2⟩
  |_=>exact h2.elim
 |loop a _=>exact fun d Q h=>h
 |rangeFunc f ps a b _ _=>exact fun d Q h=>h
theorem W.loop {c:NC} {Q:Out->Dyn->Prop} (I:Nat->Dyn->Prop) (h:∀k d,I k d->W P S r c d (fun o d'=>match o with| .norm=>∃j,j<k/\I j d'|o=>Q o d')):∀k d,I k d->W P S r (.loop c) d Q:=by
 intro k
 induction k using Nat.strongRecOn with
 |ind k ih=>
  intro d hd
  obtain ⟨o,d',h1,h2⟩:=h k d hd
  cases o with
  |norm=>
   obtain ⟨j,hj,hI⟩:=h2
   obtain ⟨o,d2,h3,h4⟩:=ih j hj d' hI
   exact ⟨o,d2,cA.loop h1 h3,h4⟩
  |_=>exact ⟨_,_,cA.loop_out h1 (by simp),h2⟩
theorem W.mono {c:NC} {d:Dyn} {Q Q':Out->Dyn->Prop} (h:W P S r c d Q) (hq:∀o d,Q o d->Q' o d):W P S r c d Q':=by
 obtain ⟨o,d',h1,h2⟩:=h
 refine ⟨o,d',h1, ?_⟩
 cases o with
 |pan v=>exact h2
 |_=>exact hq _ _ h2
end
end Nm
namespace Nm
open Go Go.RowKit
section
variable {P:PE} {S:bA} {r:Option D4} {dst:Option D4} {op:NOp} {pre idx:Nat} {l:List NOper} {hs:List (Nat×NH)} {rs:List (Nat×(NH->NR)×NV)}
 {L:List (D4×NV)} {t:Tm} {dfs:List Dfr} {ctx:Option NV} {m m':NH} {v:NV} {k k':D4} {d:Dyn} {Q:Out->Dyn->Prop} {K:Dyn->Prop} {A B:Prop}
theorem A0:wp P S r .skip d Q=Q .norm d:=_root_.id rfl
theorem DC:wp P S r .ret d Q=Q .ret d:=_root_.id rfl
theorem AV {i:Nat}:wp P S r (.exit i) d Q=Q (.exit i) d:=_root_.id rfl
theorem zh {i:Nat} {a:NC}:wp P S r (.block i a) d Q=wp P S r a d (kU i Q):=_root_.id rfl
theorem DQ:wp P S r (.reg l) d Q=wO P S l d (Q .norm):=_root_.id rfl
theorem B8:wp P S r (.regD l) d Q=wD P S l [] [] d (Q .norm):=_root_.id rfl
theorem BM {a:NC}:wp P S r (.loop a) d Q=W P S r (.loop a) d Q:=_root_.id rfl
theorem BZ:kC K Q .norm d=K d:=_root_.id rfl
theorem AX:kC K Q .ret d=Q .ret d:=_root_.id rfl
theorem zM {i:Nat}:kC K Q (.exit i) d=Q (.exit i) d:=_root_.id rfl
theorem xj {i:Nat}:kU i Q .norm d=Q .norm d:=_root_.id rfl
theorem yk {i j:Nat}:kU i Q (.exit j) d=Q (if j=i then .norm else .exit j) d:=_root_.id rfl
theorem Em:wO P S [] d K=K d:=_root_.id rfl
def wX (c:Cls) (x:NR) (P:PE) (S:bA) (f:NH->NR) (dst:Option D4) (pre idx:Nat) (l:List NOper) (hs:List (Nat×NH)) (rs:List (Nat×(NH->NR)×NV)) (d:Dyn) (K:Dyn->Prop):Prop:=
 match c with
 | .pure=>(match x with| .val v=>wD P S l hs rs ⟨az dst v d.t,d.dfs,d.ctx,d.h⟩ K|_=>False)
 | .alloc=>ahead pre hs=true/\(match x with| .mem v m'=>wD P S l hs rs ⟨az dst v d.t,d.dfs,d.ctx,m'⟩ K|_=>False)
 | .read=>(match x with| .val v=>bW pre f v hs=true/\wD P S l hs ((idx,f,v)::rs) ⟨az dst v d.t,d.dfs,d.ctx,d.h⟩ K|_=>False)
 | .eff=>ahead pre hs=true/\Ft P S (lU hs idx l) dst d.t d.dfs d.ctx d.h x fun d'=>aL pre d'.h rs=true/\wD P S l ((idx,d.h)::hs) rs d' K
theorem B9:wD P S [] hs rs d K=K d:=_root_.id rfl
theorem zc:wD P S (⟨dst,op,none,pre,idx⟩::l) hs rs ⟨ap L t,dfs,ctx,m⟩ K=wX (aj op) (ae op (ap L t) m) P S (ae op (ap L t)) dst pre idx l hs rs ⟨ap L t,dfs,ctx,m⟩ K:=by
 cases h:aj op<;>simp only[wD,ak,h,wX]<;>cases ae op (ap L t) m<;>rfl
section
variable {f:NH->NR}
theorem zu:wX .pure (.val v) P S f (some k) pre idx l hs rs ⟨ap L t,dfs,ctx,m⟩ K=wD P S l hs rs ⟨ap ((k,v)::L) t,dfs,ctx,m⟩ K:=_root_.id rfl
theorem uV:wX .alloc (.mem v m') P S f (some k) pre idx l hs rs ⟨ap L t,dfs,ctx,m⟩ K=(ahead pre hs=true/\wD P S l hs rs ⟨ap ((k,v)::L) t,dfs,ctx,m'⟩ K):=_root_.id rfl
theorem xg:wX .read (.val v) P S f (some k) pre idx l hs rs ⟨ap L t,dfs,ctx,m⟩ K=(bW pre f v hs=true/\wD P S l hs ((idx,f,v)::rs) ⟨ap ((k,v)::L) t,dfs,ctx,m⟩ K):=_root_.id rfl
theorem va:bW pre f v []=true:=_root_.id rfl
theorem w5:ahead pre []=true:=_root_.id rfl
theorem wa:aL pre m []=true:=_root_.id rfl
end
theorem CS:NT.get k (ap L t)=cP k L (NT.get k t):=dh k L t
theorem CV:ρ (ap L t) (.tmp k)=cP k L (NT.get k t):=dh k L t
theorem zx:ρ t (.const v)=some v:=_root_.id rfl
theorem xU {o:Option NV}:cP k [] o=o:=_root_.id rfl
theorem A7 {o:Option NV}:cP k ((k',v)::L) o=cond (aO k k') (some v) (cP k L o):=_root_.id rfl
theorem E0:aO .e .e=true:=_root_.id rfl
theorem Fl:aO .e (.a k)=false:=_root_.id rfl
theorem E6:aO .e (.b k)=false:=_root_.id rfl
theorem E5:aO .e (.c k)=false:=_root_.id rfl
theorem Fj:aO .e (.f k)=false:=_root_.id rfl
theorem FR:aO (.a k) .e=false:=_root_.id rfl
theorem FI:aO (.a k) (.a k')=aO k k':=_root_.id rfl
theorem Ff:aO (.a k) (.b k')=false:=_root_.id rfl
theorem Fz:aO (.a k) (.c k')=false:=_root_.id rfl
theorem Fi:aO (.a k) (.f k')=false:=_root_.id rfl
theorem EU:aO (.b k) .e=false:=_root_.id rfl
theorem Fk:aO (.b k) (.a k')=false:=_root_.id rfl
theorem FJ:aO (.b k) (.b k')=aO k k':=_root_.id rfl
theorem FD:aO (.b k) (.c k')=false:=_root_.id rfl
theorem Fo:aO (.b k) (.f k')=false:=_root_.id rfl
theorem FV:aO (.c k) .e=false:=_root_.id rfl
theorem FM:aO (.c k) (.a k')=false:=_root_.id rfl
theorem Fm:aO (.c k) (.b k')=false:=_root_.id rfl
theorem Fd:aO (.c k) (.c k')=aO k k':=_root_.id rfl
theorem FQ:aO (.c k) (.f k')=false:=_root_.id rfl
theorem FT:aO (.f k) .e=false:=_root_.id rfl
theorem FN:aO (.f k) (.a k')=false:=_root_.id rfl
theorem FB:aO (.f k) (.b k')=false:=_root_.id rfl
theorem FU:aO (.f k) (.c k')=false:=_root_.id rfl
theorem Fe:aO (.f k) (.f k')=aO k k':=_root_.id rfl
end
def oN (o:Option NV) (K:NV->NR):NR:=match o with|some v=>K v|none=> .fail
theorem E7 {v:NV} {K:NV->NR}:oN (some v) K=K v:=_root_.id rfl
theorem b0 {t:Tm} {x:NOpd} {K:NV->NR}:wV t x K=oN (ρ t x) K:=by
 unfold wV oN;cases ρ t x<;>rfl
theorem FX {v:NV}:vr (some v)= .val v:=_root_.id rfl
def Ef (v:NV):NR:=match v with| .slc _ _ n _ _=> .val (.int .i64 (.lit (.ofNat n)))| .nils=> .val (.int .i64 (.lit (.ofNat 0)))|_=> .fail
def vC (n:Nat) (s i:NV):NR:=match s,i with| .slc id off len _ _,.int _ (.lit (.ofNat i))=>if i<len then .val (.ptr id (off+i*n)) else .fail|_,_=> .fail
noncomputable def zb (m:NH) (p:NV):NR:=match p with| .ptr id off=>(match m.get id with|some (.cells _ c)=>oN c[off]? .val|_=> .fail)|_=> .fail
noncomputable def zS (n:Nat) (m:NH) (p:NV):NR:=match p with| .ptr id off=>(match m.get id with|some (.cells _ c)=>if off+n<=c.length then .val (.agg ((c.drop off).take n)) else .fail|_=> .fail)|_=> .fail
def Et (k:Nat) (p:NV):NR:=match p with| .ptr id off=> .val (.ptr id (off+k))|_=> .fail
section
variable {t:Tm} {m:NH}
theorem AF {x:NOpd}:ae (.move x) t m=oN (ρ t x) .val:=b0
theorem Ei {c:BC} {op:BinOp} {x y:NOpd}:ae (.bin c op x y) t m=oN (ρ t x) fun a=>oN (ρ t y) fun b=>vr (eC c op a b):=by
 show wV t x (fun a=>wV t y fun b=>vr (eC c op a b))=_
 simp only[b0]
theorem FY {u:UnOp} {x:NOpd}:ae (.un u x) t m=oN (ρ t x) fun v=>vr (EQ u v):=b0
theorem Ed {x:NOpd}:ae (.lenSlc x) t m=oN (ρ t x) Ef:=by
 show wV t x _=_
 rw[b0];cases ρ t x with
 |none=>rfl
 |some v=>cases v<;>rfl
theorem CZ {n:Nat} {x i:NOpd}:ae (.indexSlc n x i) t m=oN (ρ t x) fun s=>oN (ρ t i) fun i=>vC n s i:=by
 show wV t x (fun v=>dw t i fun i=>match v with
  | .slc id off len _ _=>cond (Nat.ble (Nat.succ i) len) (ag (Nat.add off (Nat.mul i n)) fun o=> .val (.ptr id o)) .fail
  |_=> .fail)=_
 unfold dw
 simp only[b0]
 cases ρ t x with
 |none=>rfl
 |some s=>
  show oN (ρ t i) _=oN (ρ t i) _
  cases ρ t i with
  |none=>rfl
  |some j=>
   show aI (rF j) _=vC n s j
   cases j with
   |int k z=>
    cases z with
    |lit z=>
     cases z with
     |ofNat q=>
      cases s with
      |slc id off len e kc=>
       show cond (Nat.ble (Nat.succ q) len) (ag (Nat.add off (Nat.mul q n)) fun o=>NR.val (.ptr id o)) .fail=if q<len then _ else _
       rw[aa]
       by_cases hq:q<len
       ·rw[Gj hq,Nat.ble_eq_true_of_le hq];rfl
       ·rw[Gi hq,show Nat.ble (Nat.succ q) len=false from by cases hb:Nat.ble (Nat.succ q) len with|false=>rfl|true=>exact Gh (Nat.le_of_ble_eq_true hb) hq];rfl
      |_=>rfl
     |negSucc q=>cases s<;>rfl
    |_=>cases s<;>rfl
   |_=>cases s<;>rfl
theorem DH {x:NOpd}:ae (.load1 x) t m=oN (ρ t x) (zb m):=by
 show wV t x (fun a=>match a with| .ptr id off=>bj m id fun c=>aI (ij c off) .val|_=> .fail)=_
 rw[b0]
 cases ρ t x with
 |none=>rfl
 |some v=>
  cases v with
  |ptr id off=>
   show bj m id (fun c=>aI (ij c off) .val)=zb m (.ptr id off)
   unfold bj zb
   dsimp only
   split<;>rename_i hm
   ·rw[hm];dsimp only;rw[dG];cases (_:List NV)[off]? <;>rfl
   ·split<;>rename_i h2
    ·exact Gh h2 (hm _ _)
    ·rfl
  |_=>rfl
theorem En {k:Nat} {x:NOpd}:ae (.fieldAddr k x) t m=oN (ρ t x) (Et k):=by
 show wV t x (fun v=>match v with| .ptr id o=>ag (Nat.add o k) fun o=> .val (.ptr id o)|_=> .fail)=_
 rw[b0]
 cases ρ t x with
 |none=>rfl
 |some v=>cases v<;>first|rfl|exact aa (R:=NR) _ (fun o=> .val (.ptr _ o))
theorem DE {k off:Nat} {id:D4}:Et k (.ptr id off)= .val (.ptr id (off+k)):=_root_.id rfl
end
theorem CQ {b:Bool}:EQ .not (.bool b)=some (.bool (!b)):=by cases b<;>rfl
end Nm
namespace Nm
open Go Go.RowKit
def rK (o:Option NV) (K:NV->Prop):Prop:=match o with|some v=>K v|none=>False
def mI (rs:List NRes) (K:NV->NH->Prop) (o:Out) (d:Dyn):Prop:=(o= .norm∨o= .ret)/\d.dfs= []/\∃v,bt d.h d.t rs .fail (fun l=> .val (fR l) d.ctx d.h)= .val v d.ctx d.h/\K v d.h
section
variable {P:Program} {S:bA} {L:List (D4×NV)} {t:Tm} {ctx:Option NV} {m:NH} {K:NV->NH->Prop} {k k1 k2 k3:D4}
theorem D3 {o:Out} (ho:o= .norm∨o= .ret):mI [.tmp k] K o ⟨ap L t, [],ctx,m⟩=rK (cP k L (NT.get k t)) fun v=>K v m:=by
 apply propext
 have e:∀x,NT.get k (ap L t)=x->bt m (ap L t) [.tmp k] .fail (fun l=> .val (fR l) ctx m)=(match x with|some v=>CR.val v ctx m|none=> .fail):=by
  rintro x rfl
  show (match (match NT.get k (ap L t) with|some v=>NR.val v|none=>NR.fail) with| .val v=>CR.val (fR [v]) ctx m|_=>CR.fail)=_
  cases NT.get k (ap L t)<;>rfl
 constructor
 ·rintro ⟨_,_,v,h1,h2⟩
  change bt m (ap L t) [.tmp k] .fail (fun l=> .val (fR l) ctx m)=_ at h1
  rw[e _ (dh _ _ _)] at h1
  cases hx:cP k L (NT.get k t) with
  |none=>rw[hx] at h1;cases h1
  |some u=>rw[hx] at h1;cases h1;exact h2
 ·intro h
  cases hx:cP k L (NT.get k t) with
  |none=>rw[hx] at h;exact h.elim
  |some u=>rw[hx] at h;exact ⟨ho,rfl,u,(e _ ((dh _ _ _).trans hx)),h⟩
theorem B7:mI [.tmp k] K .ret ⟨ap L t, [],ctx,m⟩=rK (cP k L (NT.get k t)) fun v=>K v m:=D3 (.inr rfl)
theorem E3 {v:NV} {K:NV->Prop}:rK (some v) K=K v:=_root_.id rfl
theorem Call.of_pan {P:Program} {f:Nat} {nf:NFun} (hs:∀l,S f l=fun _=>none) (hf:an P f=some (.code nf)) {args:List NV} {m:NH} {v:NV} {d:Dyn} (h:cA P S none nf.body ⟨bY args 0 .leaf, [],none,m⟩ (.pan v) d) (hd:d.dfs= []):Call P S f args m (.pan v d.ctx d.h):=by
 obtain ⟨n,hn⟩:=h
 refine ⟨by simp,n, ?_⟩
 unfold bh
 rw[hs]
 dsimp only
 rw[hf]
 dsimp only
 rw[cD,hf]
 dsimp only
 rw[hn]
 dsimp only
 rw[hd];rfl
theorem WF.of_wp {P:Program} {E:NV->NH->Prop} (hs:∀f l,S f l=fun _=>none) {f:Nat} {nf:NFun} (hf:an P f=some (.code nf)) {args:List NV} {K:NV->NH->Prop} (hL:bY args 0 .leaf=ap L .leaf)
 (h:wp ⟨P,E⟩ S none nf.body ⟨ap L .leaf, [],none,m⟩ (mI nf.results K)):WF ⟨P,E⟩ S f args m K:=by
 obtain ⟨o,d,h1,h2⟩:=bO _ _ _ h
 rw[←hL] at h1
 cases o with
 |pan v=>exact Or.inr ⟨v,d.ctx,d.h,Call.of_pan (hs f) hf h1 h2.1,h2.2⟩
 |_=>
  obtain ⟨ho,hd,v,hv,hK⟩:=h2
  exact Or.inl ⟨v,d.ctx,d.h,Call.of_run (hs f) hf ho h1 hd hv (by simp),hK⟩
end
end Nm
namespace Nm
open Go Go.RowKit
def na (m:NH) (j:Nat):D4:=D4.of (m.next.toNat+j)
def aM (m:NH) (id:D4):Prop:=id.toNat<m.next.toNat
instance (m:NH) (id:D4):Decidable (aM m id):=inferInstanceAs (Decidable (_<_))
inductive AK where
 |n (j:Nat)
 |o (id:D4)
noncomputable def ot (m:NH):List (AK×NO)->NT NO
 | []=>m.m
 |(.n j,x)::l=>NT.put (na m j) x (ot m l)
 |(.o id,x)::l=>if aM m id then NT.put id x (ot m l) else ot m l
noncomputable def hp (l:List (AK×NO)) (k:Nat) (m:NH):NH:=⟨ot m l,na m k⟩
def jC (j:Nat):List (AK×NO)->Option NO->Option NO
 | [],d=>d
 |(.n i,x)::l,d=>if j=i then some x else jC j l d
 |(.o _,_)::l,d=>jC j l d
noncomputable def fI (id:D4):List (AK×NO)->Option NO->Option NO
 | [],d=>d
 |(.n _,_)::l,d=>fI id l d
 |(.o i,x)::l,d=>@ite _ (id=i) (Classical.propDecidable _) (some x) (fI id l d)
theorem qW {m:NH} {i j:Nat} (h:na m i=na m j):i=j:=by
 have:=D4.of_inj h;omega
theorem pk {m:NH} {i j:Nat}:(na m i=na m j)=(i=j):=propext ⟨qW,fun h=>by rw[h]⟩
theorem Bn (m:NH) (k:Nat):(na m k).nxt=na m (k+1):=by
 apply D4.toNat_inj
 rw[D4.toNat_nxt];unfold na;rw[D4.toNat_of,D4.toNat_of];omega
theorem jI (m:NH):na m 0=m.next:=D4.of_toNat _
theorem aQ (m:NH):hp [] 0 m=m:=by
 show NH.mk m.m (na m 0)=m
 rw[jI]
theorem aM.ne {m:NH} {id:D4} (h:aM m id) (j:Nat):id≠na m j:=by
 intro e
 unfold aM at h
 rw[e] at h;unfold na at h;rw[D4.toNat_of] at h;omega
section
variable {m:NH} {l:List (AK×NO)} {k j:Nat} {o:NO} {id:D4}
theorem BX:(hp l k m).next=na m k:=_root_.id rfl
theorem wT:(hp l k m).add o=hp ((.n k,o)::l) (k+1) m:=by
 show NH.mk (NT.put (na m k) o (ot m l)) (na m k).nxt=NH.mk (NT.put (na m k) o (ot m l)) (na m (k+1))
 rw[Bn]
theorem Bo:(hp l k m).put (na m j) o=hp ((.n j,o)::l) k m:=_root_.id rfl
theorem lv (h:aM m id):(hp l k m).put id o=hp ((.o id,o)::l) k m:=by
 show NH.mk (NT.put id o (ot m l)) (na m k)=NH.mk (if aM m id then NT.put id o (ot m l) else ot m l) (na m k)
 rw[Gj h]
theorem m7:(hp l k m).get (na m j)=jC j l (m.get (na m j)):=by
 show NT.get (na m j) (ot m l)=_
 induction l with
 |nil=>rfl
 |cons p l ih=>
  obtain ⟨a,x⟩:=p
  cases a with
  |n i=>
   show NT.get (na m j) (NT.put (na m i) x (ot m l))=if j=i then some x else jC j l _
   split
   ·rename_i h;rw[h];exact NT.get_put_same _ _ _
   ·rename_i h;rw[NT.get_put_ne (fun e=>h (qW e))];exact ih
  |o i=>
   show NT.get (na m j) (if aM m i then NT.put i x (ot m l) else ot m l)=jC j l _
   split
   ·rename_i h;rw[NT.get_put_ne (fun e=>h.ne j e.symm)];exact ih
   ·exact ih
theorem nG (h:aM m id):(hp l k m).get id=fI id l (m.get id):=by
 show NT.get id (ot m l)=_
 induction l with
 |nil=>rfl
 |cons p l ih=>
  obtain ⟨a,x⟩:=p
  cases a with
  |n i=>
   show NT.get id (NT.put (na m i) x (ot m l))=fI id l _
   rw[NT.get_put_ne (h.ne _)];exact ih
  |o i=>
   show NT.get id (if aM m i then NT.put i x (ot m l) else ot m l)=@ite _ (id=i) (Classical.propDecidable _) (some x) (fI id l _)
   by_cases e:id=i
   ·rw[Gj e,←e,Gj h];exact NT.get_put_same _ _ _
   ·rw[Gi e]
    split
    ·rw[NT.get_put_ne e];exact ih
    ·exact ih
theorem wU {i:Nat} {d:Option NO}:jC j ((.n i,o)::l) d=if j=i then some o else jC j l d:=_root_.id rfl
theorem vp {d:Option NO}:fI id [] d=d:=_root_.id rfl
theorem oH {i:Nat} {d:Option NO}:fI id ((.n i,o)::l) d=fI id l d:=_root_.id rfl
theorem kJ {d:Option NO}:fI id ((.o id,o)::l) d=some o:=Gj rfl
theorem oD {i:D4} {d:Option NO} (h:id≠i):fI id ((.o i,o)::l) d=fI id l d:=Gi h
end
structure Chg (S:List D4) (m m':NH):Prop where
 next:m.next.toNat<=m'.next.toNat
 get:∀{id},aM m id->id∉S->m'.get id=m.get id
theorem Chg.old {S:List D4} {m m':NH} {id:D4} (h:Chg S m m') (ho:aM m id):aM m' id:=Nat.lt_of_lt_of_le ho h.next
theorem Chg.refl (m:NH):Chg [] m m:=⟨Nat.le_refl _,fun _ _=>rfl⟩
theorem Chg.weak {S T:List D4} {a b:NH} (h:Chg S a b) (hs:∀id,id∈S->aM a id->id∈T):Chg T a b:=
 ⟨h.1,fun {id} ho hi=>h.2 ho fun q=>hi (hs id q ho)⟩
theorem Chg.trans {S T:List D4} {a b c:NH} (h:Chg S a b) (h':Chg T b c) (hs:∀id,id∈T->aM a id->id∈S):Chg S a c:=
 ⟨Nat.le_trans h.1 h'.1,fun {id} ho hi=>(h'.2 (h.old ho) fun q=>hi (hs id q ho)).trans (h.2 ho hi)⟩
def tQ:List (AK×NO)->List D4
 | []=> []
 |(.n _,_)::l=>tQ l
 |(.o i,_)::l=>i::tQ l
theorem wI (l:List (AK×NO)) (k:Nat) (m:NH):Chg (tQ l) m (hp l k m):=by
 refine ⟨by show m.next.toNat<=(na m k).toNat;unfold na;rw[D4.toNat_of];omega,fun {id} ho hi=> ?_⟩
 rw[nG ho]
 induction l with
 |nil=>rfl
 |cons p l ih=>
  obtain ⟨a,x⟩:=p
  cases a with
  |n i=>rw[oH];exact ih hi
  |o i=>
   have hi:id∉i::tQ l:=hi
   rw[List.mem_cons] at hi
   rw[oD (fun e=>hi (Or.inl e))]
   exact ih fun q=>hi (Or.inr q)
theorem aC {l:List (AK×NO)} {k j:Nat} {m:NH} (h:j<k):aM (hp l k m) (na m j):=by
 show (na m j).toNat<(na m k).toNat
 unfold na;rw[D4.toNat_of,D4.toNat_of];omega
theorem ao {l:List (AK×NO)} {k:Nat} {m:NH} {id:D4} (h:aM m id):aM (hp l k m) id:=(wI l k m).old h
theorem bJ {m:NH} {j:Nat}:¬aM m (na m j):=by
 show ¬(na m j).toNat<m.next.toNat
 unfold na;rw[D4.toNat_of];omega
def dV (P:Program) (S:bA) (f:Nat) (args:List NV) (m:NH) (v:NV) (m':NH):Prop:=∃c,Call P S f args m (.val v c m')
section
variable {P:Program} {S:bA} {f:Nat} {args:List NV} {m:NH}
theorem WF.of_wpH {P:Program} {E:NV->NH->Prop} {nf:NFun} (hs:∀l,S f l=fun _=>none) (hf:an P f=some (.code nf)) {K:NV->NH->Prop} {L:List (D4×NV)} (hL:bY args 0 .leaf=ap L .leaf)
 (h:wp ⟨P,E⟩ S none nf.body ⟨ap L .leaf, [],none,hp [] 0 m⟩ (mI nf.results K)):WF ⟨P,E⟩ S f args m K:=by
 rw[aQ] at h
 obtain ⟨o,d,h1,h2⟩:=bO _ _ _ h
 rw[←hL] at h1
 cases o with
 |pan v=>exact Or.inr ⟨v,d.ctx,d.h,Call.of_pan hs hf h1 h2.1,h2.2⟩
 |_=>
  obtain ⟨ho,hd,v,hv,hK⟩:=h2
  exact Or.inl ⟨v,d.ctx,d.h,Call.of_run hs hf ho h1 hd hv (by simp),hK⟩
theorem WF.ret {K:NV->NH->Prop} (h:WF P S f args m K):∃v m',dV P S f args m v m'/\K v m':=by
 obtain ⟨v,c,m',hc,hk⟩:=WF.ret' h;exact ⟨v,m',⟨c,hc⟩,hk⟩
theorem Call.det {x y:CR} (h:Call P S f args m x) (h':Call P S f args m y):x=y:=by
 obtain ⟨hn,n,e⟩:=h
 obtain ⟨hn',k,e'⟩:=h'
 rw[←cj (bk (Nat.le_max_left n k)) e hn,cj (bk (Nat.le_max_right n k)) e' hn']
theorem dV.wf {E:NV->NH->Prop} {v:NV} {m':NH} (h:dV P S f args m v m') {K:NV->NH->Prop}:WF ⟨P,E⟩ S f args m K=K v (hp [] 0 m'):=by
 rw[aQ]
 apply propext
 constructor
 ·rintro (⟨u,c,n,hc,hk⟩|⟨u,c,n,hc,hk⟩)
  ·obtain ⟨c',h'⟩:=h
   have:=Call.det hc h'
   injection this with a _ b
   rw[←a,←b];exact hk
  ·obtain ⟨c',h'⟩:=h
   exact Gh (Call.det hc h') (by simp)
 ·intro hk
  obtain ⟨c,h⟩:=h
  exact Or.inl ⟨v,c,m',h,hk⟩
def Gb (P:Program) (S:bA) (f:Nat) (args:List NV) (m:NH) (v:NV) (m':NH):Prop:=∃c,Call P S f args m (.pan v c m')
theorem Gb.wf {E:NV->NH->Prop} {v:NV} {m':NH} (h:Gb P S f args m v m') {K:NV->NH->Prop}:WF ⟨P,E⟩ S f args m K=E v m':=by
 apply propext
 constructor
 ·rintro (⟨u,c,n,hc,hk⟩|⟨u,c,n,hc,hk⟩)
  ·obtain ⟨c',h'⟩:=h
   exact Gh (Call.det hc h') (by simp)
  ·obtain ⟨c',h'⟩:=h
   have:=Call.det hc h'
   injection this with a _ b
   rw[←a,←b];exact hk
 ·intro hk
  obtain ⟨c,h⟩:=h
  exact Or.inr ⟨v,c,m',h,hk⟩
end
section
variable {t:Tm} {m:NH}
theorem Ay {x:NOpd} {ty:Nat}:ae (.box x ty) t m=oN (ρ t x) fun v=>match cellsOf v with|some cs=> .mem (.ptr m.next 0) (m.add (.cells true cs))|none=> .fail:=by
 show wV t x (fun v=>aI (cellsOf v) fun cs=>m.new (.cells true cs) fun id h=> .mem (.ptr id 0) h)=_
 rw[b0]
 cases ρ t x with
 |none=>rfl
 |some v=>
  show aI (cellsOf v) _=(match cellsOf v with|some cs=>_|none=>NR.fail)
  cases cellsOf v with
  |none=>rfl
  |some cs=>exact NH.new_eq m (.cells true cs) (fun id h=>NR.mem (.ptr id 0) h)
theorem An {z:List NV} {ty:Nat}:ae (.alloc z ty) t m= .mem (.ptr m.next 0) (m.add (.cells true z)):=NH.new_eq m (.cells true z) (fun id h=>NR.mem (.ptr id 0) h)
end
end Nm
namespace Nm
open Go Go.RowKit
section
variable {P:Program} {S:bA}
theorem qH.of {l:D4} {args:List NV} {m:NH} {p p1:Jump} {tm tm1:NT NV} {ps ps1:List D4} {a b a1 b1:NC} {d1 d2:Dyn} {o:Out} {x:CR}
 (hm:m.get l=some (.loop 0 p tm ps a b)) (hlen:args.length=ps.length) (ha:cA P S (some l) a ⟨lA ps args tm, [],none,m⟩ .norm d1) (hd1:d1.dfs= [])
 (hm1:d1.h.get l=some (.loop 0 p1 tm1 ps1 a1 b1)) (hb:cA P S (some l) b ⟨d1.t, [],none,d1.h.put l (.loop 1 p1 tm1 ps1 a1 b1)⟩ o d2) (ho:∀v,o≠.pan v) (hr:cu l o d2.h=x) (hne:x≠.fail):qH P S l args m x:=by
 obtain ⟨n,hn⟩:=ha
 obtain ⟨k,hk⟩:=hb
 refine ⟨hne,max n k, ?_⟩
 have key:∀(ps:List D4) (args:List NV) (tm:Tm) (K:Tm->CR),args.length=ps.length->cq .fail ps args tm K=K (lA ps args tm):=by
  intro ps
  induction ps with
  |nil=>intro args tm K h;cases args with
   |nil=>rfl
   |cons=>simp at h
  |cons q ps ih=>
   intro args tm K h
   cases args with
   |nil=>simp at h
   |cons v vs=>
    have e:cq .fail (q::ps) (v::vs) tm K=NT.set q v tm fun t=>cq .fail ps vs t K:=rfl
    rw[e,NT.set_eq]
    exact ih _ _ _ (by simpa using h)
 unfold round
 rw[hm]
 show cq .fail ps args tm (fun t=>match ev P S (max n k) (some l) a ⟨t, [],none,m⟩ with
  | .mk .norm d=>(match d.dfs with| []=>bH (ev P S (max n k)) l b d.t d.h|_=> .fail)
  |_=> .fail)=x
 rw[key _ _ _ _ hlen,bk (Nat.le_max_left n k) _ _ _ _ _ hn]
 show (match d1.dfs with| []=>bH (ev P S (max n k)) l b d1.t d1.h|_=> .fail)=x
 rw[hd1]
 show bH (ev P S (max n k)) l b d1.t d1.h=x
 unfold bH
 rw[hm1]
 show (d1.h.set l (.loop 1 p1 tm1 ps1 a1 b1) fun h=>(match ev P S (max n k) (some l) b ⟨d1.t, [],none,h⟩ with
  | .mk o d=>(match o with
   | .pan v=>(match d.dfs with| []=>CR.pan v none d.h|_=> .fail)
   |o=>cu l o d.h)
  | .fail=> .fail))=x
 rw[NH.set_eq,bk (Nat.le_max_right n k) _ _ _ _ _ hk]
 cases o with
 |pan v=>exact Gh rfl (ho v)
 |_=>exact hr
theorem cA.range {f:Nat} {cap:List NV} {fx:NOpd} {ps:List D4} {a b:NC} {t:Tm} {dfs:List Dfr} {ctx:Option NV} {m m':NH} {v:NV} {c:Option NV} {o:Out} {d:Dyn}
 (hf:ρ t fx=some (.fn f cap)) (hc:Call P S f (.yld (m.add (.defd true)).next::cap) ((m.add (.defd true)).add (.loop 0 .none t ps a b)) (.val v c m'))
 (he:dk (m.add (.defd true)).next t (.mark m.next::dfs) ctx m'= .mk o d):cA P S none (.rangeFunc fx ps a b) ⟨t,dfs,ctx,m⟩ o d:=by
 obtain ⟨hne,k,hk⟩:=hc
 refine ⟨k+1, ?_⟩
 show (match ρ t fx with
  |some (.fn f cap)=>m.new (.defd true) fun q m=>br P S (ev P S k) f cap ps a b t (.mark q::dfs) ctx m
  |_=>Res.fail)=_
 rw[hf]
 try dsimp only
 rw[NH.new_eq]
 unfold br
 rw[NH.new_eq,hk]
 exact he
end
end Nm
namespace Nm
open Go Go.RowKit
section
variable {t:Tm} {m:NH}
theorem C0 {n:Nat} {x:NOpd}:ae (.loadN n x) t m=oN (ρ t x) (zS n m):=by
 show wV t x (fun a=>match a with| .ptr id off=>bj m id fun c=>aI (du c off n) fun l=> .val (.agg l)|_=> .fail)=_
 rw[b0]
 cases ρ t x with
 |none=>rfl
 |some v=>
  cases v with
  |ptr id off=>
   show bj m id (fun c=>aI (du c off n) fun l=> .val (.agg l))=zS n m (.ptr id off)
   unfold bj zS
   dsimp only
   split<;>rename_i hm
   ·rw[hm];dsimp only;rw[eq];split<;>rfl
   ·split<;>rename_i h2
    ·exact Gh h2 (hm _ _)
    ·rfl
  |_=>rfl
def DK (i:Nat) (a:NV):NR:=match a with| .tup l=>oN l[i]? .val|_=> .fail
theorem tg {i:Nat} {x:NOpd}:ae (.extract x i) t m=oN (ρ t x) (DK i):=by
 show wV t x (fun v=>match v with| .tup l=>aI (ij l i) .val|_=> .fail)=_
 rw[b0]
 cases ρ t x with
 |none=>rfl
 |some v=>
  cases v with
  |tup l=>show aI (ij l i) .val=oN l[i]? .val;rw[dG];cases l[i]? <;>rfl
  |_=>rfl
theorem DA {i:Nat} {l:List NV}:DK i (.tup l)=oN l[i]? .val:=_root_.id rfl
def rN (f:NV) (l:List NV):NR:=match f with| .fn f cap=> .call f (l++cap)| .yld r=> .yld r l|_=> .fail
noncomputable def xq (t:Tm):List NOpd->(List NV->NR)->NR
 | [],K=>K []
 |x::l,K=>oN (ρ t x) fun v=>xq t l fun l=>K (v::l)
theorem rQ {l:List NOpd} {K:List NV->NR}:rE t l .fail K=xq t l K:=by
 induction l generalizing K with
 |nil=>rfl
 |cons x l ih=>
  show Option.rec NR.fail (fun v=>rE t l .fail fun l=>K (v::l)) (ρ t x)=oN (ρ t x) fun v=>xq t l fun l=>K (v::l)
  cases ρ t x with
  |none=>rfl
  |some v=>exact ih
theorem AY {K:List NV->NR}:xq t [] K=K []:=_root_.id rfl
theorem D6 {x:NOpd} {l:List NOpd} {K:List NV->NR}:xq t (x::l) K=oN (ρ t x) fun v=>xq t l fun l=>K (v::l):=_root_.id rfl
theorem AP {f:NOpd} {args:List NOpd}:ae (.call f args) t m=oN (ρ t f) fun f=>xq t args (rN f):=by
 show wV t f (fun f=>rE t args .fail fun l=>match f with| .fn f cap=>e7 l cap fun l=> .call f l| .yld r=> .yld r l|_=> .fail)=_
 rw[b0]
 cases ρ t f with
 |none=>rfl
 |some f=>
  show rE t args .fail _=xq t args (rN f)
  rw[rQ]
  congr 1
  funext l
  cases f with
  |fn f cap=>exact c7 l cap (fun l=>NR.call f l)
  |_=>rfl
theorem B3 {f:Nat} {cap l:List NV}:rN (.fn f cap) l= .call f (l++cap):=_root_.id rfl
theorem CH {q:D4} {l:List NV}:rN (.yld q) l= .yld q l:=_root_.id rfl
theorem Ck {f:Nat} {l:List NOpd}:ae (.mkFn f l) t m=xq t l fun l=> .val (.fn f l):=rQ
end
end Nm
namespace Nm
open Go Go.RowKit
section
variable {t:Tm} {m:NH}
noncomputable def ER (n:Nat) (m:NH) (a v:NV):NR:=match a with
 | .ptr id off=>(match cellsOf v with
  |some cs=>if cs.length=n then (match m.get id with
   |some (.cells true c)=>if off+cs.length<=c.length then .mem ax (m.put id (.cells true (c.take off++cs++c.drop (off+cs.length)))) else .fail
   |_=> .fail) else .fail
  |none=> .fail)
 |_=> .fail
theorem xW {n:Nat} {a x:NOpd}:ae (.store n a x) t m=oN (ρ t a) fun a=>oN (ρ t x) fun v=>ER n m a v:=by
 show wV t a (fun a=>wV t x fun v=>match a with
  | .ptr id off=>aI (cellsOf v) fun cs=>bZ cs fun k=>cond (Nat.beq k n) (storeAt m id off cs fun h=> .mem ax h) .fail
  |_=> .fail)=_
 simp only[b0]
 cases ρ t a with
 |none=>rfl
 |some a=>
  show oN (ρ t x) _=oN (ρ t x) _
  cases ρ t x with
  |none=>rfl
  |some v=>
   cases a with
   |ptr id off=>
    show aI (cellsOf v) (fun cs=>bZ cs fun k=>cond (Nat.beq k n) (storeAt m id off cs fun h=> .mem ax h) .fail)=ER n m (.ptr id off) v
    unfold ER
    cases cellsOf v with
    |none=>rfl
    |some cs=>
     show bZ cs (fun k=>cond (Nat.beq k n) (storeAt m id off cs fun h=> .mem ax h) .fail)=if cs.length=n then _ else _
     rw[aX]
     cases hb:Nat.beq cs.length n with
     |false=>rw[Gi (Nat.ne_of_beq_eq_false hb)];rfl
     |true=>
      rw[Gj (Gm hb)]
      show storeAt m id off cs (fun h=> .mem ax h)=_
      unfold storeAt cI
      cases hm:m.get id with
      |none=>rfl
      |some o=>
       cases o with
       |cells w c=>
        cases w with
        |false=>rfl
        |true=>
         show aI (b9 cs off c) (fun c=>m.set id (.cells true c) fun h=> .mem ax h)=if off+cs.length<=c.length then _ else _
         rw[cN]
         split
         ·exact NH.set_eq m id _ (fun h=>NR.mem ax h)
         ·rfl
       |_=>rfl
   |_=>rfl
end
end Nm
namespace Nm
open Go Go.RowKit
section
variable {t:Tm} {m:NH}
noncomputable def Ga (n len:Nat) (m:NH) (o:Option (List NV)):NR:=match o with|some l=> .mem (.slc m.next 0 len n len) (m.add (.cells true l))|none=> .fail
theorem Be {z:List NV} {n len ty:Nat} {ps:List (Nat×Nat×NOpd)}:ae (.buildSlice z n len ty ps) t m=Ga n len m (bv t ps 0 z):=by
 show aI (bv t ps 0 z) (fun l=>m.new (.cells true l) fun id h=> .mem (.slc id 0 len n len) h)=_
 cases bv t ps 0 z with
 |none=>rfl
 |some l=>exact NH.new_eq m (.cells true l) (fun id h=>NR.mem (.slc id 0 len n len) h)
theorem Fs {n len:Nat} {l:List NV}:Ga n len m (some l)= .mem (.slc m.next 0 len n len) (m.add (.cells true l)):=_root_.id rfl
def oO {α β:Type} (o:Option α) (K:α->Option β):Option β:=match o with|some x=>K x|none=>none
theorem E9 {α β:Type} {x:α} {K:α->Option β}:oO (some x) K=K x:=_root_.id rfl
end
end Nm
namespace Nm
open Go Go.RowKit
def wQ (q:Bool) (A B:Dyn->Prop) (d:Dyn):Prop:=(q=true->A d)/\(q=false->B d)
def wC (o:Option NV) (A B:Dyn->Prop) (d:Dyn):Prop:=wB o (A d) (B d)
def wG (o:Option NV) (b:Bool) (A B:Dyn->Prop) (d:Dyn):Prop:=match o with
 |some (.bool q)=>wQ (q==b) A B d
 |some _=>B d
 |none=>False
def sQ (F:Tm->List Dfr->Option NV->NH->Prop) (d:Dyn):Prop:=F d.t d.dfs d.ctx d.h
noncomputable def rl (x:NR) (v:NV):Bool:=match x with| .val u=>bx 4 u v|_=>false
section
variable {P:PE} {S:bA} {r:Option D4} {dst:Option D4} {op:NOp} {pre idx:Nat} {l:List NOper} {hs:List (Nat×NH)} {rs:List (Nat×(NH->NR)×NV)}
 {L:List (D4×NV)} {t:Tm} {dfs:List Dfr} {ctx:Option NV} {m m':NH} {v:NV} {k k' g:D4} {d:Dyn} {Q:Out->Dyn->Prop} {K:Dyn->Prop} {A B:Dyn->Prop} {b q:Bool}
theorem E8:wC (some (.bool q)) A B d=wQ q A B d:=_root_.id rfl
theorem Eu:wQ true A B d=A d:=by simp[wQ]
theorem Du:wQ false A B d=B d:=by simp[wQ]
theorem EY:wG (some (.bool q)) b A B d=wQ (q==b) A B d:=_root_.id rfl
theorem Ew:wG (some ax) b A B d=B d:=_root_.id rfl
theorem zd:wO P S (⟨dst,op,some (g,b),pre,idx⟩::l) ⟨ap L t,dfs,ctx,m⟩ K=wG (cP g L (NT.get g t)) b (sQ fun t dfs ctx m=>wN P S dst t dfs ctx m (ae op t m) fun d=>wO P S l d K) (sQ fun t dfs ctx m=>wO P S l ⟨az dst ax t,dfs,ctx,m⟩ K) ⟨ap L t,dfs,ctx,m⟩:=by
 unfold wG
 rw[←dh]
 show (match ak (ap L t) (some (g,b)) with|some true=>_|some false=>_|none=>False)=_
 have e:ak (ap L t) (some (g,b))=(match NT.get g (ap L t) with|some (.bool q)=>some (q==b)|some _=>some false|none=>none):=by
  show Option.rec (motive:=fun _=>Option Bool) none (fun v=>NV.onBool (some false) (fun c=>some (dp b c)) v) (NT.get g (ap L t))=_
  cases NT.get g (ap L t) with
  |none=>rfl
  |some v=>cases v with
   |bool q=>cases q<;>cases b<;>rfl
   |_=>rfl
 rw[e]
 cases NT.get g (ap L t) with
 |none=>rfl
 |some v=>cases v with
  |bool q=>
   dsimp only
   unfold wQ sQ
   cases (q==b)<;>simp
  |_=>rfl
theorem vE:wD P S (⟨dst,op,some (g,b),pre,idx⟩::l) hs rs ⟨ap L t,dfs,ctx,m⟩ K=wG (cP g L (NT.get g t)) b (sQ fun t dfs ctx m=>wX (aj op) (ae op t m) P S (ae op t) dst pre idx l hs rs ⟨t,dfs,ctx,m⟩ K) (sQ fun t dfs ctx m=>wD P S l hs rs ⟨az dst ax t,dfs,ctx,m⟩ K) ⟨ap L t,dfs,ctx,m⟩:=by
 unfold wG
 rw[←dh]
 have e:ak (ap L t) (some (g,b))=(match NT.get g (ap L t) with|some (.bool q)=>some (q==b)|some _=>some false|none=>none):=by
  show Option.rec (motive:=fun _=>Option Bool) none (fun v=>NV.onBool (some false) (fun c=>some (dp b c)) v) (NT.get g (ap L t))=_
  cases NT.get g (ap L t) with
  |none=>rfl
  |some v=>cases v with
   |bool q=>cases q<;>cases b<;>rfl
   |_=>rfl
 have e2:wD P S (⟨dst,op,some (g,b),pre,idx⟩::l) hs rs ⟨ap L t,dfs,ctx,m⟩ K=(match ak (ap L t) (some (g,b)) with
  |some true=>wX (aj op) (ae op (ap L t) m) P S (ae op (ap L t)) dst pre idx l hs rs ⟨ap L t,dfs,ctx,m⟩ K
  |some false=>wD P S l hs rs ⟨az dst ax (ap L t),dfs,ctx,m⟩ K
  |none=>False):=by
  unfold wX
  simp only[wD]
  all_goals (cases ak (ap L t) (some (g,b)) with
   |none=>rfl
   |some q=>cases q with
    |false=>rfl
    |true=>cases aj op<;>cases ae op (ap L t) m<;>rfl)
 rw[e2,e]
 cases NT.get g (ap L t) with
 |none=>rfl
 |some v=>cases v with
  |bool q=>
   dsimp only
   unfold wQ sQ
   cases (q==b)<;>simp
  |_=>rfl
theorem ze {i:Nat} {f:NH->NR}:bW pre f v ((i,m)::hs)=cond (Nat.testBit pre i) (bW pre f v hs) (rl (f m) v&&bW pre f v hs):=by
 show cond (Nat.testBit pre i) (bW pre f v hs) (match f m with| .val u=>cond (bx 4 u v) (bW pre f v hs) false|_=>false)=_
 congr 1
 cases f m with
 |val u=>show cond (bx 4 u v) _ false=(bx 4 u v&&_);cases bx 4 u v<;>rfl
 |_=>rfl
theorem zE {i:Nat} {f:NH->NR} {u:NV}:aL pre m ((i,f,u)::rs)=cond (Nat.testBit pre i) (aL pre m rs) (rl (f m) u&&aL pre m rs):=by
 show cond (Nat.testBit pre i) (aL pre m rs) (match f m with| .val v=>cond (bx 4 v u) (aL pre m rs) false|_=>false)=_
 congr 1
 cases f m with
 |val u'=>show cond (bx 4 u' u) _ false=(bx 4 u' u&&_);cases bx 4 u' u<;>rfl
 |_=>rfl
theorem Af {i:Nat}:ahead pre ((i,m)::hs)=cond (Nat.testBit pre i) (ahead pre hs) false:=_root_.id rfl
theorem vA {u:NV}:rl (.val u) v=bx 4 u v:=_root_.id rfl
end
theorem eM (d:D4):aO d d=true:=jQ d
theorem wz (l:List Nat):wH l l=true:=by
 induction l with
 |nil=>rfl
 |cons x l ih=>show cond (Nat.beq x x) (wH l l) false=true;rw[Nat.beq_refl];exact ih
theorem qT (l:List ST):mm l l=true:=by
 induction l with
 |nil=>rfl
 |cons x l ih=>
  obtain ⟨m,i,lo,hi⟩:=x
  show cond (Nat.beq m m) (cond (Nat.beq i i) (cond (Nat.beq lo lo) (cond (Nat.beq hi hi) (mm l l) false) false) false) false=true
  simp[ih]
def Aw (v:NV):Prop:=match v with| .agg _| .tup _| .fn _ _| .ifc _ _| .int _ (.ge _)| .int _ (.le _)=>False|_=>True
theorem dc {n:Nat} {v:NV} (h:Aw v):bx (n+1) v v=true:=by
 show si (bx n) v v=true
 have hi:∀z:Int,fZ z z=true:=fun z=>by rw[a8];simp
 cases v with
 |bool b=>cases b<;>rfl
 |int k x=>cases x with
  |lit z=>show cond (e8 k k) (fZ z z) false=true;rw[hi];cases k<;>rfl
  |sym c ts=>show cond (e8 k k) (cond (fZ c c) (mm ts ts) false) false=true;rw[hi,qT];cases k<;>rfl
  |ge z=>exact h.elim
  |le z=>exact h.elim
 |str s=>exact wz s
 |ptr id o=>show cond (aO id id) (Nat.beq o o) false=true;rw[eM];simp
 |slc id o n e k=>show cond (aO id id) (cond (Nat.beq o o) (cond (Nat.beq n n) (cond (Nat.beq e e) (Nat.beq k k) false) false) false) false=true;rw[eM];simp
 |map id=>exact eM id
 |yld id=>exact eM id
 |agg l=>exact h.elim
 |tup l=>exact h.elim
 |fn f c=>exact h.elim
 |ifc t v=>exact h.elim
 |_=>rfl
theorem yp {n:Nat} {k:IntKind} {z:Int}:bx (n+1) (.int k (.lit z)) (.int k (.lit z))=true:=dc trivial
theorem yB {n o:Nat} {i:D4}:bx (n+1) (.ptr i o) (.ptr i o)=true:=dc trivial
end Nm
namespace Nm
open Go Go.RowKit
theorem CA {a b:Int} (h:-9223372036854775808<=a - b) (h':a - b<9223372036854775808):eC .num .sub (.int .i64 (.lit a)) (.int .i64 (.lit b))=some (.int .i64 (.lit (a - b))):=by
 refine (nu rfl).trans ?_
 show bz .i64 (bM .i64 (mM a b))=_
 rw[eH,wrap_small h h']
 exact bS _ _
theorem BU {p:Prop} [Decidable p] (h:p):decide p=true:=by simp[h]
theorem yE {p:Prop} [Decidable p] (h:¬p):decide p=false:=by simp[h]
section
variable {m:NH}
theorem w6 {n off len e kc:Nat} {id:D4} {ik:IntKind} {z:Int} (h0:0<=z) (h1:z<len):vC n (.slc id off len e kc) (.int ik (.lit z))= .val (.ptr id (off+z.toNat*n)):=by
 obtain ⟨i,rfl⟩:=Int.eq_ofNat_of_zero_le h0
 show (if i<len then NR.val (.ptr id (off+i*n)) else .fail)= .val (.ptr id (off+i*n))
 rw[Gj (by omega)]
noncomputable def D2 (off:Nat) (o:Option NO):NR:=match o with|some (.cells _ c)=>oN c[off]? .val|_=> .fail
noncomputable def Da (n off:Nat) (o:Option NO):NR:=match o with|some (.cells _ c)=>if off+n<=c.length then .val (.agg ((c.drop off).take n)) else .fail|_=> .fail
theorem Ek {id:D4} {off:Nat}:zb m (.ptr id off)=D2 off (m.get id):=_root_.id rfl
theorem Dk {id:D4} {n off:Nat}:zS n m (.ptr id off)=Da n off (m.get id):=_root_.id rfl
theorem Bt {off:Nat} {w:Bool} {c:List NV}:D2 off (some (.cells w c))=oN c[off]? .val:=_root_.id rfl
theorem AW {n off:Nat} {w:Bool} {c:List NV} (h:off+n<=c.length):Da n off (some (.cells w c))= .val (.agg ((c.drop off).take n)):=Gj h
noncomputable def EX (n:Nat) (id:D4) (off:Nat) (m:NH) (cs:Option (List NV)) (o:Option NO):NR:=match cs with
 |some cs=>if cs.length=n then (match o with
  |some (.cells true c)=>if off+cs.length<=c.length then .mem ax (m.put id (.cells true (c.take off++cs++c.drop (off+cs.length)))) else .fail
  |_=> .fail) else .fail
 |none=> .fail
theorem FG {n off:Nat} {id:D4} {v:NV}:ER n m (.ptr id off) v=EX n id off m (cellsOf v) (m.get id):=_root_.id rfl
theorem gv {c:List NV} {off:Nat} {x:NV} (h:off<c.length):c.take off++ [x]++c.drop (off+1)=c.set off x:=by
 rw[List.set_eq_take_append_cons_drop,Gj h]
 simp
theorem EG {off:Nat} {id:D4} {x:NV} {c:List NV} (h:off<c.length):EX 1 id off m (some [x]) (some (.cells true c))= .mem ax (m.put id (.cells true (c.set off x))):=by
 show (if [x].length=1 then (if off+ [x].length<=c.length then NR.mem ax (m.put id (.cells true (c.take off++ [x]++c.drop (off+ [x].length)))) else .fail) else .fail)=_
 rw[Gj (show [x].length=1 from rfl),Gj (by show off+1<=_;omega)]
 show NR.mem ax (m.put id (.cells true (c.take off++ [x]++c.drop (off+1))))=_
 rw[gv h]
theorem D7 {n off:Nat} {id:D4} {cs c:List NV} (h:cs.length=n+2) (h':off+(n+2)<=c.length):EX (n+2) id off m (some cs) (some (.cells true c))= .mem ax (m.put id (.cells true (c.take off++cs++c.drop (off+(n+2))))):=by
 rw[←h] at h' ⊢
 show (if cs.length=cs.length then (if off+cs.length<=c.length then NR.mem ax (m.put id (.cells true (c.take off++cs++c.drop (off+cs.length)))) else .fail) else .fail)=_
 rw[Gj rfl,Gj h']
end
section
variable {t:Tm} {m:NH}
def rG (c:NV) (a b:Option NV):NR:=match c with| .bool c=>(if c then oN a .val else oN b .val)|_=> .fail
theorem AH {c a b:NOpd}:ae (.pick c a b) t m=oN (ρ t c) fun c=>rG c (ρ t a) (ρ t b):=by
 show wV t c (fun c=>match c with| .bool c=>Bool.rec (wV t b .val) (wV t a .val) c|_=> .fail)=_
 rw[b0]
 cases ρ t c with
 |none=>rfl
 |some v=>
  cases v with
  |bool q=>show Bool.rec (wV t b .val) (wV t a .val) q=if q then oN (ρ t a) .val else oN (ρ t b) .val;rw[b0,b0];cases q<;>rfl
  |_=>rfl
theorem zA {a b:Option NV}:rG (.bool true) a b=oN a .val:=_root_.id rfl
theorem za {a b:Option NV}:rG (.bool false) a b=oN b .val:=_root_.id rfl
theorem z6 {q p r:Bool}:rG (.bool q) (some (.bool p)) (some (.bool r))= .val (.bool (if q then p else r)):=by cases q<;>rfl
noncomputable def rO (n bytes:Nat) (m:NH) (s x:NV):NR:=eS n m x fun k new=>c8 n bytes m s k new
theorem vI {n bytes ty:Nat} {s x:NOpd}:ae (.append n bytes ty s x) t m=oN (ρ t s) fun s=>oN (ρ t x) fun x=>rO n bytes m s x:=by
 show wV t s (fun s=>wV t x fun x=>eS n m x fun k new=>c8 n bytes m s k new)=_
 rw[b0];congr 1;funext s;rw[b0];rfl
noncomputable def F7 (o:Option (List NV)):NR:=match o with|some l=> .val (.agg l)|none=> .fail
theorem yu {z:List NV} {ps:List (Nat×Nat×NOpd)}:ae (.build z ps) t m=F7 (bD t ps z):=by
 show aI (bD t ps z) (fun l=> .val (.agg l))=_
 cases bD t ps z<;>rfl
theorem FC {l:List NV}:F7 (some l)= .val (.agg l):=_root_.id rfl
theorem Es {l:List NV}:bD t [] l=some l:=_root_.id rfl
noncomputable def C4 (t:Tm) (ps:List (Nat×Nat×NOpd)) (off k:Nat) (l:List NV) (o:Option (List NV)):Option (List NV):=match o with
 |some cs=>if cs.length=k then (match b9 cs off l with|some l=>bD t ps l|none=>none) else none
 |none=>none
theorem Fg {ps:List (Nat×Nat×NOpd)} {off k:Nat} {x:NOpd} {l:List NV}:bD t ((off,k,x)::ps) l=oO (ρ t x) fun v=>C4 t ps off k l (cellsOf v):=by
 show Option.rec (motive:=fun _=>Option (List NV)) none (fun v:NV=>Option.rec (motive:=fun _=>Option (List NV)) none (fun cs=>bZ cs fun j=>cond (Nat.beq j k) (Option.rec (motive:=fun _=>Option (List NV)) none (bD t ps) (b9 cs off l)) none) (cellsOf v)) (ρ t x)=_
 cases ρ t x with
 |none=>rfl
 |some v=>
  show Option.rec (motive:=fun _=>Option (List NV)) none (fun cs=>bZ cs fun j=>cond (Nat.beq j k) (Option.rec (motive:=fun _=>Option (List NV)) none (bD t ps) (b9 cs off l)) none) (cellsOf v)=C4 t ps off k l (cellsOf v)
  cases cellsOf v with
  |none=>rfl
  |some cs=>
   show bZ cs (fun j=>cond (Nat.beq j k) (Option.rec (motive:=fun _=>Option (List NV)) none (bD t ps) (b9 cs off l)) none)=if cs.length=k then _ else _
   rw[aX]
   cases hb:Nat.beq cs.length k with
   |false=>rw[Gi (Nat.ne_of_beq_eq_false hb)];rfl
   |true=>rw[Gj (Gm hb)];cases b9 cs off l<;>rfl
theorem CB {ps:List (Nat×Nat×NOpd)} {off:Nat} {x:NV} {l:List NV} (h:off<l.length):C4 t ps off 1 l (some [x])=bD t ps (l.set off x):=by
 show (if [x].length=1 then (match b9 [x] off l with|some l=>bD t ps l|none=>none) else none)=_
 rw[Gj (show [x].length=1 from rfl),cN,Gj (by show off+1<=_;omega)]
 show bD t ps (l.take off++ [x]++l.drop (off+1))=_
 rw[gv h]
theorem AC {ps:List (Nat×Nat×NOpd)} {off k:Nat} {cs l:List NV} (h:cs.length=k) (h':off+k<=l.length):C4 t ps off k l (some cs)=bD t ps (l.take off++cs++l.drop (off+k)):=by
 subst h
 show (if cs.length=cs.length then (match b9 cs off l with|some l=>bD t ps l|none=>none) else none)=_
 rw[Gj rfl,cN,Gj h']
theorem Ej {ps:List (Nat×Nat×NOpd)} {off k:Nat} {cs l:List NV} (h:cs.length=k+2) (h':off+(k+2)<=l.length):C4 t ps off (k+2) l (some cs)=bD t ps (l.take off++cs++l.drop (off+(k+2))):=AC h h'
end
end Nm
namespace Nm
open Go Go.RowKit
section
variable {t:Tm} {m:NH}
end
end Nm
namespace Nm
open Go Go.RowKit
def ids:NV->List D4
 | .slc id _ _ _ _=> [id]
 |_=> []
def Sl (m:NH) (v:NV) (e:Nat) (C:List (List NV)):Prop:=(∀x∈C,x.length=e)/\((v= .nils/\C= [])∨
 ∃id off kc w c,v= .slc id off C.length e kc/\m.get id=some (.cells w c)/\aM m id/\off+C.length*e<=c.length/\(c.drop off).take (C.length*e)=C.flatten)
def cC (B m:NH) (v:NV) (e:Nat) (C:List (List NV)):Prop:=(∀x∈C,x.length=e)/\((v= .nils/\C= [])∨
 ∃id off kc c,v= .slc id off C.length e kc/\¬aM B id/\m.get id=some (.cells true c)/\aM m id/\off+C.length*e<=c.length/\off+kc*e<=c.length/\(c.drop off).take (C.length*e)=C.flatten)
theorem fS {e:Nat} {C:List (List NV)} (h:∀x∈C,x.length=e):C.flatten.length=C.length*e:=by
 induction C with
 |nil=>simp
 |cons a C ih=>
  rw[List.flatten_cons,List.length_append,h a (List.mem_cons_self ..),ih fun x hx=>h x (List.mem_cons_of_mem _ hx),List.length_cons,Nat.succ_mul]
  omega
theorem s8 {e:Nat}:∀{C:List (List NV)} (_:∀x∈C,x.length=e) (i:Nat) (hi:i<C.length),(C.flatten.drop (i*e)).take e=C[i]:=by
 intro C
 induction C with
 |nil=>intro _ i hi;simp at hi
 |cons a C ih=>
  intro h i hi
  have ha:=h a (List.mem_cons_self ..)
  cases i with
  |zero=>
   rw[Nat.zero_mul,List.drop_zero,List.flatten_cons,List.take_append,ha,Nat.sub_self,List.take_zero,List.append_nil,←ha]
   simp
  |succ i=>
   rw[List.flatten_cons,List.drop_append,Nat.succ_mul,List.drop_eq_nil_of_le (by omega),List.nil_append,ha,Nat.add_sub_cancel]
   exact ih (fun x hx=>h x (List.mem_cons_of_mem _ hx)) i (by simpa using hi)
theorem cC.sl {B m:NH} {v:NV} {e:Nat} {C:List (List NV)} (h:cC B m v e C):Sl m v e C:=by
 obtain ⟨h0,h|⟨id,off,kc,c,h1,_,h2,h3,h4,_,h5⟩⟩:=h
 ·exact ⟨h0,Or.inl h⟩
 ·exact ⟨h0,Or.inr ⟨id,off,kc,true,c,h1,h2,h3,h4,h5⟩⟩
section
variable {m:NH} {v:NV} {e:Nat} {C:List (List NV)}
theorem Sl.len (h:Sl m v e C):Ef v= .val (.int .i64 (.lit (C.length:Int))):=by
 obtain ⟨_,⟨rfl,rfl⟩|⟨id,off,kc,w,c,rfl,_⟩⟩:=h<;>rfl
theorem Sl.one (h:Sl m v e C):cellsOf v=some [v]:=by
 obtain ⟨_,⟨rfl,rfl⟩|⟨id,off,kc,w,c,rfl,_⟩⟩:=h<;>rfl
theorem r9 {c:List NV} {off n e:Nat} (h:∀x∈C,x.length=e) (hn:C.length=n) (hc:off+n*e<=c.length) (hf:(c.drop off).take (n*e)=C.flatten) (i:Nat) (hi:i<C.length):
 off+i*e+e<=c.length/\(c.drop (off+i*e)).take e=C[i]:=by
 subst hn
 have h1:i*e+e<=C.length*e:=by rw[←Nat.succ_mul];exact Nat.mul_le_mul_right e hi
 refine ⟨by omega, ?_⟩
 rw[←s8 h i hi,←hf,List.drop_take,List.take_take,List.drop_drop,Nat.min_eq_left (by omega)]
theorem Sl.at (h:Sl m v e C) (i:Nat) (hi:i<C.length):∃id off w c,vC e v (.int .i64 (.lit (i:Int)))= .val (.ptr id off)/\m.get id=some (.cells w c)/\aM m id/\off+e<=c.length/\(c.drop off).take e=C[i]:=by
 obtain ⟨h0,⟨rfl,rfl⟩|⟨id,off,kc,w,c,rfl,h1,h2,h3,h4⟩⟩:=h
 ·simp at hi
 ·obtain ⟨h5,h6⟩:=r9 h0 rfl h3 h4 i hi
  exact ⟨id,off+i*e,w,c,w6 (by omega) (by omega),h1,h2,h5,h6⟩
theorem Sl.chg {T:List D4} {m':NH} (h:Sl m v e C) (hc:Chg T m m') (ht:∀id∈ids v,id∉T):Sl m' v e C:=by
 obtain ⟨h0,⟨rfl,rfl⟩|⟨id,off,kc,w,c,rfl,h1,h2,h3,h4⟩⟩:=h
 ·exact ⟨h0,Or.inl ⟨rfl,rfl⟩⟩
 ·exact ⟨h0,Or.inr ⟨id,off,kc,w,c,rfl,(hc.get h2 (ht id (List.mem_cons_self ..))).trans h1,hc.old h2,h3,h4⟩⟩
theorem Sl.grew {m':NH} (h:Sl m v e C) (hc:Chg [] m m'):Sl m' v e C:=h.chg hc fun _ _=>List.not_mem_nil
theorem Sl.old (h:Sl m v e C):∀id∈ids v,aM m id:=by
 obtain ⟨h0,⟨rfl,rfl⟩|⟨id,off,kc,w,c,rfl,h1,h2,h3,h4⟩⟩:=h
 ·intro id hid;simp[ids] at hid
 ·intro i hi;simp[ids] at hi;rw[hi];exact h2
theorem cC.chg {B m:NH} {T:List D4} {m':NH} (h:cC B m v e C) (hc:Chg T m m') (ht:∀id∈ids v,id∉T):cC B m' v e C:=by
 obtain ⟨h0,⟨rfl,rfl⟩|⟨id,off,kc,c,rfl,hb,h1,h2,h3,h4⟩⟩:=h
 ·exact ⟨h0,Or.inl ⟨rfl,rfl⟩⟩
 ·exact ⟨h0,Or.inr ⟨id,off,kc,c,rfl,hb,(hc.get h2 (ht id (List.mem_cons_self ..))).trans h1,hc.old h2,h3,h4⟩⟩
theorem cC.new {B m:NH} (h:cC B m v e C):∀id∈ids v,¬aM B id:=by
 obtain ⟨h0,⟨rfl,rfl⟩|⟨id,off,kc,c,rfl,hb,h1,h2,h3,h4⟩⟩:=h
 ·intro id hid;simp[ids] at hid
 ·intro i hi;simp[ids] at hi;rw[hi];exact hb
theorem cC.nil {B m:NH}:cC B m .nils e []:=⟨fun x hx=>by simp at hx,Or.inl ⟨rfl,rfl⟩⟩
theorem Sl.nil:Sl m .nils e []:=⟨fun x hx=>by simp at hx,Or.inl ⟨rfl,rfl⟩⟩
theorem cC.of {B m:NH} {id:D4} {n k:Nat} {c:List NV} (h:∀x∈C,x.length=e) (hb:¬aM B id) (hg:m.get id=some (.cells true c)) (ho:aM m id) (hc:c=C.flatten) (hn:n=C.length) (hk:k=C.length):cC B m (.slc id 0 n e k) e C:=by
 subst hn hk hc
 have hl:=fS h
 exact ⟨h,Or.inr ⟨id,0,_,_,rfl,hb,hg,ho,by omega,by omega,by rw[List.drop_zero,←hl,List.take_length]⟩⟩
theorem cC.back {B B' m:NH} (h:cC B m v e C) (hb:∀id,aM B' id->aM B id):cC B' m v e C:=by
 obtain ⟨h0,⟨rfl,rfl⟩|⟨id,off,kc,c,rfl,hb',h1,h2,h3,h4⟩⟩:=h
 ·exact ⟨h0,Or.inl ⟨rfl,rfl⟩⟩
 ·exact ⟨h0,Or.inr ⟨id,off,kc,c,rfl,fun q=>hb' (hb _ q),h1,h2,h3,h4⟩⟩
theorem mj {n:Nat} {x:NV} {D:List (List NV)} (h:Sl m x n D) {K:Nat->List NV->NR}:eS n m x K=K D.length D.flatten:=by
 obtain ⟨h0,⟨rfl,rfl⟩|⟨id,off,kc,w,c,rfl,h1,h2,h3,h4⟩⟩:=h
 ·rfl
 ·show cond (Nat.beq n n) (bj m id fun c=>aI (du c off (Nat.mul D.length n)) fun l=>K D.length l) .fail=_
  rw[Nat.beq_refl]
  show bj m id (fun c=>aI (du c off (Nat.mul D.length n)) fun l=>K D.length l)=_
  unfold bj
  rw[h1]
  show aI (du c off (D.length*n)) (fun l=>K D.length l)=_
  rw[eq,Gj h3,h4];rfl
theorem Chg.put (m:NH) (id:D4) (o:NO):Chg [id] m (m.put id o):=
 ⟨Nat.le_refl _,fun {i} _ hn=>NH.get_put_ne m o (by simpa using hn)⟩
theorem aM.next_ne {m:NH} {i:D4} (h:aM m i):i≠m.next:=by
 intro e;rw[e] at h;exact Nat.lt_irrefl _ h
theorem Chg.add (m:NH) (o:NO):Chg [] m (m.add o):=
 ⟨by show m.next.toNat<=m.next.nxt.toNat;rw[D4.toNat_nxt];omega,fun {i} ho _=>NH.get_add_ne m o ho.next_ne⟩
theorem fe (m:NH) (o:NO):aM (m.add o) m.next:=by
 show m.next.toNat<m.next.nxt.toNat;rw[D4.toNat_nxt];omega
theorem sy {n bytes:Nat} (h:n*bytes<=1099511627776) (h':n<=1099511627776):room n bytes=true:=by
 unfold room
 rw[show Nat.ble (Nat.mul n bytes) 1099511627776=true from Nat.ble_eq_true_of_le h,show Nat.ble n 1099511627776=true from Nat.ble_eq_true_of_le h']
 rfl
theorem cC.app {B:NH} {x:NV} {D:List (List NV)} {bytes:Nat} (hv:cC B m v e C) (hx:Sl m x e D) (hD:D≠ []) (hB:∀id,aM B id->aM m id) (hr:(C.length+D.length)*bytes<=1099511627776) (hr':C.length+D.length<=1099511627776):
 ∃v' m',rO e bytes m v x= .mem v' m'/\cC B m' v' e (C++D)/\Chg (ids v) m m':=by
 unfold rO
 rw[mj hx]
 have hDl:∀y∈D,y.length=e:=hx.1
 have hDp:0<D.length:=List.length_pos_iff.mpr hD
 obtain ⟨k,hk⟩:∃k,D.length=k+1:=⟨D.length - 1,by omega⟩
 have hall:∀y∈C++D,y.length=e:=fun y hy=>(List.mem_append.mp hy).elim (hv.1 y) (hDl y)
 have hnext:¬aM B m.next:=fun q=>Nat.lt_irrefl _ (hB _ q)
 obtain ⟨h0,⟨rfl,rfl⟩|⟨id,off,kc,c,rfl,hb,h1,h2,h3,h3',h4⟩⟩:=hv
 ·refine ⟨.slc m.next 0 D.length e D.length,m.add (.cells true D.flatten), ?_, ?_,Chg.add m _⟩
  ·show Nat.rec (motive:=fun _=>NR) (.val .nils) (fun _ _=>cond (room D.length bytes) (m.new (.cells true D.flatten) fun id h=> .mem (.slc id 0 D.length e D.length) h) .fail) D.length=_
   rw[sy (by simpa using hr) (by simpa using hr'),NH.new_eq,hk];rfl
  ·exact cC.of hall hnext (NH.get_add_same m _) (fe m _) (by simp) (by simp) (by simp)
 ·have e1:c8 e bytes m (.slc id off C.length e kc) D.length D.flatten=(cond (Nat.ble (C.length+D.length) kc)
   (aI (b9 D.flatten (off+C.length*e) c) fun c=>m.set id (.cells true c) fun h=> .mem (.slc id off (C.length+D.length) e kc) h)
   (aI (cw off c) fun c=>aI (fF (C.length*e) c) fun old=>cond (room (C.length+D.length) bytes)
    (e7 old D.flatten fun l=>m.set id .dead fun h=>h.new (.cells true l) fun id h=> .mem (.slc id 0 (C.length+D.length) e (C.length+D.length)) h) .fail)):=by
   show cond (Nat.beq e e) (Nat.rec (motive:=fun _=>NR) (.val (.slc id off C.length e kc)) (fun _ _=>cI m id fun c=>ag (Nat.add C.length D.length) fun n=>cond (Nat.ble n kc)
    (aI (b9 D.flatten (Nat.add off (Nat.mul C.length e)) c) fun c=>m.set id (.cells true c) fun h=> .mem (.slc id off n e kc) h)
    (aI (cw off c) fun c=>aI (fF (Nat.mul C.length e) c) fun old=>cond (room n bytes)
     (e7 old D.flatten fun l=>m.set id .dead fun h=>h.new (.cells true l) fun id h=> .mem (.slc id 0 n e n) h) .fail)) D.length) .fail=_
   rw[Nat.beq_refl,hk]
   show cI m id _=_
   unfold cI
   rw[h1]
   show ag (C.length+(k+1)) _=_
   rw[aa]
   rfl
  rw[e1]
  have fl:=fS hDl
  have fc:=fS h0
  cases hle:Nat.ble (C.length+D.length) kc with
  |true=>
   have hle:=Nat.le_of_ble_eq_true hle
   have hm:C.length*e+D.length*e<=kc*e:=by rw[←Nat.add_mul];exact Nat.mul_le_mul_right e hle
   refine ⟨.slc id off (C.length+D.length) e kc,m.put id (.cells true (c.take (off+C.length*e)++D.flatten++c.drop (off+C.length*e+D.flatten.length))), ?_, ?_,Chg.put m id _⟩
   ·show aI (b9 D.flatten (off+C.length*e) c) _=_
    rw[cN,Gj (by omega)]
    show m.set id _ _=_
    rw[NH.set_eq]
   ·refine ⟨hall,Or.inr ⟨id,off,kc,_,by rw[List.length_append],hb,NH.get_put_same m id _,h2, ?_, ?_, ?_⟩⟩
    ·simp only[List.length_append,List.length_take,List.length_drop,Nat.add_mul];omega
    ·simp only[List.length_append,List.length_take,List.length_drop];omega
    ·have e3:c.take (off+C.length*e)=c.take off++C.flatten:=by rw[List.take_add,h4]
     have e4:(c.take off).length=off:=by rw[List.length_take];omega
     have e5:(c.take off++C.flatten++D.flatten++c.drop (off+C.length*e+D.flatten.length)).drop off=C.flatten++D.flatten++c.drop (off+C.length*e+D.flatten.length):=by
      rw[List.append_assoc,List.append_assoc]
      have:=List.drop_left (l₁:=c.take off) (l₂:=C.flatten++(D.flatten++c.drop (off+C.length*e+D.flatten.length)))
      rw[e4] at this
      rw[this,List.append_assoc]
     rw[e3,e5,List.flatten_append,List.length_append,Nat.add_mul]
     rw[show C.length*e+D.length*e=(C.flatten++D.flatten).length by rw[List.length_append,fl,fc]]
     exact List.take_left
  |false=>
   refine ⟨.slc m.next 0 (C.length+D.length) e (C.length+D.length),(m.put id .dead).add (.cells true (C.flatten++D.flatten)), ?_, ?_, ?_⟩
   ·show aI (cw off c) _=_
    rw[dW,Gj (by omega)]
    show aI (fF (C.length*e) (c.drop off)) _=_
    rw[fG,Gj (by rw[List.length_drop];omega),h4]
    show cond (room (C.length+D.length) bytes) _ _=_
    rw[sy hr hr']
    show e7 C.flatten D.flatten _=_
    rw[c7,NH.set_eq,NH.new_eq];rfl
   ·exact cC.of hall hnext (NH.get_add_same (m.put id .dead) _) (fe (m.put id .dead) _) (by simp) (by simp) (by simp)
   ·exact (Chg.put m id .dead).trans (Chg.add _ _) fun i hi _=>by simp at hi
theorem Sl.appNil {x:NV} {bytes:Nat} (hv:Sl m v e C) (hx:Sl m x e []):rO e bytes m v x= .val v:=by
 unfold rO
 rw[mj hx]
 obtain ⟨h0,⟨rfl,rfl⟩|⟨id,off,kc,w,c,rfl,h1,h2,h3,h4⟩⟩:=hv
 ·rfl
 ·show cond (Nat.beq e e) _ _=_
  rw[Nat.beq_refl];rfl
def lm (off:Nat):List (Nat×NV)->List NV->List NV
 | [],c=>c
 |(k,x)::us,c=>lm off us (c.set (off+k) x)
theorem jY {off:Nat}:∀(us:List (Nat×NV)) (c:List NV),(lm off us c).length=c.length:=by
 intro us
 induction us with
 |nil=>intro c;rfl
 |cons u us ih=>intro c;obtain ⟨k,x⟩:=u;show (lm off us (c.set (off+k) x)).length=_;rw[ih,List.length_set]
theorem cC.at {B:NH} (h:cC B m v e C) (i:Nat) (hi:i<C.length):∃id off c,vC e v (.int .i64 (.lit (i:Int)))= .val (.ptr id off)/\ids v= [id]/\¬aM B id/\m.get id=some (.cells true c)/\aM m id/\off+e<=c.length/\(c.drop off).take e=C[i]/\
 ∀(us:List (Nat×NV)) (M:NH),(∀u∈us,u.1<e)->M.get id=some (.cells true (lm off us c))->aM M id->cC B M v e (C.set i (lm 0 us C[i])):=by
 obtain ⟨h0,⟨rfl,rfl⟩|⟨id,off,kc,c,rfl,hb,h1,h2,h3,h3',h4⟩⟩:=h
 ·simp at hi
 ·obtain ⟨h5,h6⟩:=r9 h0 rfl h3 h4 i hi
  refine ⟨id,off+i*e,c,w6 (by omega) (by omega),rfl,hb,h1,h2,h5,h6,fun us M hk hM hMo=> ?_⟩
  have hlen:∀y∈C.set i (lm 0 us C[i]),y.length=e:=by
   intro y hy
   rcases List.mem_or_eq_of_mem_set hy with hy|hy
   ·exact h0 y hy
   ·rw[hy,jY];exact h0 _ (List.getElem_mem hi)
  refine ⟨hlen,Or.inr ⟨id,off,kc,_,by rw[List.length_set],hb,hM,hMo,by rw[jY,List.length_set];exact h3,by rw[jY];exact h3', ?_⟩⟩
  rw[List.length_set]
  have hone:∀(k:Nat) (x:NV) (_:k<e) (C:List (List NV)) (_:∀x∈C,x.length=e) (i:Nat) (hi:i<C.length),(C.set i (C[i].set k x)).flatten=C.flatten.set (i*e+k) x:=by
   intro k x hk C
   induction C with
   |nil=>intro _ i hi;simp at hi
   |cons a C ih=>
    intro h i hi
    have ha:=h a (List.mem_cons_self ..)
    cases i with
    |zero=>simp only[List.set_cons_zero,List.flatten_cons,List.getElem_cons_zero,Nat.zero_mul,Nat.zero_add];rw[List.set_append_left _ _ (by omega)]
    |succ i=>
     simp only[List.set_cons_succ,List.flatten_cons,List.getElem_cons_succ]
     rw[ih (fun x hx=>h x (List.mem_cons_of_mem _ hx)) i (by simpa using hi),List.set_append_right _ _ (by rw[ha,Nat.succ_mul];omega),ha,Nat.succ_mul]
     congr 2;omega
  have hall:∀(us:List (Nat×NV)) (_:∀u∈us,u.1<e) (c:List NV) (C:List (List NV)) (_:∀x∈C,x.length=e) (hi:i<C.length),(c.drop off).take (C.length*e)=C.flatten->
   ((lm (off+i*e) us c).drop off).take (C.length*e)=(C.set i (lm 0 us C[i])).flatten:=by
   intro us
   induction us with
   |nil=>intro _ c C _ hi hf;simp[lm];exact hf
   |cons u us ih=>
    obtain ⟨k,x⟩:=u
    intro hk c C hC hi hf
    have hk0:k<e:=hk (k,x) (List.mem_cons_self ..)
    have:=ih (fun u hu=>hk u (List.mem_cons_of_mem _ hu)) (c.set (off+i*e+k) x) (C.set i (C[i].set k x))
     (fun y hy=>by
      rcases List.mem_or_eq_of_mem_set hy with hy|hy
      ·exact hC y hy
      ·rw[hy,List.length_set];exact hC _ (List.getElem_mem hi))
     (by rw[List.length_set];exact hi)
     (by rw[List.length_set,hone k x hk0 C hC i hi,←hf,List.drop_set,Gi (by omega),List.take_set];congr 1;omega)
    rw[List.getElem_set_self,List.set_set] at this
    simp only[List.length_set] at this
    show ((lm (off+i*e) us (c.set (off+i*e+k) x)).drop off).take (C.length*e)=(C.set i (lm 0 us (C[i].set (0+k) x))).flatten
    rw[Nat.zero_add];exact this
  exact hall us hk c C h0 hi h4
theorem Sl.flat (h:Sl m v e C):Aw v:=by
 obtain ⟨_,⟨rfl,rfl⟩|⟨id,off,kc,w,c,rfl,_⟩⟩:=h<;>trivial
theorem Sl.same (h:Sl m v e C) {n:Nat}:bx (n+1) v v=true:=dc h.flat
theorem jN {c cs:List NV} {off e:Nat} (h:(c.drop off).take e=cs) (k:Nat) (hk:k<e):c[off+k]? =cs[k]? :=by
 rw[←h,List.getElem?_take_of_lt hk,List.getElem?_drop]
end
end Nm
namespace Nm
open Go Go.RowKit
section
variable {L:List (D4×NV)} {t:Tm} {ctx:Option NV} {m:NH} {K:NV->NH->Prop}
theorem CP {o:Out} (ho:o= .norm∨o= .ret):mI [] K o ⟨t, [],ctx,m⟩=K (.tup []) m:=by
 apply propext
 constructor
 ·rintro ⟨_,_,v,h1,h2⟩
  change CR.val (.tup []) ctx m= .val v ctx m at h1
  injection h1 with h1
  rw[←h1] at h2;exact h2
 ·exact fun h=>⟨ho,rfl,.tup [],rfl,h⟩
theorem AG:mI [] K .ret ⟨t, [],ctx,m⟩=K (.tup []) m:=CP (.inr rfl)
theorem BP {q:Bool}:(q==true)=q:=by cases q<;>rfl
theorem BS {q:Bool}:(q==false)= !q:=by cases q<;>rfl
theorem eV {l:List (AK×NO)} {k:Nat} {m:NH} {S:List D4} (h:tQ l=S):Chg S m (hp l k m):=h▸wI l k m
def xX (f:List NV->List NV) (o:Option (List NV)):Option (List NV):=match o with|some l=>some (f l)|none=>none
theorem A8 {f:List NV->List NV} {l:List NV}:xX f (some l)=some (f l):=_root_.id rfl
noncomputable def F0 (t:Tm) (ps:List (Nat×Nat×NOpd)) (off k cur:Nat) (l:List NV) (o:Option (List NV)):Option (List NV):=match o with
 |some cs=>if cs.length=k/\cur<=off/\off - cur+k<=l.length then xX (fun r=>l.take (off - cur)++(cs++r)) (bv t ps (off+k) (l.drop (off - cur+k))) else none
 |none=>none
theorem CO {t:Tm} {cur:Nat} {l:List NV}:bv t [] cur l=some l:=_root_.id rfl
theorem vb {α:Type} (K:List α->Option (List α)):∀(k:Nat) (l:List α),dy k K l=if k<=l.length then (match K (l.drop k) with|some r=>some (l.take k++r)|none=>none) else none:=by
 intro k
 induction k with
 |zero=>intro l;show K l=_;simp;cases K l<;>rfl
 |succ k ih=>
  intro l
  cases l with
  |nil=>simp;rfl
  |cons a l=>
   show Option.rec (motive:=fun _=>Option (List α)) none (fun t'=>some (a::t')) (dy k K l)=_
   rw[ih]
   by_cases h:k<=l.length
   ·rw[Gj h,Gj (by simpa using h),List.drop_succ_cons]
    cases K (l.drop k)<;>rfl
   ·rw[Gi h,Gi (by simpa using h)]
theorem Fc {t:Tm} {ps:List (Nat×Nat×NOpd)} {off k cur:Nat} {x:NOpd} {l:List NV}:bv t ((off,k,x)::ps) cur l=oO (ρ t x) fun v=>F0 t ps off k cur l (cellsOf v):=by
 show Option.rec (motive:=fun _=>Option (List NV)) none (fun v:NV=>Option.rec (motive:=fun _=>Option (List NV)) none (fun cs=>bZ cs fun j=>cond (Nat.beq j k) (cond (Nat.ble cur off)
  (dy (Nat.sub off cur) (fun l=>Option.rec (motive:=fun _=>Option (List NV)) none (fun l=>Option.rec (motive:=fun _=>Option (List NV)) none (fun l=>e7 cs l some) (bv t ps (Nat.add off j) l)) (cw j l)) l) none) none) (cellsOf v)) (ρ t x)=_
 cases ρ t x with
 |none=>rfl
 |some v=>
  show Option.rec (motive:=fun _=>Option (List NV)) none (fun cs=>bZ cs fun j=>cond (Nat.beq j k) (cond (Nat.ble cur off)
   (dy (Nat.sub off cur) (fun l=>Option.rec (motive:=fun _=>Option (List NV)) none (fun l=>Option.rec (motive:=fun _=>Option (List NV)) none (fun l=>e7 cs l some) (bv t ps (Nat.add off j) l)) (cw j l)) l) none) none) (cellsOf v)=F0 t ps off k cur l (cellsOf v)
  cases cellsOf v with
  |none=>rfl
  |some cs=>
   show bZ cs (fun j=>cond (Nat.beq j k) (cond (Nat.ble cur off)
    (dy (Nat.sub off cur) (fun l=>Option.rec (motive:=fun _=>Option (List NV)) none (fun l=>Option.rec (motive:=fun _=>Option (List NV)) none (fun l=>e7 cs l some) (bv t ps (Nat.add off j) l)) (cw j l)) l) none) none)=if cs.length=k/\cur<=off/\off - cur+k<=l.length then _ else _
   rw[aX]
   cases hb:Nat.beq cs.length k with
   |false=>rw[Gi (fun h=>Nat.ne_of_beq_eq_false hb h.1)];rfl
   |true=>
    have hk:=Gm hb
    subst hk
    cases hle:Nat.ble cur off with
    |false=>rw[Gi (fun h=>by rw[Nat.ble_eq_true_of_le h.2.1] at hle;cases hle)];rfl
    |true=>
     have hle:=Nat.le_of_ble_eq_true hle
     show dy (off - cur) (fun l=>Option.rec (motive:=fun _=>Option (List NV)) none (fun l=>Option.rec (motive:=fun _=>Option (List NV)) none (fun l=>e7 cs l some) (bv t ps (off+cs.length) l)) (cw cs.length l)) l=_
     rw[vb]
     by_cases h1:off - cur<=l.length
     ·rw[Gj h1,dW,List.length_drop]
      by_cases h2:cs.length<=l.length - (off - cur)
      ·rw[Gj h2,Gj ⟨rfl,hle,by omega⟩,List.drop_drop]
       dsimp only
       cases bv t ps (off+cs.length) (l.drop (off - cur+cs.length)) with
       |none=>rfl
       |some r=>dsimp only[xX];rw[c7]
      ·rw[Gi h2,Gi (fun h=>h2 (by omega))]
     ·rw[Gi h1,Gi (fun h=>h1 (by omega))]
theorem Db {t:Tm} {ps:List (Nat×Nat×NOpd)} {off k cur:Nat} {cs l:List NV} (h1:cs.length=k) (h2:cur<=off) (h3:off - cur+k<=l.length):
 F0 t ps off k cur l (some cs)=xX (fun r=>l.take (off - cur)++(cs++r)) (bv t ps (off+k) (l.drop (off - cur+k))):=Gj ⟨h1,h2,h3⟩
theorem dV.wf' {P:Program} {E:NV->NH->Prop} {S:bA} {f:Nat} {args:List NV} {m m':NH} {v:NV} (h:dV P S f args m v m') {K:NV->NH->Prop}:WF ⟨P,E⟩ S f args m K=K v m':=by
 rw[h.wf,aQ]
theorem nF (m:NH) (o:NO):hp [(.n 0,o)] 1 m=m.add o:=by
 have:=wT (m:=m) (l:= []) (k:=0) (o:=o)
 rw[aQ] at this
 exact this.symm
theorem cC.app1 {B m:NH} {v:NV} {e:Nat} {C:List (List NV)} {x:D4} {w:Bool} {cs:List NV} {kc bytes:Nat} (hv:cC B m v e C) (hx:m.get x=some (.cells w cs)) (hox:aM m x) (hl:cs.length=e) (hB:∀id,aM B id->aM m id)
 (hr:(C.length+1)*bytes<=1099511627776) (hr':C.length+1<=1099511627776):∃v' m',rO e bytes m v (.slc x 0 1 e kc)= .mem v' m'/\cC B m' v' e (C++ [cs])/\Chg (ids v) m m':=
 hv.app (D:= [cs]) ⟨fun y hy=>by simp at hy;rw[hy];exact hl,Or.inr ⟨x,0,kc,w,cs,rfl,hx,hox,by subst hl;simp,by subst hl;simp⟩⟩ (by simp) hB hr hr'
theorem yG {P:PE} {S:bA} {dst:D4} {L:List (D4×NV)} {t:Tm} {dfs:List Dfr} {ctx:Option NV} {K:Dyn->Prop} {B m:NH} {v:NV} {e:Nat} {C:List (List NV)} {x:D4} {w:Bool} {cs:List NV} {kc bytes:Nat} (hv:cC B m v e C) (hx:m.get x=some (.cells w cs)) (hox:aM m x) (hl:cs.length=e) (hB:∀id,aM B id->aM m id)
 (hr:(C.length+1)*bytes<=1099511627776) (hr':C.length+1<=1099511627776) (h:∀v' m',cC B m' v' e (C++ [cs])->Chg (ids v) m m'->K ⟨ap ((dst,v')::L) t,dfs,ctx,hp [] 0 m'⟩):
 wN P S (some dst) (ap L t) dfs ctx m (rO e bytes m v (.slc x 0 1 e kc)) K:=by
 obtain ⟨v',m',h1,h2,h3⟩:=hv.app1 (bytes:=bytes) (kc:=kc) hx hox hl hB hr hr'
 have:=h v' m' h2 h3
 rw[aQ] at this
 rw[h1];exact this
theorem Ci {b:Bool}:cellsOf (.bool b)=some [.bool b]:=_root_.id rfl
theorem Dw {k:IntKind} {x:SI}:cellsOf (.int k x)=some [.int k x]:=_root_.id rfl
theorem Cw {i:D4} {o:Nat}:cellsOf (.ptr i o)=some [.ptr i o]:=_root_.id rfl
theorem CY {i:D4}:cellsOf (.map i)=some [.map i]:=_root_.id rfl
theorem DV {l:List NV}:cellsOf (.agg l)=some l:=_root_.id rfl
noncomputable def CW (m:NH) (o:Option (List NV)):NR:=match o with|some cs=> .mem (.ptr m.next 0) (m.add (.cells true cs))|none=> .fail
theorem ED {t:Tm} {m:NH} {x:NOpd} {ty:Nat}:ae (.box x ty) t m=oN (ρ t x) fun v=>CW m (cellsOf v):=Ay
theorem DG {m:NH} {cs:List NV}:CW m (some cs)= .mem (.ptr m.next 0) (m.add (.cells true cs)):=_root_.id rfl
abbrev ii (z:Int):NV:= .int .i64 (.lit z)
end
end Nm
namespace Nm
open Go Go.RowKit
def kM (P:Program) (S:bA) (q:D4) (args:List NV) (m:NH) (v:NV) (m':NH):Prop:=∃c,qH P S q args m (.val v c m')
def WY (P:Program) (S:bA) (q:D4) (args:List NV) (m:NH) (K:NV->NH->Prop):Prop:=∃v c m',qH P S q args m (.val v c m')/\K v m'
section
variable {P:Program} {S:bA} {f:Nat} {q:D4} {args:List NV} {m:NH}
theorem qH.det {x y:CR} (h:qH P S q args m x) (h':qH P S q args m y):x=y:=by
 obtain ⟨hn,n,e⟩:=h
 obtain ⟨hn',k,e'⟩:=h'
 rw[←dg (bk (Nat.le_max_left n k)) e hn,dg (bk (Nat.le_max_right n k)) e' hn']
theorem kM.wy {v:NV} {m':NH} (h:kM P S q args m v m') {K:NV->NH->Prop}:WY P S q args m K=K v (hp [] 0 m'):=by
 rw[aQ]
 apply propext
 constructor
 ·rintro ⟨u,c,n,hc,hk⟩
  obtain ⟨c',h'⟩:=h
  have:=qH.det hc h'
  injection this with a _ b
  rw[←a,←b];exact hk
 ·intro hk
  obtain ⟨c,h⟩:=h
  exact ⟨v,c,m',h,hk⟩
def zT (q:D4) (K:NV->NH->Prop) (o:Out) (d:Dyn):Prop:=match d.h.get q with
 |some (.loop _ _ tm ps a b)=>(match o with
  | .norm=>K (.bool true) (d.h.put q (.loop 0 .none tm ps a b))
  | .ret=>K (.bool false) (d.h.put q (.loop 2 .ret tm ps a b))
  | .exit i=>K (.bool false) (d.h.put q (.loop 2 (.exit i) tm ps a b))
  | .pan _=>False)
 |_=>False
theorem WY.of_wp {p:Jump} {tm:NT NV} {ps:List D4} {a b A B:NC} {K:NV->NH->Prop} (hm:m.get q=some (.loop 0 p tm ps a b)) (hlen:args.length=ps.length) (ea:a=A) (eb:b=B)
 (h:wp P S (some q) A ⟨lA ps args tm, [],none,hp [] 0 m⟩ (fun o d=>o= .norm/\d.dfs= []/\d.h.get q=some (.loop 0 p tm ps a b)/\wp P S (some q) B ⟨d.t, [],none,d.h.put q (.loop 1 p tm ps a b)⟩ (zT q K))):WY P S q args m K:=by
 subst ea eb
 rw[aQ] at h
 obtain ⟨o,d1,h1,h2⟩:=bO _ _ _ h
 cases o with
 |pan v=>exact h2.2.elim
 |ret=>exact Gh h2.1 (by simp)
 |exit i=>exact Gh h2.1 (by simp)
 |norm=>
 obtain ⟨-,hd,hq,h2⟩:=h2
 obtain ⟨o,d2,h3,h4⟩:=bO _ _ _ h2
 have h4:zT q K o d2:=by
  cases o with
  |pan v=>exact h4.2.elim
  |_=>exact h4
 unfold zT at h4
 cases hg:d2.h.get q with
 |none=>rw[hg] at h4;exact h4.elim
 |some w=>
  rw[hg] at h4
  cases w with
  |loop st p2 tm2 ps2 a2 b2=>
   cases o with
   |norm=>exact ⟨_,none,_,qH.of hm hlen h1 hd hq h3 (by simp) (by unfold cu;rw[hg];exact NH.set_eq _ _ _ _) (by simp),h4⟩
   |ret=>exact ⟨_,none,_,qH.of hm hlen h1 hd hq h3 (by simp) (by unfold cu;rw[hg];exact NH.set_eq _ _ _ _) (by simp),h4⟩
   |exit i=>exact ⟨_,none,_,qH.of hm hlen h1 hd hq h3 (by simp) (by unfold cu;rw[hg];exact NH.set_eq _ _ _ _) (by simp),h4⟩
   |pan v=>exact h4.elim
  |_=>exact h4.elim
noncomputable def F8 (q:D4) (K:NV->NH->Prop) (o:Out) (m:NH) (x:Option NO):Prop:=match x with
 |some (.loop _ _ tm ps a b)=>(match o with
  | .norm=>K (.bool true) (m.put q (.loop 0 .none tm ps a b))
  | .ret=>K (.bool false) (m.put q (.loop 2 .ret tm ps a b))
  | .exit i=>K (.bool false) (m.put q (.loop 2 (.exit i) tm ps a b))
  | .pan _=>False)
 |_=>False
theorem BF {K:NV->NH->Prop} {o:Out} {t:Tm} {dfs:List Dfr} {ctx:Option NV}:zT q K o ⟨t,dfs,ctx,m⟩=F8 q K o m (m.get q):=_root_.id rfl
section
variable {K:NV->NH->Prop} {st:Nat} {p:Jump} {tm:NT NV} {ps:List D4} {a b:NC} {i:Nat}
theorem DU:F8 q K .norm m (some (.loop st p tm ps a b))=K (.bool true) (m.put q (.loop 0 .none tm ps a b)):=_root_.id rfl
end
theorem WY.ret {K:NV->NH->Prop} (h:WY P S q args m K):∃v m',kM P S q args m v m'/\K v m':=by
 obtain ⟨v,c,m',hc,hk⟩:=h;exact ⟨v,m',⟨c,hc⟩,hk⟩
theorem WY.ex {Φ:NV->NH->Prop} (h:∀K:NV->NH->Prop,(∀v m',Φ v m'->K v m')->WY P S q args m K):∃v m',kM P S q args m v m'/\Φ v m':=(h Φ fun _ _ h=>h).ret
theorem WF.ex {Φ:NV->NH->Prop} (h:∀K:NV->NH->Prop,(∀v m',Φ v m'->K v m')->WF P S f args m K):∃v m',dV P S f args m v m'/\Φ v m':=(h Φ fun _ _ h=>h).ret
def o9 (ks:List D4) (t t':Tm):Prop:=∀k,k∉ks->NT.get k t'=NT.get k t
theorem o9.refl (ks:List D4) (t:Tm):o9 ks t t:=fun _ _=>rfl
theorem o9.get {ks:List D4} {t t':Tm} (h:o9 ks t t') {k:D4} {v:Option NV} (g:NT.get k t=v) (hk:k∉ks):NT.get k t'=v:=(h k hk).trans g
theorem o9.trans {ks ls:List D4} {a b c:Tm} (h:o9 ks a b) (h':o9 ls b c) (hs:∀k∈ls,k∈ks):o9 ks a c:=fun k hk=>(h' k fun q=>hk (hs k q)).trans (h k hk)
noncomputable def sG:List Dfr->NH->Option NH
 | [],m=>some m
 | .mark id::l,m=>(match m.get id with|some (.defd true)=>sG l (m.put id (.defd false))|_=>none)
 | .call ..::_,_=>none
def x7 (rs:List NRes) (K:NV->NH->Prop) (o:Out) (d:Dyn):Prop:=(o= .norm∨o= .ret)/\∃m',sG d.dfs d.h=some m'/\∃v,bt m' d.t rs .fail (fun l=> .val (fR l) d.ctx m')= .val v d.ctx m'/\K v m'
theorem kz {F:Nat->List NV->Option NV->NH->CR} {K:Option NV->NH->CR}:∀(l:List Dfr) (m m':NH) (p:Option NV),sG l m=some m'->unwind F K l p m=K p m':=by
 intro l
 induction l with
 |nil=>intro m m' p h;injection h with h;rw[←h];rfl
 |cons c l ih=>
  intro m m' p h
  cases c with
  |call f cap=>cases h
  |mark id=>
   show (match m.get id with
    |some (.defd true)=>m.set id (.defd false) fun h=>unwind F K l p h
    |_=>CR.fail)=_
   change (match m.get id with|some (.defd true)=>sG l (m.put id (.defd false))|_=>none)=some m' at h
   cases hg:m.get id with
   |none=>rw[hg] at h;cases h
   |some o=>
    rw[hg] at h
    cases o with
    |defd b=>cases b with
     |true=>dsimp only at h ⊢;rw[NH.set_eq];exact ih _ _ _ h
     |false=>cases h
    |_=>cases h
theorem Call.of_runM {nf:NFun} (hs:∀l,S f l=fun _=>none) (hf:an P f=some (.code nf)) {o:Out} {d:Dyn} {m':NH} (ho:o= .norm∨o= .ret) (h:cA P S none nf.body ⟨bY args 0 .leaf, [],none,m⟩ o d)
 (hd:sG d.dfs d.h=some m') {v:NV} (hv:bt m' d.t nf.results .fail (fun l=> .val (fR l) d.ctx m')= .val v d.ctx m'):Call P S f args m (.val v d.ctx m'):=by
 obtain ⟨n,hn⟩:=h
 refine ⟨by simp,n, ?_⟩
 unfold bh
 rw[hs args]
 dsimp only
 rw[hf]
 show bP P (ev P S n) 3 f args none m=_
 rw[cD,hf]
 dsimp only
 rw[hn]
 rcases ho with rfl|rfl
 ·show unwind _ (finish nf.results d) d.dfs none d.h=_
  rw[kz _ _ _ _ hd];exact hv
 ·show unwind _ (finish nf.results d) d.dfs none d.h=_
  rw[kz _ _ _ _ hd];exact hv
theorem WF.of_wpM {nf:NFun} (hs:∀l,S f l=fun _=>none) (hf:an P f=some (.code nf)) {K:NV->NH->Prop} {L:List (D4×NV)} (hL:bY args 0 .leaf=ap L .leaf)
 (h:wp P S none nf.body ⟨ap L .leaf, [],none,hp [] 0 m⟩ (x7 nf.results K)):WF P S f args m K:=by
 rw[aQ] at h
 obtain ⟨o,d,h1,h2⟩:=bO _ _ _ h
 rw[←hL] at h1
 cases o with
 |pan v=>exact h2.2.elim
 |_=>
  obtain ⟨ho,m',hd,v,hv,hK⟩:=h2
  exact Or.inl ⟨v,d.ctx,m',Call.of_runM hs hf ho h1 hd hv,hK⟩
noncomputable def EI (rs:List NRes) (K:NV->NH->Prop) (t:Tm) (ctx:Option NV) (o:Option NH):Prop:=match o with|some m'=>mI rs K .ret ⟨t, [],ctx,m'⟩|none=>False
theorem rM {rs:List NRes} {K:NV->NH->Prop} {t:Tm} {ctx:Option NV} {dfs:List Dfr} {o:Out} (ho:o= .norm∨o= .ret):x7 rs K o ⟨t,dfs,ctx,m⟩=EI rs K t ctx (sG dfs m):=by
 apply propext
 constructor
 ·rintro ⟨_,m',h1,v,h2,h3⟩
  change sG dfs m=some m' at h1
  rw[h1]
  exact ⟨Or.inr rfl,rfl,v,h2,h3⟩
 ·intro h
  cases hu:sG dfs m with
  |none=>rw[hu] at h;exact h.elim
  |some m'=>
   rw[hu] at h
   obtain ⟨_,_,v,h2,h3⟩:=h
   exact ⟨ho,m',hu,v,h2,h3⟩
theorem AB {rs:List NRes} {K:NV->NH->Prop} {t:Tm} {ctx:Option NV} {dfs:List Dfr}:x7 rs K .ret ⟨t,dfs,ctx,m⟩=EI rs K t ctx (sG dfs m):=rM (.inr rfl)
theorem yh {rs:List NRes} {K:NV->NH->Prop} {t:Tm} {ctx:Option NV} {dfs:List Dfr}:x7 rs K .norm ⟨t,dfs,ctx,m⟩=EI rs K t ctx (sG dfs m):=rM (.inl rfl)
theorem C8 {rs:List NRes} {K:NV->NH->Prop} {t:Tm} {ctx:Option NV}:EI rs K t ctx (some m)=mI rs K .ret ⟨t, [],ctx,m⟩:=_root_.id rfl
theorem Aj {P:PE} {r:Option D4} {g:NOpd} {ps:List D4} {a b:NC} {d:Dyn} {Q:Out->Dyn->Prop}:wp P S r (.rangeFunc g ps a b) d Q=W P S r (.rangeFunc g ps a b) d Q:=_root_.id rfl
theorem B5:sG [] m=some m:=_root_.id rfl
noncomputable def DS (l:List Dfr) (i:D4) (m:NH) (o:Option NO):Option NH:=match o with|some (.defd true)=>sG l (m.put i (.defd false))|_=>none
theorem C1 {l:List Dfr} {i:D4}:sG (.mark i::l) m=DS l i m (m.get i):=_root_.id rfl
theorem B6 {l:List Dfr} {i:D4}:DS l i m (some (.defd true))=sG l (m.put i (.defd false)):=_root_.id rfl
theorem W.range {cap:List NV} {fx:NOpd} {ps:List D4} {a b:NC} {t:Tm} {dfs:List Dfr} {ctx:Option NV} {Q:Out->Dyn->Prop} {M m':NH} {v:NV}
 (hf:ρ t fx=some (.fn f cap)) {x:D4} (hx:m.next=x) {y:D4} (hy:(m.add (.defd true)).next=y) (hM:(m.add (.defd true)).add (.loop 0 .none t ps a b)=M) (hc:dV P S f (.yld y::cap) M v m')
 {tm:NT NV} {ps':List D4} {a' b':NC} (hl:m'.get y=some (.loop 0 .none tm ps' a' b')) (hQ:Q .norm ⟨t,.mark x::dfs,ctx,hp [] 0 (m'.put y (.loop 3 .none tm ps' a' b'))⟩):
 W P S none (.rangeFunc fx ps a b) ⟨t,dfs,ctx,m⟩ Q:=by
 subst hx hy hM
 rw[aQ] at hQ
 obtain ⟨c,hc⟩:=hc
 refine ⟨.norm,_,cA.range hf hc ?_,hQ⟩
 unfold dk
 rw[hl]
 dsimp only
 rw[show Nat.beq 0 1=false from rfl,cond_false,NH.set_eq]
theorem W.rangeN {cap:List NV} {fx:NOpd} {ps:List D4} {a b:NC} {t:Tm} {dfs:List Dfr} {ctx:Option NV} {Q:Out->Dyn->Prop} {m':NH} {v:NV}
 (hf:ρ t fx=some (.fn f cap)) (hc:dV P S f (.yld (na m 1)::cap) (hp [(.n 1,.loop 0 .none t ps a b),(.n 0,.defd true)] 2 m) v m')
 {tm:NT NV} {ps':List D4} {a' b':NC} (hl:m'.get (na m 1)=some (.loop 0 .none tm ps' a' b')) (hQ:Q .norm ⟨t,.mark (na m 0)::dfs,ctx,hp [(.o (na m 1),.loop 3 .none tm ps' a' b')] 0 m'⟩) (ho:aM m' (na m 1)):
 W P S none (.rangeFunc fx ps a b) ⟨t,dfs,ctx,m⟩ Q:=by
 have e1:(m.add (.defd true)).next=na m 1:=by rw[←nF];rfl
 refine W.range hf (jI m).symm e1 ?_ hc hl ?_
 ·rw[←nF m (.defd true),wT]
 ·rw[←lv ho,aQ] at hQ
  rw[aQ];exact hQ
end
end Nm
namespace Nm
open Go Go.RowKit
section
variable (P:PE) (S:bA) (r:Option D4)
def EJ (c:NC) (Q:Out->Dyn->Prop) (d:Dyn):Prop:=wp P S r c d Q
def uy (dst:Option D4) (t:Tm) (dfs:List Dfr) (ctx:Option NV) (m:NH) (x:NR) (l:List NOper) (K:Dyn->Prop):Prop:=wN P S dst t dfs ctx m x fun d=>wO P S l d K
def sb (dst:Option D4) (t:Tm) (dfs:List Dfr) (ctx:Option NV) (l:List NOper) (K:Dyn->Prop) (v:NV) (m:NH):Prop:=wO P S l ⟨az dst v t,dfs,ctx,m⟩ K
def gA (dst:Option D4) (op:NOp) (l:List NOper) (K:Dyn->Prop) (d:Dyn):Prop:=uy P S dst d.t d.dfs d.ctx d.h (ae op d.t d.h) l K
def gB (dst:Option D4) (l:List NOper) (K:Dyn->Prop) (d:Dyn):Prop:=wO P S l ⟨az dst ax d.t,d.dfs,d.ctx,d.h⟩ K
def dA (dst:Option D4) (op:NOp) (pre idx:Nat) (l:List NOper) (hs:List (Nat×NH)) (rs:List (Nat×(NH->NR)×NV)) (K:Dyn->Prop) (d:Dyn):Prop:=wX (aj op) (ae op d.t d.h) P S (ae op d.t) dst pre idx l hs rs d K
def dB (dst:Option D4) (l:List NOper) (hs:List (Nat×NH)) (rs:List (Nat×(NH->NR)×NV)) (K:Dyn->Prop) (d:Dyn):Prop:=wD P S l hs rs ⟨az dst ax d.t,d.dfs,d.ctx,d.h⟩ K
def Dy (pre idx:Nat) (m:NH) (l:List NOper) (hs:List (Nat×NH)) (rs:List (Nat×(NH->NR)×NV)) (K:Dyn->Prop) (d:Dyn):Prop:=aL pre d.h rs=true/\wD P S l ((idx,m)::hs) rs d K
def Ar (dst:Option D4) (t:Tm) (dfs:List Dfr) (ctx:Option NV) (K:Dyn->Prop) (v:NV) (m:NH):Prop:=K ⟨az dst v t,dfs,ctx,m⟩
end
section
variable {P:PE} {S:bA} {r:Option D4} {dst:Option D4} {op:NOp} {pre idx:Nat} {l:List NOper} {hs:List (Nat×NH)} {rs:List (Nat×(NH->NR)×NV)}
 {L:List (D4×NV)} {t:Tm} {dfs:List Dfr} {ctx:Option NV} {m m':NH} {v:NV} {k g:D4} {d:Dyn} {Q:Out->Dyn->Prop} {K:Dyn->Prop} {b:Bool}
theorem EB {x y:NC}:wp P S r (.seq x y) d Q=wp P S r x d (kC (EJ P S r y Q) Q):=_root_.id rfl
theorem CE {c:NC}:EJ P S r c Q d=wp P S r c d Q:=_root_.id rfl
theorem BW {g:NOpd} {x y:NC}:wp P S r (.cond g x y) ⟨ap L t,dfs,ctx,m⟩ Q=wC (ρ (ap L t) g) (EJ P S r x Q) (EJ P S r y Q) ⟨ap L t,dfs,ctx,m⟩:=_root_.id rfl
theorem BK:wO P S (⟨dst,op,none,pre,idx⟩::l) ⟨ap L t,dfs,ctx,m⟩ K=uy P S dst (ap L t) dfs ctx m (ae op (ap L t) m) l K:=_root_.id rfl
theorem CF:uy P S (some k) (ap L t) dfs ctx m (.val v) l K=wO P S l ⟨ap ((k,v)::L) t,dfs,ctx,m⟩ K:=_root_.id rfl
theorem Cv:uy P S (some k) (ap L t) dfs ctx m (.mem v m') l K=wO P S l ⟨ap ((k,v)::L) t,dfs,ctx,m'⟩ K:=_root_.id rfl
theorem By:uy P S none (ap L t) dfs ctx m (.mem v m') l K=wO P S l ⟨ap L t,dfs,ctx,m'⟩ K:=_root_.id rfl
theorem B0 {f:Nat} {args:List NV}:uy P S dst t [] ctx m (.call f args) l K=WF P S f args m (sb P S dst t [] ctx l K):=_root_.id rfl
theorem xr {x:Dfr} {f:Nat} {args:List NV}:uy P S dst t (x::dfs) ctx m (.call f args) l K=WF P.p S f args m (sb P S dst t (x::dfs) ctx l K):=_root_.id rfl
theorem EH {q:D4} {args:List NV}:uy P S dst t dfs ctx m (.yld q args) l K=WY P.p S q args m (sb P S dst t dfs ctx l K):=_root_.id rfl
theorem xC:sb P S (some k) (ap L t) dfs ctx l K v m=wO P S l ⟨ap ((k,v)::L) t,dfs,ctx,m⟩ K:=_root_.id rfl
theorem xN:wO P S (⟨dst,op,some (g,b),pre,idx⟩::l) ⟨ap L t,dfs,ctx,m⟩ K=wG (cP g L (NT.get g t)) b (gA P S dst op l K) (gB P S dst l K) ⟨ap L t,dfs,ctx,m⟩:=zd
theorem FF:gA P S dst op l K ⟨ap L t,dfs,ctx,m⟩=uy P S dst (ap L t) dfs ctx m (ae op (ap L t) m) l K:=_root_.id rfl
theorem ET:gB P S (some k) l K ⟨ap L t,dfs,ctx,m⟩=wO P S l ⟨ap ((k,ax)::L) t,dfs,ctx,m⟩ K:=_root_.id rfl
theorem wq:wD P S (⟨dst,op,some (g,b),pre,idx⟩::l) hs rs ⟨ap L t,dfs,ctx,m⟩ K=wG (cP g L (NT.get g t)) b (dA P S dst op pre idx l hs rs K) (dB P S dst l hs rs K) ⟨ap L t,dfs,ctx,m⟩:=vE
theorem Fx:dA P S dst op pre idx l hs rs K ⟨ap L t,dfs,ctx,m⟩=wX (aj op) (ae op (ap L t) m) P S (ae op (ap L t)) dst pre idx l hs rs ⟨ap L t,dfs,ctx,m⟩ K:=_root_.id rfl
theorem EV:dB P S (some k) l hs rs K ⟨ap L t,dfs,ctx,m⟩=wD P S l hs rs ⟨ap ((k,ax)::L) t,dfs,ctx,m⟩ K:=_root_.id rfl
def Ec (b:Bool) (P:PE) (S:bA) (dst:Option D4) (t:Tm) (dfs:List Dfr) (ctx:Option NV) (m:NH) (x:NR) (K:Dyn->Prop):Prop:=Ft P S b dst t dfs ctx m x K
section
variable {f:NH->NR}
theorem BE {x:NR}:wX .eff x P S f dst pre idx l hs rs ⟨t,dfs,ctx,m⟩ K=(ahead pre hs=true/\Ec (lU hs idx l) P S dst t dfs ctx m x (Dy P S pre idx m l hs rs K)):=_root_.id rfl
end
theorem vK:Ec b P S (some k) (ap L t) dfs ctx m (.mem v m') K=K ⟨ap ((k,v)::L) t,dfs,ctx,m'⟩:=by cases b<;>rfl
theorem xI:Ec b P S none (ap L t) dfs ctx m (.mem v m') K=K ⟨ap L t,dfs,ctx,m'⟩:=by cases b<;>rfl
theorem uG {P:Program} {f:Nat} {args:List NV}:Ec b P S dst t dfs ctx m (.call f args) K=WF P S f args m (Ar dst t dfs ctx K):=by cases b<;>cases dfs<;>rfl
theorem BN {x:Nat×NH} {i:Nat}:lU (x::hs) i l=false:=_root_.id rfl
theorem xo {i:Nat}:lU [] i l=aV i l:=_root_.id rfl
theorem Cf {i:Nat}:aV i []=true:=_root_.id rfl
theorem DF {i:Nat} {g:Option (D4×Bool)}:aV i (⟨dst,op,g,pre,idx⟩::l)=cond (Nat.testBit pre i) (aV i l) false:=_root_.id rfl
theorem zj:Ar (some k) (ap L t) dfs ctx K v m=K ⟨ap ((k,v)::L) t,dfs,ctx,m⟩:=_root_.id rfl
theorem A6 {m0:NH}:Dy P S pre idx m0 l hs rs K ⟨t,dfs,ctx,m⟩=(aL pre m rs=true/\wD P S l ((idx,m0)::hs) rs ⟨t,dfs,ctx,m⟩ K):=_root_.id rfl
theorem oz {B:NH} {e:Nat} {C:List (List NV)} {x:D4} {w:Bool} {cs:List NV} {kc bytes:Nat} (hv:cC B m v e C) (hx:m.get x=some (.cells w cs)) (hox:aM m x) (hl:cs.length=e) (hB:∀id,aM B id->aM m id)
 (hr:(C.length+1)*bytes<=1099511627776) (hr':C.length+1<=1099511627776) (h:∀v' m',cC B m' v' e (C++ [cs])->Chg (ids v) m m'->wO P S l ⟨ap ((k,v')::L) t,dfs,ctx,hp [] 0 m'⟩ K):
 uy P S (some k) (ap L t) dfs ctx m (rO e bytes m v (.slc x 0 1 e kc)) l K:=yG hv hx hox hl hB hr hr' h
end
end Nm
namespace Nm
open Go Go.RowKit
section
variable {t:Tm} {m:NH}
noncomputable def Au (v:NV):NR:=match v with| .ptr i o=> .val (.ptr i o)| .fn f c=> .val (.fn f c)| .yld l=> .val (.yld l)|_=> .fail
theorem Bb {x:NOpd}:ae (.nilCheck x) t m=oN (ρ t x) Au:=by
 show wV t x _=_
 rw[b0]
 cases ρ t x with
 |none=>rfl
 |some v=>cases v<;>rfl
theorem yb {i:D4} {o:Nat}:Au (.ptr i o)= .val (.ptr i o):=_root_.id rfl
noncomputable def rR (x:NR) (K:NV->Prop):Prop:=match x with| .val v=>K v|_=>False
noncomputable def pD (t:Tm) (m:NH):List NRes->(List NV->Prop)->Prop
 | [],K=>K []
 | .tmp k::l,K=>rK (NT.get k t) fun v=>pD t m l fun vs=>K (v::vs)
 | .cell1 k::l,K=>rR (ae (.load1 (.tmp k)) t m) fun v=>pD t m l fun vs=>K (v::vs)
 | .cellN k n::l,K=>rR (ae (.loadN n (.tmp k)) t m) fun v=>pD t m l fun vs=>K (v::vs)
theorem wm:∀(rs:List NRes) (K:List NV->Prop) (G:List NV->CR),pD t m rs K->∃l,bt m t rs .fail G=G l/\K l:=by
 intro rs
 induction rs with
 |nil=>intro K G h;exact ⟨[],rfl,h⟩
 |cons r rs ih=>
  intro K G h
  cases r with
  |tmp k=>
   cases hv:NT.get k t with
   |none=>unfold pD at h;rw[hv] at h;exact h.elim
   |some v=>
    unfold pD at h;rw[hv] at h
    obtain ⟨l,h1,h2⟩:=ih (fun vs=>K (v::vs)) (fun l=>G (v::l)) h
    refine ⟨v::l, ?_,h2⟩
    show (match (match NT.get k t with|some v=>NR.val v|none=> .fail) with| .val v=>bt m t rs .fail (fun l=>G (v::l))|_=> .fail)=_
    rw[hv];exact h1
  |cell1 k=>
   cases hv:ae (.load1 (.tmp k)) t m with
   |val v=>
    unfold pD at h;rw[hv] at h
    obtain ⟨l,h1,h2⟩:=ih (fun vs=>K (v::vs)) (fun l=>G (v::l)) h
    refine ⟨v::l, ?_,h2⟩
    change dx (.tmp k) t m= .val v at hv
    show (match dx (.tmp k) t m with| .val v=>bt m t rs .fail (fun l=>G (v::l))|_=> .fail)=_
    rw[hv];exact h1
   |_=>unfold pD at h;rw[hv] at h;exact h.elim
  |cellN k n=>
   cases hv:ae (.loadN n (.tmp k)) t m with
   |val v=>
    unfold pD at h;rw[hv] at h
    obtain ⟨l,h1,h2⟩:=ih (fun vs=>K (v::vs)) (fun l=>G (v::l)) h
    refine ⟨v::l, ?_,h2⟩
    change dN n (.tmp k) t m= .val v at hv
    show (match dN n (.tmp k) t m with| .val v=>bt m t rs .fail (fun l=>G (v::l))|_=> .fail)=_
    rw[hv];exact h1
   |_=>unfold pD at h;rw[hv] at h;exact h.elim
def xA (rs:List NRes) (K:NV->NH->Prop) (o:Out) (d:Dyn):Prop:=(o= .norm∨o= .ret)/\d.dfs= []/\pD d.t d.h rs fun l=>K (fR l) d.h
theorem BJ {rs:List NRes} {K:NV->NH->Prop} {o:Out} {d:Dyn} (h:xA rs K o d):mI rs K o d:=by
 obtain ⟨h1,h2,h3⟩:=h
 obtain ⟨l,h4,h5⟩:=wm rs _ (fun l=> .val (fR l) d.ctx d.h) h3
 exact ⟨h1,h2,fR l,h4,h5⟩
theorem BR {rs:List NRes} {K:NV->NH->Prop} {ctx:Option NV}:xA rs K .ret ⟨t, [],ctx,m⟩=pD t m rs (fun l=>K (fR l) m):=propext ⟨fun h=>h.2.2,fun h=>⟨.inr rfl,rfl,h⟩⟩
theorem zI {rs:List NRes} {K:NV->NH->Prop} {ctx:Option NV}:xA rs K .norm ⟨t, [],ctx,m⟩=pD t m rs (fun l=>K (fR l) m):=propext ⟨fun h=>h.2.2,fun h=>⟨.inl rfl,rfl,h⟩⟩
theorem El {K:List NV->Prop}:pD t m [] K=K []:=_root_.id rfl
theorem EF {K:List NV->Prop} {k:D4} {l:List NRes}:pD t m (.tmp k::l) K=rK (NT.get k t) fun v=>pD t m l fun vs=>K (v::vs):=_root_.id rfl
theorem xH {v:NV}:fR [v]=v:=_root_.id rfl
theorem WF.of_wpG {P:Program} {E:NV->NH->Prop} {S:bA} {f:Nat} {args:List NV} {nf:NFun} (hs:∀l,S f l=fun _=>none) (hf:an P f=some (.code nf)) {K:NV->NH->Prop} {L:List (D4×NV)} (hL:bY args 0 .leaf=ap L .leaf)
 (h:wp ⟨P,E⟩ S none nf.body ⟨ap L .leaf, [],none,hp [] 0 m⟩ (xA nf.results K)):WF ⟨P,E⟩ S f args m K:=by
 rw[aQ] at h
 obtain ⟨o,d,h1,h2⟩:=bO _ _ _ h
 rw[←hL] at h1
 cases o with
 |pan v=>exact Or.inr ⟨v,d.ctx,d.h,Call.of_pan hs hf h1 h2.1,h2.2⟩
 |_=>
  obtain ⟨ho,hd,v,hv,hK⟩:=BJ h2
  exact Or.inl ⟨v,d.ctx,d.h,Call.of_run hs hf ho h1 hd hv (by simp),hK⟩
end
end Nm
namespace Nm
open Go Go.RowKit
section
variable {t:Tm} {m:NH}
noncomputable def uz (s:Bool) (z:NV) (ok:Bool) (k:NV) (l:List (NV×NV)):NR:=aI (gt s k l) fun r=>Option.rec (Bool.rec (.val z) (.val (.tup [z,.bool false])) ok) (fun v=>Bool.rec (.val v) (.val (.tup [v,.bool true])) ok) r
noncomputable def FA (s:Bool) (z:NV) (ok:Bool) (k:NV) (o:Option NO):NR:=match o with|some (.map l)=>uz s z ok k l|_=> .fail
noncomputable def F4 (s:Bool) (z:NV) (ok:Bool) (m:NH) (x k:NV):NR:=match x with| .nilm=>uz s z ok k []| .map id=>FA s z ok k (m.get id)|_=> .fail
theorem wL {s ok:Bool} {z:NV} {x i:NOpd}:ae (.lookup s z ok x i) t m=oN (ρ t x) fun x=>oN (ρ t i) fun k=>F4 s z ok m x k:=by
 show wV t x (fun x=>wV t i fun k=>gs m x fun l=>aI (gt s k l) fun r=>Option.rec (Bool.rec (.val z) (.val (.tup [z,.bool false])) ok) (fun v=>Bool.rec (.val v) (.val (.tup [v,.bool true])) ok) r)=_
 simp only[b0]
 cases ρ t x with
 |none=>rfl
 |some a=>
  cases ρ t i with
  |none=>rfl
  |some k=>
   cases a<;>try rfl
theorem FZ {s ok:Bool} {z k:NV} {id:D4}:F4 s z ok m (.map id) k=FA s z ok k (m.get id):=_root_.id rfl
theorem Dq {s ok:Bool} {z k:NV} {l:List (NV×NV)}:FA s z ok k (some (.map l))=uz s z ok k l:=_root_.id rfl
theorem yX:ae .mkMap t m= .mem (.map m.next) (m.add (.map [])):=NH.new_eq m (.map []) (fun id h=>NR.mem (.map id) h)
noncomputable def CJ (s:Bool) (id:D4) (k v:NV) (m:NH) (o:Option NO):NR:=match o with|some (.map l)=>aI (kQ s k v l) fun l=> .mem ax (m.put id (.map l))|_=> .fail
noncomputable def F3 (s:Bool) (m:NH) (x k v:NV):NR:=match x with| .map id=>CJ s id k v m (m.get id)|_=> .fail
theorem zl {s:Bool} {x i v:NOpd}:ae (.mapUpdate s x i v) t m=oN (ρ t x) fun x=>oN (ρ t i) fun k=>oN (ρ t v) fun v=>F3 s m x k v:=by
 show wV t x (fun m'=>wV t i fun k=>wV t v fun v=>match m' with
  | .map id=>gs m (.map id) fun l=>aI (kQ s k v l) fun l=>m.set id (.map l) fun h=> .mem ax h
  |_=> .fail)=_
 simp only[b0]
 cases ρ t x with
 |none=>rfl
 |some a=>
  cases ρ t i with
  |none=>rfl
  |some k=>
   cases ρ t v with
   |none=>rfl
   |some v=>
    cases a<;>first|rfl|skip
    rename_i id
    show (match m.get id with|some (.map l)=>aI (kQ s k v l) (fun l=>m.set id (.map l) fun h=> .mem ax h)|_=> .fail)=CJ s id k v m (m.get id)
    cases m.get id with
    |none=>rfl
    |some o=>
     cases o<;>first|rfl|skip
     dsimp only[CJ]
     congr 1;funext l;rw[NH.set_eq]
theorem Fa {s:Bool} {k v:NV} {id:D4}:F3 s m (.map id) k v=CJ s id k v m (m.get id):=_root_.id rfl
end
end Nm
namespace Nm
open Go Go.RowKit
theorem AA {m:NH} {id:D4}:(hp [] 0 m).get id=m.get id:=by rw[aQ]
section
variable {P:Program} {S:bA}
end
theorem AO {e bytes:Nat} {m m':NH} {v x v':NV} (h:rO e bytes m v x= .mem v' m'):∀i∈ids v',i∈ids v∨¬aM m i:=by
 have hn:¬aM m m.next:=fun q=>Nat.lt_irrefl _ q
 have new:∀{a b c d:Nat},∀i∈ids (.slc m.next a b c d),i∈ids v∨¬aM m i:=by
  intro a b c d i hi
  rcases List.mem_cons.mp hi with rfl|hi
  ·exact Or.inr hn
  ·exact Gh hi (by simp)
 have key:∀(k:Nat) (nw:List NV),c8 e bytes m v k nw= .mem v' m'->∀i∈ids v',i∈ids v∨¬aM m i:=by
  intro k nw h
  cases v with
  |nils=>
   cases k with
   |zero=>cases h
   |succ k=>
    obtain ⟨-,h⟩:=aA (show cond (room (k+1) bytes) (m.new (.cells true nw) fun id h=>NR.mem (.slc id 0 (k+1) e (k+1)) h) .fail=_ from h) (by simp)
    rw[NH.new_eq] at h;cases h;exact new
  |slc id off len e' kc=>
   cases k with
   |zero=>
    obtain ⟨-,h⟩:=aA (show cond (Nat.beq e' e) (NR.val (.slc id off len e' kc)) .fail=_ from h) (by simp)
    cases h
   |succ k=>
    obtain ⟨-,h⟩:=aA (show cond (Nat.beq e' e) (cI m id fun c=>ag (Nat.add len (k+1)) fun n=>cond (Nat.ble n kc)
     (aI (b9 nw (Nat.add off (Nat.mul len e)) c) fun c=>m.set id (.cells true c) fun h=>NR.mem (.slc id off n e kc) h)
     (aI (cw off c) fun c=>aI (fF (Nat.mul len e) c) fun old=>cond (room n bytes)
      (e7 old nw fun l=>m.set id .dead fun h=>h.new (.cells true l) fun id h=>NR.mem (.slc id 0 n e n) h) .fail)) .fail=_ from h) (by simp)
    obtain ⟨c,-,h⟩:=cL h (by simp)
    rw[aa] at h
    cases hb:Nat.ble (Nat.add len (k+1)) kc with
    |true=>
     rw[hb] at h
     obtain ⟨c',-,h⟩:=aw h (by simp)
     rw[NH.set_eq] at h
     cases h
     exact fun i hi=>Or.inl hi
    |false=>
     rw[hb] at h
     obtain ⟨c',-,h⟩:=aw h (by simp)
     obtain ⟨c'',-,h⟩:=aw h (by simp)
     obtain ⟨-,h⟩:=aA h (by simp)
     rw[c7,NH.set_eq,NH.new_eq] at h
     cases h
     exact new
  |_=>cases h
 unfold rO at h
 cases x with
 |nils=>exact key 0 [] h
 |slc id off len esz kc=>
  obtain ⟨-,h⟩:=aA (show cond (Nat.beq esz e) (bj m id (fun c=>aI (du c off (Nat.mul len e)) fun l=>c8 e bytes m v len l)) .fail=_ from h) (by simp)
  unfold bj at h
  split at h
  ·obtain ⟨l,-,h⟩:=aw h (by simp)
   exact key _ _ h
  ·cases h
 |_=>cases h
theorem cC.app2 {B m:NH} {v:NV} {e:Nat} {C:List (List NV)} {x:D4} {w:Bool} {cs:List NV} {kc bytes:Nat} (hv:cC B m v e C) (hx:m.get x=some (.cells w cs)) (hox:aM m x) (hl:cs.length=e) (hB:∀id,aM B id->aM m id)
 (hr:(C.length+1)*bytes<=1099511627776) (hr':C.length+1<=1099511627776):∃v' m',rO e bytes m v (.slc x 0 1 e kc)= .mem v' m'/\cC B m' v' e (C++ [cs])/\Chg (ids v) m m'/\∀i∈ids v',i∈ids v∨¬aM m i:=by
 obtain ⟨v',m',h1,h2,h3⟩:=hv.app1 (bytes:=bytes) (kc:=kc) hx hox hl hB hr hr'
 exact ⟨v',m',h1,h2,h3,AO h1⟩
section
variable {P:PE} {S:bA} {dst:D4} {L:List (D4×NV)} {t:Tm} {dfs:List Dfr} {ctx:Option NV} {l:List NOper} {K:Dyn->Prop} {B m:NH} {v:NV} {e:Nat} {C:List (List NV)} {x:D4} {w:Bool} {cs:List NV} {kc bytes:Nat}
theorem ol (hv:cC B m v e C) (hx:m.get x=some (.cells w cs)) (hox:aM m x) (hl:cs.length=e) (hB:∀id,aM B id->aM m id)
 (hr:(C.length+1)*bytes<=1099511627776) (hr':C.length+1<=1099511627776) (h:∀v' m',cC B m' v' e (C++ [cs])->Chg (ids v) m m'->(∀i∈ids v',i∈ids v∨¬aM m i)->wO P S l ⟨ap ((dst,v')::L) t,dfs,ctx,m'⟩ K):
 uy P S (some dst) (ap L t) dfs ctx m (rO e bytes m v (.slc x 0 1 e kc)) l K:=by
 obtain ⟨v',m',h1,h2,h3,h4⟩:=hv.app2 (bytes:=bytes) (kc:=kc) hx hox hl hB hr hr'
 rw[h1]
 exact h v' m' h2 h3 h4
theorem oK {bb:Bool} (hv:cC B m v e C) (hx:m.get x=some (.cells w cs)) (hox:aM m x) (hl:cs.length=e) (hB:∀id,aM B id->aM m id)
 (hr:(C.length+1)*bytes<=1099511627776) (hr':C.length+1<=1099511627776) (h:∀v' m',cC B m' v' e (C++ [cs])->Chg (ids v) m m'->(∀i∈ids v',i∈ids v∨¬aM m i)->K ⟨ap ((dst,v')::L) t,dfs,ctx,hp [] 0 m'⟩):
 Ec bb P S (some dst) (ap L t) dfs ctx m (rO e bytes m v (.slc x 0 1 e kc)) K:=by
 obtain ⟨v',m',h1,h2,h3,h4⟩:=hv.app2 (bytes:=bytes) (kc:=kc) hx hox hl hB hr hr'
 rw[h1,vK]
 have:=h v' m' h2 h3 h4
 rwa [aQ] at this
end
section
variable {P:Program} {S:bA} {f:Nat} {args:List NV} {m:NH} {K:NV->NH->Prop}
variable {E:NV->NH->Prop}
end
section
variable {P:PE} {S:bA} {r:Option D4} {a b:NC} {d:Dyn} {Q:Out->Dyn->Prop}
end
section
variable {P:Program} {S:bA} {q:D4} {args:List NV} {m:NH} {K:NV->NH->Prop}
end
section
variable {P:Program} {S:bA} {f:Nat} {q:D4} {args:List NV} {m:NH}
theorem WF.ex1 {v:NV} {Φ:NH->Prop} (h:∀K:NV->NH->Prop,(∀m',Φ m'->K v m')->WF P S f args m K):∃m',dV P S f args m v m'/\Φ m':=by
 obtain ⟨w,m',h1,rfl,h2⟩:=WF.ret (h (fun w m'=>w=v/\Φ m') fun m' h=>⟨rfl,h⟩)
 exact ⟨m',h1,h2⟩
theorem WY.ex1 {v:NV} {Φ:NH->Prop} (h:∀K:NV->NH->Prop,(∀m',Φ m'->K v m')->WY P S q args m K):∃m',kM P S q args m v m'/\Φ m':=by
 obtain ⟨w,m',h1,rfl,h2⟩:=WY.ret (h (fun w m'=>w=v/\Φ m') fun m' h=>⟨rfl,h⟩)
 exact ⟨m',h1,h2⟩
end
end Nm
namespace Nm
open Go Go.RowKit
def lX (P:Program):List Field->Nat->Nat->Bool
 | [],o,n=>o==n
 |f::fs,o,n=>(f.offset==o)&&lX P fs (o+P.cellsOf f.type) n
def gU (P:Program) (T:List TypeId) (t:TypeId):Bool:=match P.underlying t with
 |some .bool|some (.int _)|some .string=>true
 |some (.slice e)=>T.contains e&&decide (0<P.cellsOf e)
 |some (.struct fs)=>fs.toList.all (fun f=>T.contains f.type)&&lX P fs.toList 0 (P.cellsOf t)
 |_=>false
def oG (P:Program) (T:List TypeId):Bool:=T.all (gU P T)
mutual
inductive Ty (P:Program) (m:NH):TypeId->List NV->Prop
 |bool {t:TypeId} (ht:P.underlying t=some .bool) (b:Bool):Ty P m t [.bool b]
 |int {t:TypeId} {k:IntKind} (ht:P.underlying t=some (.int k)) (n:Int) (h:(Lit.int k n).wf=true):Ty P m t [.int k (.lit n)]
 |str {t:TypeId} (ht:P.underlying t=some .string) (l:List Nat) (h:∀b∈l,b<256) (hl:l.length<=maxLen):Ty P m t [.str l]
 |slc {t e:TypeId} (ht:P.underlying t=some (.slice e)) (v:NV) (C:List (List NV)) (hS:Sl m v (P.cellsOf e) C) (hl:C.length<=maxLen) (h:∀c∈C,Ty P m e c):Ty P m t [v]
 |struct {t:TypeId} {fs:Array Field} (ht:P.underlying t=some (.struct fs)) (l:List NV) (h:TyL P m (fs.toList.map (·.type)) l):Ty P m t l
inductive TyL (P:Program) (m:NH):List TypeId->List NV->Prop
 |nil:TyL P m [] []
 |cons {t:TypeId} {ts:List TypeId} (a b:List NV) (h:Ty P m t a) (hl:TyL P m ts b):TyL P m (t::ts) (a++b)
end
mutual
theorem Ty.grew {P:Program} {m m':NH} (hC:Chg [] m m'):∀{t:TypeId} {l:List NV},Ty P m t l->Ty P m' t l
 |_,_,.bool ht b=> .bool ht b
 |_,_,.int ht n h=> .int ht n h
 |_,_,.str ht l h hl=> .str ht l h hl
 |_,_,.slc ht v C hS hl h=> .slc ht v C (hS.grew hC) hl (fun c hc=>(h c hc).grew hC)
 |_,_,.struct ht l h=> .struct ht l (TyL.grew hC h)
theorem TyL.grew {P:Program} {m m':NH} (hC:Chg [] m m'):∀{ts:List TypeId} {l:List NV},TyL P m ts l->TyL P m' ts l
 |_,_,.nil=> .nil
 |_,_,.cons a b h hl=> .cons a b (h.grew hC) (TyL.grew hC hl)
end
section
variable [Val]
def Ro (P:Program) (W:World) (ι:aB) (m:NH):Prop:=Rel P ι W.heap.size m W/\∀i p,ι i=some p->¬Live (m.get i)
def ext (ι:aB) (i:D4) (p:Pl):aB:=fun j=>if j.toNat=i.toNat then some p else ι j
theorem Ro.addE {P:Program} {W:World} {ι:aB} {m:NH} (h:Ro P W ι m) {b o:Nat} {c:List NV} {cur:Array Value} {T:TypeId} {fz:Nat×Nat} (hb:W.heap[b]? =some (.cells cur T fz)) (hn:o+c.length<=cur.size)
 (hc:∀i v,c[i]? =some v->∃v',cur[o+i]? =some v'/\VR ι v v'/\v'.oneCell'=true):
 ∃ι',Ro P W ι' (m.add (.cells false c))/\ι.le ι'/\Chg [] m (m.add (.cells false c))/\ι' m.next=some ⟨b,o,cur.size⟩/\(m.add (.cells false c)).get m.next=some (.cells false c)/\aM (m.add (.cells false c)) m.next:=by
 obtain ⟨hR,hL⟩:=h
 have hold:∀i p,ι i=some p->aM m i:=fun i p hi=>by
  obtain ⟨x,hx,_⟩:=hR.obj i p hi
  exact hR.fresh i x hx
 have hext:∀i p,ι i=some p->ext ι m.next ⟨b,o,cur.size⟩ i=some p:=fun i p hi=>by
  unfold ext;rw[Gi (Nat.ne_of_lt (hold i p hi))];exact hi
 have hle:ι.le (ext ι m.next ⟨b,o,cur.size⟩):=hext
 have hinv:∀i p,ext ι m.next ⟨b,o,cur.size⟩ i=some p->(i=m.next/\p=⟨b,o,cur.size⟩)∨(ι i=some p/\i≠m.next):=fun i p hi=>by
  unfold ext at hi
  by_cases e:i.toNat=m.next.toNat
  ·rw[Gj e] at hi;injection hi with hi;exact Or.inl ⟨D4.toNat_inj e,hi.symm⟩
  ·rw[Gi e] at hi;exact Or.inr ⟨hi,fun q=>e (by rw[q])⟩
 have hnl:∀i p,ext ι m.next ⟨b,o,cur.size⟩ i=some p->¬Live ((m.add (.cells false c)).get i):=fun i p hi=>by
  rcases hinv i p hi with ⟨rfl,_⟩|⟨hi,hne⟩
  ·rw[NH.get_add_same];exact fun q=>q.2 c rfl
  ·rw[NH.get_add_ne _ _ hne];exact hL i p hi
 refine ⟨ext ι m.next ⟨b,o,cur.size⟩,⟨⟨?_, ?_, ?_, ?_, ?_,hR.gl.mono hle⟩,hnl⟩,hle,Chg.add m _,by unfold ext;rw[Gj rfl],NH.get_add_same m _,fe m _⟩
 ·intro i p hi
  rcases hinv i p hi with ⟨rfl,rfl⟩|⟨hi,hne⟩
  ·refine ⟨.cells false c,NH.get_add_same m _, ?_⟩
   show ∃(cur':Array Value) (T:TypeId) (fz:Nat×Nat),W.heap[b]? =some (.cells cur' T fz)/\(false=true->fz=(0,0))/\cur'.size=cur.size/\o+c.length<=cur.size/\∀i v,c[i]? =some v->∃v',cur'[o+i]? =some v'/\VR (ext ι m.next ⟨b,o,cur.size⟩) v v'/\v'.oneCell'=true
   refine ⟨cur,T,fz,hb,fun q=>Bool.noConfusion q,rfl,hn,fun i v hv=> ?_⟩
   obtain ⟨v',h1,h2,h3⟩:=hc i v hv
   exact ⟨v',h1,h2.mono hle,h3⟩
  ·obtain ⟨x,h1,h2⟩:=hR.obj i p hi
   exact ⟨x,(NH.get_add_ne m _ hne).trans h1,h2.mono hle rfl⟩
 ·intro i j p q hi hj hne hl _
  exact Gh hl (hnl i p hi)
 ·intro i p hi hl;exact Gh hl (hnl i p hi)
 ·intro i p hi
  rcases hinv i p hi with ⟨rfl,rfl⟩|⟨hi,_⟩
  ·exact (Array.getElem?_eq_some_iff.mp hb).1
  ·exact hR.lt i p hi
 ·intro i x hx
  by_cases e:i=m.next
  ·subst e;exact fe m _
  ·rw[NH.get_add_ne _ _ e] at hx
   exact (Chg.add m (.cells false c)).old (hR.fresh i x hx)
theorem Ro.add {P:Program} {W:World} {ι:aB} {m:NH} (h:Ro P W ι m) {b o:Nat} {c:List NV} {cur:Array Value} {T:TypeId} {fz:Nat×Nat} (hb:W.heap[b]? =some (.cells cur T fz)) (hn:o+c.length<=cur.size)
 (hc:∀i v,c[i]? =some v->∃v',cur[o+i]? =some v'/\VR ι v v'/\v'.oneCell'=true):
 ∃ι' m',Ro P W ι' m'/\ι.le ι'/\Chg [] m m'/\ι' m.next=some ⟨b,o,cur.size⟩/\m'.get m.next=some (.cells false c)/\aM m' m.next:=by
 obtain ⟨ι',h⟩:=h.addE hb hn hc
 exact ⟨ι',_,h⟩
theorem Ro.nil (P:Program) (W:World) (hw:NG<=W.heap.size):Ro P W ι0 G0:=⟨CN P W hw,fun i p h=>by rw[ir h];exact cH⟩
omit [Val] in
theorem we (a:Addr) (j:Nat):(a.add j).block=a.block:=by unfold Addr.add;split<;>rfl
omit [Val] in
theorem Ch (a:Addr) (j:Nat):(a.add j).off=a.off+j:=by
 unfold Addr.add;split
 ·rename_i h;subst h;rfl
 ·rfl
omit [Val] in
theorem pI (a:Addr) (m n:Nat):(a.add m).add n=a.add (m+n):=by
 unfold Addr.add
 by_cases h:n=0
 ·subst h;simp
 ·by_cases h':m=0
  ·subst h';simp
  ·simp[h,h'];omega
omit [Val] in
theorem ll {w:World} {a:Addr} {v:Value} (h:w.cell? a=some v):∃cur T fz,w.heap[a.block]? =some (.cells cur T fz)/\cur[a.off]? =some v:=by
 unfold World.cell? at h
 split at h
 ·rename_i cur T fz hb
  refine ⟨cur,T,fz,hb, ?_⟩
  split at h
  ·cases h
  ·exact h
 ·cases h
theorem VRL.append {ι:aB} {a:List NV} {a':List Value} {b:List NV} {b':List Value} (h:VRL ι a a') (k:VRL ι b b'):VRL ι (a++b) (a'++b'):=by
 induction a generalizing a' with
 |nil=>cases h;exact k
 |cons v l ih=>cases h with
  |cons _ v' _ l' h hl=>exact .cons _ _ _ _ h (ih hl)
def Cs (W:World) (ι:aB) (a:Addr) (l:List NV):Prop:=∀(j:Nat) (v:NV),l[j]? =some v->∃v',W.cell? (a.add j)=some v'/\VR ι v v'/\v'.oneCell'=true
theorem Cs.mono {W:World} {ι ι':aB} (hι:ι.le ι') {a:Addr} {l:List NV} (h:Cs W ι a l):Cs W ι' a l:=fun j v hv=>let ⟨v',h1,h2,h3⟩:=h j v hv;⟨v',h1,h2.mono hι,h3⟩
theorem yL {P:Program} {W:World} {T:List TypeId} (hT:oG P T=true) (hne:∃(b:Nat) (cur:Array Value) (T:TypeId) (fz:Nat×Nat),W.heap[b]? =some (.cells cur T fz)) {H:Type} {enc:TypeId×Value->H}:∀(n:Nat) (t:TypeId),t∈T->∀(cs:List Value) (x:DataW H×List MemPlace),DataW.trod enc P W 0 (fun _=>true) true n t cs=some x->
 ∀(ι:aB) (m:NH),Ro P W ι m->∃ι' m' l,Ro P W ι' m'/\ι.le ι'/\Chg [] m m'/\VRL ι' l cs/\(∀v∈cs,v.oneCell'=true)/\Ty P m' t l:=by
 intro n
 induction n with
 |zero=>intro t _ cs x h;simp[DataW.trod] at h
 |succ n ih=>
  intro t ht cs x h ι m hR
  have hok:gU P T t=true:=List.all_eq_true.mp hT t ht
  unfold gU at hok
  split at hok
  ·rename_i hu
   obtain ⟨b,rfl,_⟩:=DataW.trod_bool hu h
   exact ⟨ι,m, [.bool b],hR,aB.le_refl ι,Chg.refl m,.cons _ _ _ _ (.bool b) .nil,by simp[Value.oneCell'],.bool hu b⟩
  ·rename_i k hu
   obtain ⟨z,rfl,_,hw⟩:=DataW.trod_int hu h
   exact ⟨ι,m, [.int k (.lit z)],hR,aB.le_refl ι,Chg.refl m,.cons _ _ _ _ (.int k z) .nil,by simp[Value.oneCell'],.int hu z hw⟩
  ·rename_i hu
   obtain ⟨s,rfl,_,hs⟩:=DataW.trod_string hu h
   refine ⟨ι,m, [.str (s.data.toList.map UInt8.toNat)],hR,aB.le_refl ι,Chg.refl m,.cons _ _ _ _ (.str _ s rfl) .nil,by simp[Value.oneCell'],.str hu _ ?_ ?_⟩
   ·intro b hb
    obtain ⟨c,_,rfl⟩:=List.mem_map.mp hb
    exact c.toNat_lt
   ·rw[List.length_map];exact hs
  ·rename_i e hu
   rw[Bool.and_eq_true,decide_eq_true_eq] at hok
   obtain ⟨he,hce⟩:=hok
   have he:e∈T:=by simpa using he
   rcases DataW.trod_slice hu h with ⟨rfl,_⟩|⟨a,len,cap,elems,rest,n',hn',rfl,_,_,hlc,hcm,hel,hE,hS,_⟩
   ·exact ⟨ι,m, [.nils],hR,aB.le_refl ι,Chg.refl m,.cons _ _ _ _ .nils .nil,by simp[Value.oneCell'],.slc hu .nils [] Sl.nil (by simp) (by simp)⟩
   ·have hn':n'=n:=by omega
    subst hn'
    obtain ⟨hrl,hS⟩:=hS rfl
    have go:∀k,k<=len->∃(ι':aB) (m':NH) (C:List (List NV)),Ro P W ι' m'/\ι.le ι'/\Chg [] m m'/\C.length=k/\(∀c∈C,Ty P m' e c/\c.length=P.cellsOf e)/\Cs W ι' a C.flatten:=by
     intro k
     induction k with
     |zero=>intro _;exact ⟨ι,m, [],hR,aB.le_refl ι,Chg.refl m,rfl,by simp,fun j v hv=>by simp at hv⟩
     |succ k ihk=>
      intro hk
      obtain ⟨ι1,m1,C,hR1,hle1,hC1,hlen,hall,hcs⟩:=ihk (by omega)
      have hEk:=hE k (by omega)
      rw[List.getElem?_eq_getElem (by omega)] at hEk
      obtain ⟨cs',h1,h2⟩:=Option.bind_eq_some_iff.mp hEk
      obtain ⟨_,hl',hcell⟩:=World.cells?_some h1
      obtain ⟨ι2,m2,l,hR2,hle2,hC2,hvr,hone,hty⟩:=ih e he cs' _ h2 ι1 m1 hR1
      have hll:=hvr.length
      have hfl:C.flatten.length=k*P.cellsOf e:=by rw[fS fun c hc=>(hall c hc).2,hlen]
      refine ⟨ι2,m2,C++ [l],hR2,hle1.trans hle2,hC1.trans hC2 (fun _ h _=>h),by simp[hlen], ?_, ?_⟩
      ·intro c hc
       rcases List.mem_append.mp hc with hc|hc
       ·exact ⟨(hall c hc).1.grew hC2,(hall c hc).2⟩
       ·simp at hc;subst hc;exact ⟨hty,by omega⟩
      ·intro j v hv
       rw[List.flatten_append] at hv
       by_cases hj:j<C.flatten.length
       ·rw[List.getElem?_append_left hj] at hv
        exact (hcs.mono hle2) j v hv
       ·rw[List.getElem?_append_right (by omega)] at hv
        simp only[List.flatten_cons,List.flatten_nil,List.append_nil] at hv
        obtain ⟨v',h3,h4⟩:=hvr.get hv
        have hjl:j - C.flatten.length<cs'.length:=by
         rcases Nat.lt_or_ge (j - C.flatten.length) cs'.length with q|q
         ·exact q
         ·rw[List.getElem?_eq_none q] at h3;cases h3
        refine ⟨v', ?_,h4,hone v' (List.mem_of_getElem? h3)⟩
        have:=hcell (j - C.flatten.length) (by omega)
        rw[h3] at this
        rw[←this]
        rw[pI]
        congr 2
        omega
    obtain ⟨ι1,m1,C,hR1,hle1,hC1,hlen,hall,hcs⟩:=go len (Nat.le_refl _)
    have hfl:C.flatten.length=len*P.cellsOf e:=by rw[fS fun c hc=>(hall c hc).2,hlen]
    have hend:∀(b o:Nat) (cur:Array Value) (T':TypeId) (fz:Nat×Nat) (c:List NV),W.heap[b]? =some (.cells cur T' fz)->o+c.length<=cur.size->(∀i v,c[i]? =some v->∃v',cur[o+i]? =some v'/\VR ι1 v v'/\v'.oneCell'=true)->
     (0<cap->a=⟨b,o,none⟩/\o+cap*P.cellsOf e<=cur.size)->c=C.flatten->
     ∃ι' m' l,Ro P W ι' m'/\ι.le ι'/\Chg [] m m'/\VRL ι' l [.slice (some a) len cap]/\(∀v∈ [Value.slice (some a) len cap],v.oneCell'=true)/\Ty P m' t l:=by
     rintro b o cur T' fz c hb hoc hcc ha rfl
     obtain ⟨ι2,m2,hR2,hle2,hC2,hi2,hg2,ho2⟩:=hR1.add hb hoc hcc
     refine ⟨ι2,m2, [.slc m1.next 0 len (P.cellsOf e) 0],hR2,hle1.trans hle2,hC1.trans hC2 (fun _ h _=>h),.cons _ _ _ _ (.slc _ _ _ _ _ _ a cap hi2 hlc (Nat.zero_le _) hcm hce fun hc=> ?_) .nil,by simp[Value.oneCell'], ?_⟩
     ·obtain ⟨h1,h2⟩:=ha hc
      exact ⟨h1,by simpa using h2⟩
     ·refine .slc hu _ C ⟨fun c hc=>(hall c hc).2,Or.inr ⟨m1.next,0,0,false,_,by rw[hlen],hg2,ho2, ?_, ?_⟩⟩ (by rw[hlen];omega) fun c hc=>((hall c hc).1).grew hC2
      ·rw[hfl,hlen];omega
      ·rw[List.drop_zero,hlen,←hfl,List.take_length]
    by_cases hcap:cap=0
    ·have hl0:len=0:=by omega
     have hC0:C= []:=List.length_eq_zero_iff.mp (by omega)
     subst hC0
     obtain ⟨b,cur,T',fz,hb⟩:=hne
     exact hend b 0 cur T' fz [] hb (by simp) (fun i v hv=>by simp at hv) (fun h=>by omega) rfl
    ·
     have cells:∀i,i<cap->∃cs',W.cells? 0 (a.add (i*P.cellsOf e)) (P.cellsOf e)=some cs':=by
      intro i hi
      rcases Nat.lt_or_ge i len with h|h
      ·have:=hE i h
       rw[List.getElem?_eq_getElem (by omega)] at this
       obtain ⟨cs',h1,_⟩:=Option.bind_eq_some_iff.mp this
       exact ⟨cs',h1⟩
      ·have:=hS (i - len) (by omega)
       rw[List.getElem?_eq_getElem (by omega),show len+(i - len)=i by omega] at this
       obtain ⟨cs',h1,_⟩:=Option.bind_eq_some_iff.mp this
       exact ⟨cs',h1⟩
     obtain ⟨cs0,h0⟩:=cells 0 (by omega)
     obtain ⟨_,hl0,hc0⟩:=World.cells?_some h0
     have hv0:=hc0 0 hce
     rw[List.getElem?_eq_getElem (by omega)] at hv0
     have hsp:=World.cell?_spot hv0
     obtain ⟨cur,T',fz,hb,_⟩:=ll hv0
     have hab:(a.add (0*P.cellsOf e)).add 0=a:=by rw[pI];simp[Addr.add]
     rw[hab] at hsp hb
     have hin:∀j v',W.cell? (a.add j)=some v'->cur[a.off+j]? =some v':=by
      intro j v' h
      obtain ⟨cur',T2,fz2,hb',hc'⟩:=ll h
      rw[we] at hb'
      rw[Ch] at hc'
      rw[hb] at hb'
      injection hb' with hb'
      injection hb' with hb' _ _
      subst hb'
      exact hc'
     obtain ⟨cs1,h1⟩:=cells (cap - 1) (by omega)
     obtain ⟨_,hl1,hc1⟩:=World.cells?_some h1
     have hv1:=hc1 (P.cellsOf e - 1) (by omega)
     rw[List.getElem?_eq_getElem (by omega)] at hv1
     have hmul:(cap - 1)*P.cellsOf e+P.cellsOf e=cap*P.cellsOf e:=by
      rw[←Nat.succ_mul];congr 1;omega
     have hlast:cur[a.off+(cap*P.cellsOf e - 1)]? =some cs1[P.cellsOf e - 1]:=by
      refine hin (cap*P.cellsOf e - 1) _ ?_
      rw[←hv1]
      rw[pI]
      congr 2
      omega
     have hsz:a.off+(cap*P.cellsOf e - 1)<cur.size:=(Array.getElem?_eq_some_iff.mp hlast).1
     have hcapp:0<cap*P.cellsOf e:=Nat.mul_pos (by omega) hce
     have hlm:len*P.cellsOf e<=cap*P.cellsOf e:=Nat.mul_le_mul_right _ hlc
     refine hend a.block a.off cur T' fz C.flatten hb (by omega) (fun i v hv=> ?_) (fun _=>⟨by cases a;simp at hsp;simp[hsp],by omega⟩) rfl
     obtain ⟨v',q1,q2,q3⟩:=hcs i v hv
     exact ⟨v',hin i v' q1,q2,q3⟩
  ·rename_i fs hu
   rw[Bool.and_eq_true] at hok
   obtain ⟨hft,htl⟩:=hok
   obtain ⟨xs,n',hn',_,hcl,hxl,hF⟩:=DataW.trod_struct hu h
   have hn':n'=n:=by omega
   subst hn'
   have go:∀(fl:List Field) (o:Nat) (ys:List (DataW H×List MemPlace)),(∀f∈fl,f.type∈T)->lX P fl o (P.cellsOf t)=true->o<=cs.length->(∀(i:Nat) (f:Field),fl[i]? =some f->∃y,DataW.trod enc P W 0 (fun _=>true) true n' f.type ((cs.drop f.offset).take (P.cellsOf f.type))=some y)->
    ∀(ι:aB) (m:NH),Ro P W ι m->∃ι' m' l,Ro P W ι' m'/\ι.le ι'/\Chg [] m m'/\VRL ι' l (cs.drop o)/\(∀v∈cs.drop o,v.oneCell'=true)/\TyL P m' (fl.map (·.type)) l:=by
    intro fl
    induction fl with
    |nil=>
     intro o ys _ htl _ _ ι m hR
     have ho:o=cs.length:=by rw[hcl];exact of_decide_eq_true htl
     subst ho
     rw[List.drop_length]
     exact ⟨ι,m, [],hR,aB.le_refl ι,Chg.refl m,.nil,by simp,.nil⟩
    |cons f fl ihf=>
     intro o ys hfT htl ho hF ι m hR
     have htl:((f.offset==o)&&lX P fl (o+P.cellsOf f.type) (P.cellsOf t))=true:=htl
     rw[Bool.and_eq_true,beq_iff_eq] at htl
     obtain ⟨rfl,htl⟩:=htl
     obtain ⟨y,hy⟩:=hF 0 f rfl
     obtain ⟨ι1,m1,l1,hR1,hle1,hC1,hvr1,hone1,hty1⟩:=ih f.type (hfT f (List.mem_cons_self ..)) _ y hy ι m hR
     have hle:f.offset+P.cellsOf f.type<=cs.length:=by
      have:∀(fl:List Field) (o:Nat),lX P fl o (P.cellsOf t)=true->o<=P.cellsOf t:=by
       intro fl
       induction fl with
       |nil=>intro o h;exact Nat.le_of_eq (of_decide_eq_true h)
       |cons g fl ih=>
        intro o h
        have h:((g.offset==o)&&lX P fl (o+P.cellsOf g.type) (P.cellsOf t))=true:=h
        rw[Bool.and_eq_true] at h
        have:=ih _ h.2
        omega
      have:=this fl _ htl
      omega
     obtain ⟨ι2,m2,l2,hR2,hle2,hC2,hvr2,hone2,hty2⟩:=ihf (f.offset+P.cellsOf f.type) [] (fun g hg=>hfT g (List.mem_cons_of_mem _ hg)) htl hle (fun i g hg=>hF (i+1) g (by simpa using hg)) ι1 m1 hR1
     have hsplit:cs.drop f.offset=(cs.drop f.offset).take (P.cellsOf f.type)++cs.drop (f.offset+P.cellsOf f.type):=by
      rw[←List.drop_drop,List.take_append_drop]
     refine ⟨ι2,m2,l1++l2,hR2,hle1.trans hle2,hC1.trans hC2 (fun _ h _=>h), ?_, ?_,.cons l1 l2 (hty1.grew hC2) hty2⟩
     ·rw[hsplit];exact VRL.append (hvr1.mono hle2) hvr2
     ·rw[hsplit];intro v hv
      rcases List.mem_append.mp hv with hv|hv
      ·exact hone1 v hv
      ·exact hone2 v hv
   obtain ⟨ι',m',l,h1,h2,h3,h4,h5,h6⟩:=go fs.toList 0 [] (fun f hf=>by simpa using List.all_eq_true.mp hft f hf) htl (Nat.zero_le _) (fun i f hf=>by
    have hi:i<xs.length:=by
     rcases Nat.lt_or_ge i fs.toList.length with q|q
     ·rw[hxl];simpa using q
     ·rw[List.getElem?_eq_none q] at hf;cases hf
    exact ⟨xs[i],by rw[hF i f (by simpa using hf),List.getElem?_eq_getElem hi]⟩) ι m hR
   rw[List.drop_zero] at h4 h5
   exact ⟨ι',m',l,h1,h2,h3,h4,h5,.struct hu l h6⟩
  ·cases hok
inductive TyA (P:Program) (m:NH):List TypeId->List NV->Prop
 |nil:TyA P m [] []
 |one {t:TypeId} {ts:List TypeId} {l:List NV} (x:NV) (hn:∀fs,P.underlying t≠some (.struct fs)) (h:Ty P m t [x]) (hl:TyA P m ts l):TyA P m (t::ts) (x::l)
 |agg {t:TypeId} {ts:List TypeId} {l:List NV} {fs:Array Field} (c:List NV) (ht:P.underlying t=some (.struct fs)) (h:Ty P m t c) (hl:TyA P m ts l):TyA P m (t::ts) (.agg c::l)
omit [Val] in
theorem TyA.grew {P:Program} {m m':NH} (hC:Chg [] m m'):∀{ts:List TypeId} {l:List NV},TyA P m ts l->TyA P m' ts l
 |_,_,.nil=> .nil
 |_,_,.one x hn h hl=> .one x hn (h.grew hC) (TyA.grew hC hl)
 |_,_,.agg c ht h hl=> .agg c ht (h.grew hC) (TyA.grew hC hl)
omit [Val] in
theorem tP {P:Program} {W:World} {base:Nat} {t:TypeId} {v:Value} (hok:∀fs,P.underlying t≠some (.struct fs)) (h:Value.okWide P W .any base t v) (ht:gU P [] t=true∨∃e,P.underlying t=some (.slice e)):v.cells=#[v]:=by
 unfold Value.okWide at h
 rcases ht with ht|⟨e,hu⟩
 ·unfold gU at ht
  split at ht
  ·rename_i hu;rw[hu] at h;unfold Cell.okWide Cell.ok at h;rw[hu] at h;dsimp only at h;cases v<;>first|rfl|exact h.elim
  ·rename_i hu;rw[hu] at h;unfold Cell.okWide Cell.ok at h;rw[hu] at h;dsimp only at h;cases v<;>first|rfl|exact h.elim
  ·rename_i hu;rw[hu] at h;unfold Cell.okWide Cell.ok at h;rw[hu] at h;dsimp only at h;cases v<;>first|rfl|exact h.elim
  ·rename_i e hu;rw[hu] at h;unfold Cell.okWide Cell.ok at h;rw[hu] at h;dsimp only at h;cases v<;>first|rfl|exact h.elim
  ·rename_i fs hu;exact Gh hu (hok fs)
  ·cases ht
 ·rw[hu] at h;unfold Cell.okWide Cell.ok at h;rw[hu] at h;dsimp only at h;cases v<;>first|rfl|exact h.elim
theorem uf {P:Program} {W:World} {T:List TypeId} (hT:oG P T=true) (hne:∃(b:Nat) (cur:Array Value) (T:TypeId) (fz:Nat×Nat),W.heap[b]? =some (.cells cur T fz)) {base:Nat} {H:Type} {enc:TypeId×Value->H}:
 ∀(ts:List TypeId) (args:List Value) (ds:List (DataW H)) (ps:List MemPlace),(∀t∈ts,t∈T)->DataW.TrodAll enc P W 0 (fun _=>true) true ts args ds ps->(∀(j:Nat) t v,ts[j]? =some t->args[j]? =some v->Value.okWide P W .any base t v)->
 ∀(ι:aB) (m:NH),Ro P W ι m->∃ι' m' l,Ro P W ι' m'/\ι.le ι'/\Chg [] m m'/\VRL ι' l args/\TyA P m' ts l:=by
 intro ts
 induction ts with
 |nil=>
  intro args ds ps _ h _ ι m hR
  cases args with
  |nil=>exact ⟨ι,m, [],hR,aB.le_refl ι,Chg.refl m,.nil,.nil⟩
  |cons=>cases h
 |cons t ts ih=>
  intro args ds ps hts h hval ι m hR
  cases args with
  |nil=>cases h
  |cons v args=>
   cases ds with
   |nil=>cases h
   |cons d ds=>
    obtain ⟨p,q,⟨n,hd⟩,hr,_⟩:=h
    obtain ⟨ι1,m1,c,hR1,hle1,hC1,hv1,hone1,hty1⟩:=yL hT hne n t (hts t (List.mem_cons_self ..)) _ _ hd ι m hR
    obtain ⟨ι2,m2,l,hR2,hle2,hC2,hv2,hty2⟩:=ih args ds q (fun t ht=>hts t (List.mem_cons_of_mem _ ht)) hr (fun j t v h1 h2=>hval (j+1) t v (by simpa using h1) (by simpa using h2)) ι1 m1 hR1
    have hv:=hval 0 t v rfl rfl
    have hok:gU P T t=true:=List.all_eq_true.mp hT t (hts t (List.mem_cons_self ..))
    have hC:=hC1.trans hC2 (fun _ h _=>h)
    by_cases hst:∃fs,P.underlying t=some (.struct fs)
    ·obtain ⟨fs,hu⟩:=hst
     have hv':=hv
     unfold Value.okWide at hv'
     rw[hu] at hv'
     obtain ⟨cs,rfl,_,_⟩:=hv'
     refine ⟨ι2,m2,.agg c::l,hR2,hle1.trans hle2,hC,.cons _ _ _ _ ?_ hv2,.agg c hu (hty1.grew hC2) hty2⟩
     have:=VR.agg (ι:=ι2) c cs.toList (hv1.mono hle2) hone1
     simpa using this
    ·have hn:∀fs,P.underlying t≠some (.struct fs):=fun fs q=>hst ⟨fs,q⟩
     have hc:v.cells=#[v]:=by
      refine tP hn hv ?_
      unfold gU at hok ⊢
      split at hok
      ·rename_i hu;exact Or.inl rfl
      ·rename_i hu;exact Or.inl rfl
      ·rename_i hu;exact Or.inl rfl
      ·rename_i e hu;exact Or.inr ⟨e,hu⟩
      ·rename_i fs hu;exact Gh hu (hn fs)
      ·cases hok
     rw[hc] at hv1
     cases hv1 with
     |cons x _ xl _ hx hxl=>
      cases hxl
      exact ⟨ι2,m2,x::l,hR2,hle1.trans hle2,hC,.cons _ _ _ _ (hx.mono hle2) hv2,.one x hn (hty1.grew hC2) hty2⟩
theorem qa {P:Program} (hM:P.follows .mixedOrders=true) (hP:P.check= .ok ()) {S:bA} (hS:dR P S) {T:List TypeId} (hT:oG P T=true) {f:Nat} {nf:NFun} (hf:an P f=some (.code nf)) (hs:∀l,S f l=fun _=>none) {ts:List TypeId} (hts:∀t∈ts,t∈T)
 {m0:NH} (law:∀(m:NH) (l:List NV),Chg [] m0 m->TyA P m ts l->∃m',dV P S f l m (.bool true) m') {W:World} {ι0:aB} (h0:Ro P W ι0 m0) (hne:∃(b:Nat) (cur:Array Value) (T:TypeId) (fz:Nat×Nat),W.heap[b]? =some (.cells cur T fz)) {base:Nat} {H:Type} {enc:TypeId×Value->H} {args:List Value} {ds:List (DataW H)} {ps:List MemPlace}
 (h:DataW.TrodAll enc P W 0 (fun _=>true) true ts args ds ps) (hval:∀(j:Nat) t v,ts[j]? =some t->args[j]? =some v->Value.okWide P W .any base t v):
 Calls P f args.toArray W fun e W'=>e= .returned (.bool true)/\Below W.heap.size W W':=by
 obtain ⟨ι,m,l,hR,_,hC,hv,hty⟩:=uf hT hne ts args ds ps hts h hval ι0 m0 h0
 obtain ⟨m',c,hc⟩:=law m l hC hty
 refine (uF hM hP hS hf (hs l) hc hR.1 hR.2 hv).mono ?_
 rintro e W' ⟨⟨ι',v',rfl,h1,_,_⟩,hb⟩
 cases h1
 exact ⟨rfl,hb⟩
theorem tK {P:Program} (hM:P.follows .mixedOrders=true) (hP:P.check= .ok ()) {S:bA} (hS:dR P S) {T:List TypeId} (hT:oG P T=true) {f:Nat} {nf:NFun} (hf:an P f=some (.code nf)) (hs:∀l,S f l=fun _=>none) {ts:List TypeId} (hts:∀t∈ts,t∈T)
 (law:∀(m:NH) (l:List NV),TyA P m ts l->∃m',dV P S f l m (.bool true) m') {W:World} (hw:NG<=W.heap.size) (hne:∃(b:Nat) (cur:Array Value) (T:TypeId) (fz:Nat×Nat),W.heap[b]? =some (.cells cur T fz)) {base:Nat} {H:Type} {enc:TypeId×Value->H} {args:List Value} {ds:List (DataW H)} {ps:List MemPlace}
 (h:DataW.TrodAll enc P W 0 (fun _=>true) true ts args ds ps) (hval:∀(j:Nat) t v,ts[j]? =some t->args[j]? =some v->Value.okWide P W .any base t v):
 Calls P f args.toArray W fun e W'=>e= .returned (.bool true)/\Below W.heap.size W W':=
 qa hM hP hS hT hf hs hts (fun m l _ hl=>law m l hl) (Ro.nil P W hw) hne h hval
omit [Val] in
theorem trodAll_stays {P:Program} (hl:laidOutB P=true) {W W':World} (hb:Below W.heap.size W W') {H:Type} {enc:TypeId×Value->H} {sp:Nat->Bool}:∀(ts:List TypeId) (args:List Value) (ds:List (DataW H)) (ps:List MemPlace),(∀t∈ts,P.readableRec t=true/\t<P.types.size)->
 DataW.TrodAll enc P W 0 (fun _=>true) true ts args ds ps->(∀p∈ps,p.block<W.heap.size)->(∀p∈ps,sp p.block=true)->DataW.TrodAll enc P W' 0 sp true ts args ds ps:=by
 intro ts
 induction ts with
 |nil=>
  intro args ds ps _ h _ _
  cases args with
  |nil=>cases ds with
   |nil=>exact h
   |cons=>cases h
  |cons=>cases h
 |cons t ts ih=>
  intro args ds ps hr h hlt hsp
  cases args with
  |nil=>cases h
  |cons v args=>
   cases ds with
   |nil=>cases h
   |cons d ds=>
    obtain ⟨p,q,hd,hq,rfl⟩:=h
    exact ⟨p,q,WideElems.Trod_stays hl (hr t (List.mem_cons_self ..)).1 (hr t (List.mem_cons_self ..)).2 hd (fun x hx=>hb.same (hlt x (List.mem_append_left _ hx))) (fun x hx=>hsp x (List.mem_append_left _ hx)),
     ih args ds q (fun t ht=>hr t (List.mem_cons_of_mem _ ht)) hq (fun x hx=>hlt x (List.mem_append_right _ hx)) (fun x hx=>hsp x (List.mem_append_right _ hx)),rfl⟩
omit [Val] in
theorem Ty.inv_int {P:Program} {m:NH} {t:TypeId} {k:IntKind} {l:List NV} (hu:P.underlying t=some (.int k)) (h:Ty P m t l):∃n,l= [.int k (.lit n)]/\(Lit.int k n).wf=true:=by
 cases h with
 |bool ht=>rw[hu] at ht;cases ht
 |int ht n h=>rw[hu] at ht;injection ht with ht;injection ht with ht;subst ht;exact ⟨n,rfl,h⟩
 |str ht=>rw[hu] at ht;cases ht
 |slc ht=>rw[hu] at ht;cases ht
 |struct ht=>rw[hu] at ht;cases ht
omit [Val] in
theorem Ty.inv_slc {P:Program} {m:NH} {t e:TypeId} {l:List NV} (hu:P.underlying t=some (.slice e)) (h:Ty P m t l):∃v C,l= [v]/\Sl m v (P.cellsOf e) C/\C.length<=maxLen/\∀c∈C,Ty P m e c:=by
 cases h with
 |bool ht=>rw[hu] at ht;cases ht
 |int ht=>rw[hu] at ht;cases ht
 |str ht=>rw[hu] at ht;cases ht
 |slc ht v C hS hl h=>rw[hu] at ht;injection ht with ht;injection ht with ht;subst ht;exact ⟨v,C,rfl,hS,hl,h⟩
 |struct ht=>rw[hu] at ht;cases ht
omit [Val] in
theorem TyL.inv0 {P:Program} {m:NH} {l:List NV} (h:TyL P m [] l):l= []:=by cases h;rfl
omit [Val] in
theorem TyA.inv1 {P:Program} {m:NH} {t:TypeId} {ts:List TypeId} {l:List NV} (hn:∀fs,P.underlying t≠some (.struct fs)) (h:TyA P m (t::ts) l):∃x r,l=x::r/\Ty P m t [x]/\TyA P m ts r:=by
 cases h with
 |one x _ h hl=>exact ⟨x,_,rfl,h,hl⟩
 |agg c ht=>exact Gh ht (hn _)
omit [Val] in
theorem TyA.inv0 {P:Program} {m:NH} {l:List NV} (h:TyA P m [] l):l= []:=by cases h;rfl
omit [Val] in
theorem pq {α β:Type} {f:α->β}:∀{C:List β},(∀c∈C,∃a,c=f a)->∃l:List α,C=l.map f:=by
 intro C
 induction C with
 |nil=>intro _;exact ⟨[],rfl⟩
 |cons c C ih=>
  intro h
  obtain ⟨a,rfl⟩:=h c (List.mem_cons_self ..)
  obtain ⟨l,rfl⟩:=ih fun x hx=>h x (List.mem_cons_of_mem _ hx)
  exact ⟨a::l,rfl⟩
omit [Val] in
theorem dV.kept {P:Program} {S:bA} {f:Nat} {args:List NV} {v:NV} (h:S f args=fun h=>some (v,h)) (m:NH):dV P S f args m v m:=by
 refine ⟨none,by simp,0, ?_⟩
 unfold bh;rw[h]
omit [Val] in
theorem dV.keptM {P:Program} {S:bA} {f:Nat} {args:List NV} {v:NV} {m m':NH} (h:S f args m=some (v,m')):dV P S f args m v m':=by
 refine ⟨none,by simp,0, ?_⟩
 unfold bh;rw[h]
omit [Val] in
theorem trodAll_len {P:Program} {W:World} {base:Nat} {sp:Nat->Bool} {hd:Bool} {H:Type} {enc:TypeId×Value->H}:∀{ts:List TypeId} {vs:List Value} {ds:List (DataW H)} {ps:List MemPlace},DataW.TrodAll enc P W base sp hd ts vs ds ps->ds.length=ts.length:=by
 intro ts
 induction ts with
 |nil=>intro vs ds ps h;cases vs<;>cases ds<;>first|rfl|cases h
 |cons t ts ih=>
  intro vs ds ps h
  cases vs with
  |nil=>cases h
  |cons v vs=>cases ds with
   |nil=>cases h
   |cons d ds=>obtain ⟨_,_,_,h,_⟩:=h;simp[ih h]
def F2 (o:Option Obj):Bool:=match o with|some (.cells _ _ _)=>true|_=>false
omit [Val] in
theorem o8 {P:Program} (h:F2 ((begin P (fun _ _=>0) default).world.heap[P.globals.size]?)=true) {W:World} (hs:W.ShapedOpen P):∃(b:Nat) (cur:Array Value) (T:TypeId) (fz:Nat×Nat),W.heap[b]? =some (.cells cur T fz):=by
 cases ho:(begin P (fun _ _=>0) default).world.heap[P.globals.size]? with
 |none=>rw[ho] at h;cases h
 |some x=>
  rw[ho] at h
  have hlt:P.globals.size<(begin P (fun _ _=>0) default).world.heap.size:=(Array.getElem?_eq_some_iff.mp ho).1
  obtain ⟨o,o0,h1,h2,h3⟩:=hs.2 _ (Nat.le_refl _) hlt
  rw[Nat.sub_self,Gi (by decide)] at h3
  rw[ho] at h2
  injection h2 with h2
  subst h2 h3
  cases o with
  |cells cur T fz=>exact ⟨_,cur,T,fz,h1⟩
  |_=>cases h
end
end Nm
namespace Nm
open Go Go.RowKit
attribute [go_sem] A0 DC AV EB CE BW zh DQ B8 BM Aj BZ AX zM xj yk E8 Eu Du
attribute [go_sem] EY Ew Em BK CF Cv By B0 xr EH xC xN FF ET wq Fx EV
attribute [go_sem] BE vK xI uG BN xo Cf DF zj A6 B9 zc zu uV xg va w5 wa ze
attribute [go_sem] zE Af vA yp yB Bool.and_true Bool.true_and CS CV zx xU A7 E0 Fl E6 E5 Fj
attribute [go_sem] FR FI Ff Fz Fi EU Fk FJ FD Fo FV FM Fm Fd FQ FT FN FB FU Fe
attribute [go_sem] E7 E9 FX AF Ei FY Ed CZ DH C0 En tg AP Ck ED An xW
attribute [go_sem] AH wL FZ Dq yX zl Fa vI yu Be
attribute [go_sem] Bb yb
attribute [go_sem] DE DA B3 CH AY D6 Fs CI
attribute [go_sem] D8 Dj C5 Ez CA CQ w6 Ek Dk Bt AW FG EG D7
attribute [go_sem] zA za z6 FC Es Fg CO Fc Db A8 Nat.sub_self Nat.sub_zero CB Ej BF DU
attribute [go_sem] BR zI El EF xH AB yh C8 B5 C1 B6 B7 AG
attribute [go_sem] E3 wT BX AA m7 nG Bo lv wU vp oH kJ oD Ci Dw Cw
attribute [go_sem] CY DV DG pk Bool.not_true Bool.not_false BP BS Int.toNat_natCast Int.toNat_zero Int.toNat_one
attribute [go_sem] List.getElem?_cons_zero List.getElem?_cons_succ List.length_cons List.length_nil List.set_cons_zero List.set_cons_succ List.take_zero List.drop_zero List.take_succ_cons List.drop_succ_cons List.take_nil List.drop_nil List.nil_append List.cons_append List.append_nil Nat.zero_add Nat.zero_mul Nat.testBit cond_true cond_false
attribute [go_sem] NT.get_leaf BU yE aj beq_self_eq_true decide_true decide_false if_true if_false ite_true ite_false eq_self true_and and_true true_implies
noncomputable def cd:=And.intro (@List.length_set.{0})<|And.intro (@List.length_cons.{0})<|And.intro (@List.length_nil.{0})<|And.intro (@List.length_append.{0})<|And.intro (@List.length_map.{0,0})<|@List.length_replicate.{0}
namespace C
abbrev t (a:D4):NOpd:= .tmp a
abbrev k (z:Int):NOpd:= .const (.int .i64 (.lit z))
abbrev ku (z:Int):NOpd:= .const (.int .u64 (.lit z))
abbrev kt:NOpd:= .const (.bool true)
abbrev kf:NOpd:= .const (.bool false)
abbrev kn:NOpd:= .const .nils
abbrev F (n:Nat):NOpd:= .const (.fn n [])
abbrev o (d:D4) (p:NOp) (i:Nat):NOper:=⟨some d,p,none,0,i⟩
abbrev O (d:D4) (p:NOp) (q i:Nat):NOper:=⟨some d,p,none,q,i⟩
abbrev G (d:D4) (p:NOp) (g:D4) (b:Bool) (i:Nat):NOper:=⟨some d,p,some (g,b),0,i⟩
abbrev m (d s:D4) (i:Nat):NOper:=⟨some d,.move (.tmp s),none,0,i⟩
abbrev f (n:Nat) (d s:D4) (i:Nat):NOper:=⟨some d,.fieldAddr n (.tmp s),none,0,i⟩
abbrev l (d s:D4) (i:Nat):NOper:=⟨some d,.load1 (.tmp s),none,0,i⟩
abbrev L (d s:D4) (i:Nat):NOper:=⟨some d,.lenSlc (.tmp s),none,0,i⟩
abbrev n (d s:D4) (i:Nat):NOper:=⟨some d,.nilCheck (.tmp s),none,0,i⟩
abbrev x (d s:D4) (j i:Nat):NOper:=⟨some d,.extract (.tmp s) j,none,0,i⟩
abbrev q (p:NOp) (i:Nat):NOper:=⟨none,p,none,0,i⟩
abbrev b (d:D4) (p:BinOp) (a c:NOpd) (i:Nat):NOper:=⟨some d,.bin .num p a c,none,0,i⟩
end C
end Nm
namespace Nm
open Go Go.RowKit
section
variable {t:Tm} {m:NH}
noncomputable def wd (s:Bool) (id:D4) (k:NV) (m:NH) (o:Option NO):NR:=match o with|some (.map l)=>aI (kP s k l) fun l=> .mem ax (m.put id (.map l))|_=> .fail
noncomputable def DZ (s:Bool) (m:NH) (x k:NV):NR:=match x with| .nilm=> .val ax| .map id=>wd s id k m (m.get id)|_=> .fail
theorem Ep {s:Bool} {x i:NOpd}:ae (.delete s x i) t m=oN (ρ t x) fun x=>oN (ρ t i) fun k=>DZ s m x k:=by
 show wV t x (fun m'=>wV t i fun k=>match m' with
  | .nilm=> .val ax
  | .map id=>gs m (.map id) fun l=>aI (kP s k l) fun l=>m.set id (.map l) fun h=> .mem ax h
  |_=> .fail)=_
 simp only[b0]
 cases ρ t x with
 |none=>rfl
 |some a=>
  cases ρ t i with
  |none=>rfl
  |some k=>
   cases a<;>first|rfl|skip
   rename_i id
   show (match m.get id with|some (.map l)=>aI (kP s k l) (fun l=>m.set id (.map l) fun h=> .mem ax h)|_=> .fail)=wd s id k m (m.get id)
   cases m.get id with
   |none=>rfl
   |some o=>
    cases o<;>first|rfl|skip
    dsimp only[wd]
    congr 1;funext l;rw[NH.set_eq]
theorem C3 {s:Bool} {k:NV} {id:D4}:DZ s m (.map id) k=wd s id k m (m.get id):=_root_.id rfl
end
end Nm
namespace Nm
open Go Go.RowKit
section
variable {t:Tm} {m:NH}
end
end Nm
namespace Nm
open Go Go.RowKit
noncomputable def uC (f:Nat) (F:List NV->NH->Option (NV×NH)) (S:bA):bA:=fun g=>cond (Nat.beq g f) F (S g)
section
variable [Val]
def ei (P:Program) (f:Nat) (F:List NV->NH->Option (NV×NH)):Prop:=
 ∀(ι:aB) (B:Nat) (h:NH) (w:World) (args:List NV) (args':List Value) (v:NV) (h':NH),F args h=some (v,h')->Rel P ι B h w->B<=w.heap.size->VRL ι args args'->
  mi P ι B h w ((callFunc f args'.toArray).run P w) (.val v none h')
theorem mu {P:Program} {S:bA} {f:Nat} {F:List NV->NH->Option (NV×NH)} (hS:dR P S) (hF:ei P f F):dR P (uC f F S):=by
 intro ι B h w g args args' v h' hg hR hB hl
 unfold uC at hg
 cases hb:Nat.beq g f with
 |true=>
  rw[hb] at hg
  obtain rfl:=Gm hb
  exact hF ι B h w args args' v h' hg hR hB hl
 |false=>
  rw[hb] at hg
  exact hS ι B h w g args args' v h' hg hR hB hl
theorem ei.of {P:Program} {f:Nat} {F:List NV->NH->Option (NV×NH)} (hen:∀args w,(callFunc f args).run P w= .ok (.enter f args) w)
 (H:∀(ι:aB) (B:Nat) (h:NH) (w:World) (args:List NV) (args':List Value) (v:NV) (h':NH),F args h=some (v,h')->Rel P ι B h w->B<=w.heap.size->VRL ι args args'->
  Calls P f args'.toArray w fun e w'=>∃ι' v',e= .returned v'/\VR ι' v v'/\Rel P ι' B h' w'/\B<=w'.heap.size/\Grow ι h w ι' h' w'):ei P f F:=by
 intro ι B h w args args' v h' hF hR hB hl c0 cs
 obtain ⟨e,w',fr,⟨ι',v',he,hv,hR',hB',hG⟩,hcomes,hfn,hleave⟩:=H ι B h w args args' v h' hF hR hB hl (c0::cs)
 subst he
 exact ⟨ι',v',w',hv,hR',hB',hG,.inr ⟨w,.inl ⟨f,args'.toArray,hen _ w,Steps.trans hcomes (.one (step_leave_returned hleave))⟩⟩⟩
theorem Rel.below {P:Program} {ι:aB} {B:Nat} {h:NH} {w w':World} (hR:Rel P ι B h w) (hb:Below w.heap.size w w'):Rel P ι B h w':=
 ⟨fun i p hi=>by
  obtain ⟨o,o1,o2⟩:=hR.obj i p hi
  exact ⟨o,o1,o2.mono (aB.le_refl _) (hb.block _ (hR.lt i p hi))⟩,hR.inj,hR.base,fun i p hi=>Nat.lt_of_lt_of_le (hR.lt i p hi) hb.size,hR.fresh,hR.gl⟩
omit [Val] in
theorem Grow.below {ι:aB} {h:NH} {w w':World} (hb:Below w.heap.size w w'):Grow ι h w ι h w':=
 ⟨aB.le_refl _,Nat.le_refl _,fun _ _ x=> .inl x,fun i p x y=> .inr ⟨i,p,x,y,rfl⟩,fun _ _ _=>rfl,hb.size,hb.os,hb.tape,hb.output,fun b hb' _=>hb.block b hb'⟩
theorem Rel.madeC {P:Program} {ι:aB} {B:Nat} {h:NH} {w w':World} (hR:Rel P ι B h w) (hb:Below w.heap.size w w') {N:Nat} (hN:w.heap.size<=N) {cur:Array Value} {T:TypeId} {fz:Nat×Nat} (hc:w'.heap[N]? =some (.cells cur T fz)) {o:Nat} {c:List NV} (hlen:o+c.length<=cur.size) (hcs:∀(ι2:aB) (i:Nat) (v:NV),c[i]? =some v->∃v',cur[o+i]? =some v'/\VR ι2 v v'/\v'.oneCell'=true):
 ∃ι',ι' h.next=some ⟨N,o,cur.size⟩/\Rel P ι' B (h.add (.cells false c)) w'/\Grow ι h w ι' (h.add (.cells false c)) w':=by
 have hR':=hR.below hb
 have hn:ι h.next=none:=by
  cases hi:ι h.next with
  |none=>rfl
  |some q=>obtain ⟨o,h1,_⟩:=hR.obj _ _ hi;exact Gh (hR.fresh _ _ h1) (Nat.lt_irrefl _)
 have hle:ι.le (ext ι h.next ⟨N,o,cur.size⟩):=fun i p hi=>by
  unfold ext
  by_cases e:i.toNat=h.next.toNat
  ·rw[D4.toNat_inj e,hn] at hi;cases hi
  ·rw[Gi e];exact hi
 have hinv:∀i p,ext ι h.next ⟨N,o,cur.size⟩ i=some p->(i=h.next/\p=⟨N,o,cur.size⟩)∨(ι i=some p/\i≠h.next):=fun i p hi=>by
  unfold ext at hi
  by_cases e:i.toNat=h.next.toNat
  ·rw[Gj e] at hi;injection hi with hi;exact Or.inl ⟨D4.toNat_inj e,hi.symm⟩
  ·rw[Gi e] at hi;exact Or.inr ⟨hi,fun q=>e (by rw[q])⟩
 have hget:∀i,i≠h.next->(h.add (.cells false c)).get i=h.get i:=fun i e=>NH.get_add_ne _ _ e
 have hnl:¬Live ((h.add (.cells false c)).get h.next):=by rw[NH.get_add_same];exact fun q=>q.2 c rfl
 refine ⟨ext ι h.next ⟨N,o,cur.size⟩,by unfold ext;rw[Gj rfl],⟨fun i p hi=> ?_,fun i j p q hi hj hij d1 d2=> ?_,fun i p hi d=> ?_,fun i p hi=> ?_,fun i o ho=> ?_,hR.gl.mono hle⟩,hle, ?_,fun i p hi=> ?_,fun i p hi d=> ?_,fun i hi hl=> ?_,hb.size,hb.os,hb.tape,hb.output,fun b hb' _=>hb.block b hb'⟩
 ·rcases hinv i p hi with ⟨rfl,rfl⟩|⟨hi,hne⟩
  ·refine ⟨_,NH.get_add_same _ _,cur,T,fz,hc,fun q=>Bool.noConfusion q,rfl,hlen,fun i v hv=>hcs _ i v hv⟩
  ·obtain ⟨o,o1,o2⟩:=hR'.obj i p hi
   exact ⟨o,by rw[hget i hne];exact o1,o2.mono hle rfl⟩
 ·rcases hinv i p hi with ⟨rfl,rfl⟩|⟨hi,hne⟩
  ·exact Gh d1 hnl
  ·rw[hget i hne] at d1
   rcases hinv j q hj with ⟨rfl,rfl⟩|⟨hj,hne'⟩
   ·have:=hR.lt i p hi;show p.b≠N;omega
   ·rw[hget j hne'] at d2
    exact hR.inj i j p q hi hj hij d1 d2
 ·rcases hinv i p hi with ⟨rfl,rfl⟩|⟨hi,hne⟩
  ·exact Gh d hnl
  ·rw[hget i hne] at d;exact hR.base i p hi d
 ·rcases hinv i p hi with ⟨rfl,rfl⟩|⟨hi,_⟩
  ·exact (Array.getElem?_eq_some_iff.1 hc).1
  ·exact hR'.lt i p hi
 ·show i.toNat<h.next.nxt.toNat
  rw[D4.toNat_nxt]
  by_cases e:i=h.next
  ·subst e;omega
  ·rw[hget i e] at ho;have:=hR.fresh i o ho;omega
 ·show h.next.toNat<=h.next.nxt.toNat
  rw[D4.toNat_nxt];omega
 ·rcases hinv i p hi with ⟨rfl,_⟩|⟨hi,_⟩
  ·exact .inr (Nat.le_refl _)
  ·exact .inl hi
 ·rcases hinv i p hi with ⟨rfl,_⟩|⟨hi,hne⟩
  ·exact Gh d hnl
  ·rw[hget i hne] at d;exact .inr ⟨i,p,hi,d,rfl⟩
 ·exact hget i fun e=>by rw[e] at hl;exact Nat.lt_irrefl _ hl
end
end Nm
namespace Nm
open Go Go.RowKit Go.Proofs Go.Shelf
noncomputable section
def mz (z:Int) (l:List Int):List Int:=List.rec [z] (fun a l ih=>cond (eT z a) (z::a::l) (a::ih)) l
def iE (l:List Int):List Int:=List.rec [] (fun a _ ih=>mz a ih) l
def kw (l:List (NV×NV)):Option (List Int):=List.rec (some []) (fun e _ ih=>match e.1 with
 | .int .i64 (.lit z)=>cond (eT (.negSucc 9223372036854775807) z) (cond (eT z (.ofNat 9223372036854775807)) (match ih with|some r=>some (z::r)|none=>none) none) none
 |_=>none) l
def me (g:Nat) (l:List NV) (h:NH):Option (NV×NH):=
 match l with
 | [.map id]=>h.new (.iter [(.map id,.tup [])] none) fun b h=>some (.fn g [.ptr b 0],h)
 |_=>none
def jD (r:List Int):List NV:=r.map fun z=> .int .i64 (.lit z)
def gg (g:Nat) (l:List NV) (h:NH):Option (NV×NH):=
 match l with
 | [.fn g' [.ptr b 0]]=>cond (Nat.beq g' g) (match h.get b with
  |some (.iter [(.map id,.tup [])] none)=>(match h.get id with
   |some (.map es)=>(match kw es with
    |some ks=>bZ es fun n=>cond (Nat.ble n 1000000) (match iE ks with
     | []=>some (.nils,h)
     |a::r=>h.new (.cells false (jD (a::r))) fun b h=>some (.slc b 0 n 1 n,h)) none
    |none=>none)
   |_=>none)
  |_=>none) none
 |_=>none
end
theorem mt (z a:Int) (l:List Int):mz z (a::l)=if z<=a then z::a::l else a::mz z l:=by
 have e:mz z (a::l)=cond (eT z a) (z::a::l) (a::mz z l):=rfl
 rw[e,a7]
 by_cases h:z<=a<;>simp[h]
theorem mo (z:Int):∀l:List Int,(mz z l).Perm (z::l):=by
 intro l
 induction l with
 |nil=>exact List.Perm.refl _
 |cons a l ih=>
  rw[mt]
  split
  ·exact List.Perm.refl _
  ·exact (List.Perm.cons a ih).trans (List.Perm.swap z a l)
theorem jZ (a:Int) (l:List Int):iE (a::l)=mz a (iE l):=rfl
theorem eu:∀l:List Int,(iE l).Perm l:=by
 intro l
 induction l with
 |nil=>exact List.Perm.refl _
 |cons a l ih=>rw[jZ];exact (mo a _).trans (List.Perm.cons a ih)
theorem nS (z:Int):∀l:List Int,l.Pairwise (·<=·)->(mz z l).Pairwise (·<=·):=by
 intro l
 induction l with
 |nil=>intro _;simp[mz]
 |cons a l ih=>
  intro h
  rw[mt]
  obtain ⟨h1,h2⟩:=List.pairwise_cons.1 h
  split
  ·rename_i hz
   refine List.pairwise_cons.2 ⟨fun x hx=> ?_,h⟩
   rcases List.mem_cons.1 hx with rfl|hx
   ·exact hz
   ·exact Int.le_trans hz (h1 x hx)
  ·rename_i hz
   refine List.pairwise_cons.2 ⟨fun x hx=> ?_,ih h2⟩
   rcases List.mem_cons.1 ((mo z l).mem_iff.1 hx) with rfl|hx
   ·omega
   ·exact h1 x hx
theorem nQ:∀l:List Int,(iE l).Pairwise (·<=·):=by
 intro l
 induction l with
 |nil=>exact List.Pairwise.nil
 |cons a l ih=>rw[jZ];exact nS a _ ih
theorem oI {l ss:List Int} (h:ss.Perm l):ss.mergeSort (fun x y=>decide (x<=y))=iE l:=by
 have tr:∀a b c:Int,decide (a<=b)=true->decide (b<=c)=true->decide (a<=c)=true:=fun a b c h1 h2=>by simp at h1 h2 ⊢;omega
 have to:∀a b:Int,(decide (a<=b)||decide (b<=a))=true:=fun a b=>by simp;omega
 refine List.Perm.eq_of_pairwise (le:=fun a b=>a<=b) (fun a b _ _ h1 h2=>Int.le_antisymm h1 h2) ((List.pairwise_mergeSort tr to ss).imp fun h=>by simpa using h) (nQ l) (((List.mergeSort_perm ss _).trans h).trans (eu l).symm)
section
variable [Val]
theorem zY {P:Program} {ρ:Ren} (L:SlLaysZI.n7 P ρ) {f g:Nat} (hf:ρ.f 7=f) (hg:ρ.f 10=g):ei P f (me g):=by
 subst hf;subst hg
 refine ei.of (L.f7.enters rfl) fun ι B h w args args' v h' hF hR hB hl=> ?_
 unfold me at hF
 split at hF
 ·rename_i id
  rw[NH.new_eq] at hF
  cases hF
  cases hl with
  |cons _ _ _ _ hx hnil=>
   cases hnil
   cases hx with
   |map _ p hp=>
    have hc:=(callsIn_wide (n:=1)).1 (AnyZI.keys_in L Fence.wide 1 trivial rfl (some p.b) w)
    obtain ⟨ι',h1,hle,h3,h4⟩:=hR.alloc hB (.iter [(.map id,.tup [])] none) (.cells #[.map (some p.b)] (ρ.t 23)) ⟨w.heap.size,0,1⟩ rfl fun ι' hle=>by
     intro x e
     cases e
     exact ⟨rfl,_,_,_,cn w _,.map id p (hle _ _ hp)⟩
    refine hc.mono ?_
    rintro e w' ⟨rfl,rfl⟩
    exact ⟨ι',_,rfl,.fn _ _ [_] (.cons _ _ _ _ (.ptr _ 0 _ h1) .nil),h3,Nat.le_trans hB h4.size,h4⟩
 ·cases hF
theorem tU {ι:aB}:∀{l:List (NV×NV)} {es:List MapEntry} {ks:List Int},kw l=some ks->MR ι l es->es.map (·.key)=ks.map (fun z=>Value.int .i64 z)/\∀z∈ks,-9223372036854775808<=z/\z<=9223372036854775807:=by
 intro l
 induction l with
 |nil=>intro es ks h hm;cases h;cases es with|nil=>exact ⟨rfl,by simp⟩|cons=>exact hm.elim
 |cons a l ih=>
  intro es ks h hm
  cases es with
  |nil=>exact hm.elim
  |cons b es=>
   obtain ⟨m1,m2,m3⟩:=hm
   have e:kw (a::l)=(match a.1 with
    | .int .i64 (.lit z)=>cond (eT (.negSucc 9223372036854775807) z) (cond (eT z (.ofNat 9223372036854775807)) (match kw l with|some r=>some (z::r)|none=>none) none) none
    |_=>none):=rfl
   rw[e] at h
   split at h
   ·rename_i z hz
    obtain ⟨c2,h⟩:=au h
    obtain ⟨c3,h⟩:=au h
    rw[a7] at c2 c3
    have h0:-9223372036854775808<=z:=of_decide_eq_true c2
    have h1:z<=9223372036854775807:=of_decide_eq_true c3
    cases hk:kw l with
    |none=>rw[hk] at h;cases h
    |some r=>
     rw[hk] at h;cases h
     obtain ⟨q1,q2⟩:=ih hk m3
     rw[hz] at m1
     refine ⟨?_,fun x hx=> ?_⟩
     ·rw[List.map_cons,List.map_cons,q1]
      cases hb:b.key<;>rw[hb] at m1<;>cases m1
      rfl
     ·rcases List.mem_cons.1 hx with rfl|hx
      ·exact ⟨h0,h1⟩
      ·exact q2 x hx
   ·cases h
theorem tM {P:Program} {ρk ρs:Ren} (LK:SlLaysZI.n10 P ρk) (LS:SlLaysZI.n6 P ρs) (hsort:∀m,AnyZI.SortsIn P ρs Fence.wide m) (e9:∀args w,(callFunc (ρs.f 9) args).run P w= .ok (.enter (ρs.f 9) args) w) {f g:Nat} (hf:ρs.f 6=f) (hg:ρk.f 10=g)
 (en:∀args w,(callFunc f args).run P w= .ok (.enter f args) w):ei P f (gg g):=by
 subst hf;subst hg
 refine ei.of en fun ι B h w args args' v h' hF hR hB hl=> ?_
 unfold gg at hF
 split at hF
 ·rename_i g' b
  have hh:=au hF
  clear hF
  obtain ⟨c1,hF⟩:=hh
  have hgg:=Gm c1
  clear c1
  subst hgg
  split at hF
  ·rename_i id hb
   split at hF
   ·rename_i es hid
    split at hF
    ·rename_i ks hks
     rw[aX] at hF
     obtain ⟨c2,hF⟩:=au hF
     have hlen:=Nat.le_of_ble_eq_true c2
     cases hl with
     |cons _ _ _ _ hx hnil=>
     cases hnil
     cases hx with
     |fn _ _ cap' hcap=>
     cases hcap with
     |cons _ _ _ _ hp0 hn0=>
     cases hn0
     cases hp0 with
     |ptr _ _ p hp=>
     obtain ⟨o,o1,o2⟩:=hR.obj _ _ hp
     rw[hb] at o1
     cases o1
     obtain ⟨z0,v0,T0,fz0,k1,k2⟩:=o2 _ rfl
     cases k2 with
     |map _ q hq=>
     obtain ⟨o',o1',o2'⟩:=hR.obj _ _ hq
     rw[hid] at o1'
     cases o1'
     obtain ⟨es',clock,m1,m2,m3⟩:=o2'
     obtain ⟨n1,n2⟩:=tU hks m2
     have hsz:es'.size<=1000000:=by have:=m2.length;simp at this;omega
     let R:Value->Option (DataW Unit×List MemPlace):=fun _=>some (.nil, [])
     have hkey:∀x∈es'.toList,∃z,z∈ks/\x.key= .int .i64 z:=fun x hx=>by
      have:x.key∈es'.toList.map (·.key):=List.mem_map_of_mem hx
      rw[n1] at this
      obtain ⟨z,hz,e⟩:=List.mem_map.1 this
      exact ⟨z,hz,e.symm⟩
     have hwf:∀z∈ks,(Lit.int .i64 z).wf=true:=fun z hz=>by
      obtain ⟨q1,q2⟩:=n2 z hz
      show (decide (IntKind.i64.min<=z)&&decide (z<=IntKind.i64.max))=true
      rw[Gl (show IntKind.i64.min<=z from q1),Gl (show z<=IntKind.i64.max from q2)]
      rfl
     have hrd:∀x∈es'.toList,∀z,x.key= .int .i64 z->WideElems.rd P (ρk.t 26) R x=some (.int .i64 z,.nil):=fun x hx z e=>by
      obtain ⟨z',hz',e'⟩:=hkey x hx
      rw[e] at e'
      cases e'
      unfold WideElems.rd
      rw[e,Maps.keyOf_int_mk LK.t26 (hwf z hz')]
      rfl
     have hfit:WideElems.Fit P (ρk.t 26) R es' clock:=⟨by unfold maxLen;omega,m3,fun x hx=>by
      obtain ⟨z,hz,e⟩:=hkey x hx
      exact ⟨_,hrd x hx z e⟩⟩
     have hown:w.ownsMap P (ρk.t 26) R q.b es'.size (.map ((es'.toList.map (WideElems.rg P (ρk.t 26) R)).foldr DataW.insert [])):=⟨es',clock,m1,hfit,Nat.le_refl _,rfl⟩
     have hperm:(intKeys (H:=Unit) (.map ((es'.toList.map (WideElems.rg P (ρk.t 26) R)).foldr DataW.insert []))).Perm ks:=by
      refine ((Go.WideShapes.sorted_perm _).map _).trans ?_
      rw[List.map_map]
      have e2:es'.toList.map ((fun p:Lit×DataW Unit=>Go.intOf p.1) ∘ WideElems.rg P (ρk.t 26) R)=ks:=by
       have e3:es'.toList.map ((fun p:Lit×DataW Unit=>Go.intOf p.1) ∘ WideElems.rg P (ρk.t 26) R)=(es'.toList.map (·.key)).map fun v=>match v with| .int _ z=>z|_=>0:=by
        rw[List.map_map]
        refine List.map_congr_left fun x hx=> ?_
        obtain ⟨z,hz,e⟩:=hkey x hx
        show Go.intOf (WideElems.rg P (ρk.t 26) R x).1=_
        unfold WideElems.rg
        rw[hrd x hx z e]
        simp[e,Go.intOf]
       rw[e3,n1,List.map_map]
       exact List.map_id ks
      rw[e2]
     have hcell:w.cell? ⟨p.b,0,none⟩=some (.map (some q.b)):=by unfold World.cell?;rw[k1];rfl
     have hnb:Maps.size (H:=Unit) (.map ((es'.toList.map (WideElems.rg P (ρk.t 26) R)).foldr DataW.insert []))=es'.size:=by rw[Maps.size_eq,length_sorted];simp
     have hseq:=AnyZI.keys_gives LK Fence.wide 2 trivial rfl (by omega) p.b q.b es'.size _ w (hR.lt _ _ hp) hcell hown
     have cS:=AnyZI.sorted_in LS Fence.wide 5 trivial trivial trivial trivial rfl (by omega) (hsort _) e9 (ρk.f 10) #[.pointer (some ⟨p.b,0,none⟩)] trivial (LK.f10.enters rfl) _ _ (by rw[hnb];unfold maxLen;omega) (by rw[hnb];omega) w hseq
     have hc:=(callsIn_wide (n:=5)).1 cS
     have hpt:(Value.pointer (some ⟨p.b,p.o+0,none⟩))= .pointer (some ⟨p.b,0,none⟩):=by rw[z0]
     rw[hpt]
     refine hc.mono ?_
     rintro e w' ⟨vv,ss,rfl,hS,hrow,hnil,hbl⟩
     have hm:=oI (hS.trans hperm)
     rw[hm] at hrow
     have hsl:ss.length=(iE ks).length:=by rw[(eu ks).length_eq];exact (hS.trans hperm).length_eq
     obtain ⟨r1,r2⟩:=hrow
     cases hso:iE ks with
     |nil=>
      rw[hso] at hF hsl
      cases hF
      have hss:ss= []:=List.eq_nil_of_length_eq_zero hsl
      obtain rfl:=hnil.2 hss
      exact ⟨ι,_,rfl,.nils,hR.below hbl,Nat.le_trans hB hbl.size,.below hbl⟩
     |cons a r=>
      rw[hso] at hF hsl r2
      have hF':h.new (.cells false (jD (a::r))) (fun b h=>some (NV.slc b 0 es.length 1 es.length,h))=some (v,h'):=hF
      rw[NH.new_eq] at hF'
      cases hF'
      have hel:es.length=ss.length:=by
       have e1:=m2.length
       have e2:(es'.toList.map (·.key)).length=ks.length:=by rw[n1];simp
       have e3:=(eu ks).length_eq
       rw[hso] at e3
       simp at e1 e2 e3 hsl;omega
      rcases r2 with ⟨_,hz⟩|⟨gb,cap,cur,rfl,hbase,hgb,s1,s2,s3,s4⟩
      ·rw[hz] at hsl;simp at hsl
      ·have hcl:(jD (a::r)).length=ss.length:=by unfold jD;rw[List.length_map];exact hsl.symm
       obtain ⟨ι',q1,q2,q3⟩:=hR.madeC hbl hbase hgb (o:=0) (c:=jD (a::r)) (by rw[hcl,s3];omega) fun ι2 i v hi=>by
        unfold jD at hi
        rw[List.getElem?_map] at hi
        cases hai:(a::r)[i]? with
        |none=>rw[hai] at hi;cases hi
        |some z=>
         rw[hai] at hi
         cases hi
         refine ⟨.int .i64 z, ?_,.int _ _,rfl⟩
         have:(cur.toList.take (ss.length*1))[i]? =some (.int .i64 z):=by rw[s4,List.getElem?_map,hai];rfl
         rw[List.getElem?_take] at this
         split at this
         ·simpa using this
         ·cases this
       refine ⟨ι',_,rfl, ?_,q2,Nat.le_trans hB hbl.size,q3⟩
       rw[hel]
       exact .slc _ 0 _ 1 _ _ _ cap q1 s1 s1 s2 (by omega) fun _=>⟨rfl,by simp[s3]⟩
    ·cases hF
   ·cases hF
  ·cases hF
 ·cases hF
end
end Nm
namespace Nm
open Go Go.RowKit Go.Proofs Go.Shelf
open Go.Sort (flatK get_flatK size_flatK HoldsK putRowK grow putCells mapBlock onCells ahead)
abbrev PI:=Int×Int
noncomputable section
def hU (n:Nat):List NV->Option (List PI):=Nat.rec (fun _=>some []) (fun _ ih c=>match c with
 | .int .i64 (.lit a):: .int .i64 (.lit b)::r=>(match ih r with|some l=>some ((a,b)::l)|none=>none)
 |_=>none) n
def g7 (z:PI) (l:List PI):List PI:=List.rec [z] (fun a l ih=>cond (eT z.1 a.1) (z::a::l) (a::ih)) l
def bp (l:List PI):List PI:=List.rec [] (fun a _ ih=>g7 a ih) l
def dS (l:List PI):Bool:=List.rec true (fun a l ih=>match l with| []=>true|b::_=>cond (eT b.1 a.1) false ih) l
def cT (l:List PI):List NV:=List.rec [] (fun a _ ih=> .int .i64 (.lit a.1):: .int .i64 (.lit a.2)::ih) l
def cE (g:Nat) (l:List NV) (h:NH):Option (NV×NH):=
 match l with
 | [.nils,.fn g' []]=>cond (Nat.beq g' g) (some (.tup [],h)) none
 | [.slc id off n 2 _,.fn g' []]=>cond (Nat.beq g' g) (cond (Nat.beq n 0) (some (.tup [],h)) (match h.get id with
  |some (.cells true c)=>(match hU n (c.drop off) with
   |some ps=>cond (Nat.ble n 1000000) (cond (dS (bp ps)) (h.set id (.cells true (c.take off++(cT (bp ps)++c.drop (off+n*2)))) fun h=>some (.tup [],h)) none) none
   |none=>none)
  |_=>none)) none
 |_=>none
end
theorem kj (a:PI) (l:List PI):cT (a::l)= .int .i64 (.lit a.1):: .int .i64 (.lit a.2)::cT l:=rfl
theorem ed (l:List PI):(cT l).length=l.length*2:=by
 induction l with
 |nil=>rfl
 |cons a l ih=>rw[kj];simp[ih];omega
theorem pj:∀(n:Nat) (l:List NV) (ps:List PI),hU n l=some ps->l.take (n*2)=cT ps/\ps.length=n:=by
 intro n
 induction n with
 |zero=>intro l ps h;cases h;exact ⟨by simp[cT],rfl⟩
 |succ n ih=>
  intro l ps h
  have e:hU (n+1) l=(match (generalizing:=false) l with
   | .int .i64 (.lit a):: .int .i64 (.lit b)::r=>(match hU n r with|some l=>some ((a,b)::l)|none=>none)
   |_=>none):=rfl
  rw[e] at h
  split at h
  ·rename_i a b r
   cases hp:hU n r with
   |none=>rw[hp] at h;cases h
   |some l'=>
    rw[hp] at h;cases h
    obtain ⟨h1,h2⟩:=ih r l' hp
    refine ⟨?_,by simp[h2]⟩
    rw[show (n+1)*2=n*2+1+1 by omega,List.take_succ_cons,List.take_succ_cons,h1];rfl
  ·cases h
theorem lW:∀(l:List PI) (t:Nat) (v:NV),(cT l)[t]? =some v->∃x,l[t / 2]? =some x/\v= .int .i64 (.lit (if t % 2=0 then x.1 else x.2)):=by
 intro l
 induction l with
 |nil=>intro t v h;simp[cT] at h
 |cons a l ih=>
  intro t v h
  rw[kj] at h
  match t,h with
  |0,h=>simp at h;exact ⟨a,rfl,by simp[h]⟩
  |1,h=>simp at h;exact ⟨a,rfl,by simp[h]⟩
  |t+2,h=>
   simp only[List.getElem?_cons_succ] at h
   obtain ⟨x,h1,h2⟩:=ih t v h
   refine ⟨x, ?_, ?_⟩
   ·rw[show (t+2) / 2=t / 2+1 by omega];simpa using h1
   ·rw[show (t+2) % 2=t % 2 by omega];exact h2
theorem fV (z a:PI) (l:List PI):g7 z (a::l)=if z.1<=a.1 then z::a::l else a::g7 z l:=by
 have e:g7 z (a::l)=cond (eT z.1 a.1) (z::a::l) (a::g7 z l):=rfl
 rw[e,a7]
 by_cases h:z.1<=a.1<;>simp[h]
theorem up (z:PI):∀l:List PI,(g7 z l).Perm (z::l):=by
 intro l
 induction l with
 |nil=>exact List.Perm.refl _
 |cons a l ih=>
  rw[fV]
  split
  ·exact List.Perm.refl _
  ·exact (List.Perm.cons a ih).trans (List.Perm.swap z a l)
theorem rb (a:PI) (l:List PI):bp (a::l)=g7 a (bp l):=rfl
theorem kK:∀l:List PI,(bp l).Perm l:=by
 intro l
 induction l with
 |nil=>exact List.Perm.refl _
 |cons a l ih=>rw[rb];exact (up a _).trans (List.Perm.cons a ih)
theorem pL:∀l:List PI,dS l=true->l.Pairwise fun x y=>x.1<y.1:=by
 intro l
 induction l with
 |nil=>intro _;exact List.Pairwise.nil
 |cons a l ih=>
  intro h
  have e:dS (a::l)=(match (generalizing:=false) l with| []=>true|b::_=>cond (eT b.1 a.1) false (dS l)):=rfl
  rw[e] at h
  cases l with
  |nil=>exact List.pairwise_singleton _ _
  |cons b l=>
   dsimp only at h
   rw[a7] at h
   by_cases hab:b.1<=a.1
   ·rw[Gl hab] at h;cases h
   ·rw[Gk hab] at h
    have hp:=ih h
    refine List.pairwise_cons.2 ⟨fun x hx=> ?_,hp⟩
    rcases List.mem_cons.1 hx with rfl|hx
    ·omega
    ·have:=(List.pairwise_cons.1 hp).1 x hx;omega
theorem iB (x y:PI):ltOf (fun x y:PI=>Lib.compareInt x.1 y.1) x y=decide (x.1<y.1):=by
 unfold ltOf Lib.compareInt
 by_cases h1:x.1<y.1
 ·simp[h1]
 ·by_cases h2:y.1<x.1<;>simp[h1,h2]
theorem sK:Go.Sort.SWO (ltOf fun x y:PI=>Lib.compareInt x.1 y.1) where
 irrefl x:=by rw[iB];simp
 trans x y z h1 h2:=by rw[iB] at *;simp at *;omega
 ntrans x y z h1 h2:=by rw[iB] at *;simp at *;omega
theorem qM {ps:List PI} (hr:dS (bp ps)=true) {d':Array PI} (hp:Go.Sort.PermIn 0 ps.toArray.size ps.toArray d') (hs:Go.Sort.SortedIn (ltOf fun x y:PI=>Lib.compareInt x.1 y.1) 0 ps.toArray.size d'):d'.toList=bp ps:=by
 obtain ⟨h1,_,h3⟩:=hp
 have hperm:d'.toList.Perm ps:=by
  have e1:d'.extract 0 ps.toArray.size=d':=by rw[←h1];simp
  have e2:ps.toArray.extract 0 ps.toArray.size=ps.toArray:=by simp
  rw[e1,e2] at h3
  simpa using h3
 have hri:=pL _ hr
 refine List.Perm.eq_of_pairwise (le:=fun a b=>a.1<=b.1) (fun a b ha hb h1 h2=> ?_) ?_ (hri.imp fun h=>Int.le_of_lt h) (hperm.trans (kK ps).symm)
 ·have ha':a∈bp ps:=(hperm.trans (kK ps).symm).mem_iff.1 ha
  have e:a.1=b.1:=Int.le_antisymm h1 h2
  obtain ⟨i,hi,rfl⟩:=List.getElem_of_mem ha'
  obtain ⟨j,hj,rfl⟩:=List.getElem_of_mem hb
  rcases Nat.lt_trichotomy i j with q|q|q
  ·have:=(List.pairwise_iff_getElem.1 hri) i j hi hj q;omega
  ·subst q;rfl
  ·have:=(List.pairwise_iff_getElem.1 hri) j i hj hi q;omega
 ·refine List.pairwise_iff_getElem.2 fun i j hi hj hij=> ?_
  have:=hs i j (Nat.zero_le _) hij (by rw[←h1];simpa using hj)
  rw[iB] at this
  simp at hi hj
  rw[getElem!_pos d' i hi,getElem!_pos d' j hj] at this
  simp at this
  simpa using this
theorem oX (w:World) (os:Array Obj):Below w.heap.size w (grow w os):=
 ⟨rfl,rfl,rfl,by simp[grow],fun i hi=>by
  show (w.heap++os)[i]? =_
  rw[Array.getElem?_append_left hi]⟩
def gT (x:PI):List Value:= [.int .i64 x.1,.int .i64 x.2]
theorem mb (d:Array PI) (t:Nat) (x:PI) (hx:d.toList[t / 2]? =some x):(flatK gT 2 d)[t]! = .int .i64 (if t % 2=0 then x.1 else x.2):=by
 have hx':d[t / 2]? =some x:=by simpa using hx
 obtain ⟨h1,h2⟩:=Array.getElem?_eq_some_iff.1 hx'
 rw[get_flatK gT 2 d t (by omega),getElem!_pos d _ h1,h2]
 have:t % 2=0∨t % 2=1:=by omega
 rcases this with e|e<;>rw[e]<;>rfl
section
variable [Val]
theorem pu {P:Program} {f g:Nat} (en:∀args w,(callFunc f args).run P w= .ok (.enter f args) w)
 (hC:∀(blk off cap:Nat) (d:Array PI) (w:World),HoldsK gT 2 w blk off d->blk<w.heap.size->d.size<4611686018427387904->Calls P f #[.slice (some ⟨blk,off,none⟩) d.size cap,.func (.func g) #[] #[]] w fun e w'=>e= .returned (.tuple #[])/\∃d' n os,Go.Sort.PermIn 0 d.size d d'/\Go.Sort.SortedIn (ltOf fun x y:PI=>Lib.compareInt x.1 y.1) 0 d.size d'/\w'=sortWorldK gT 2 w blk off n d' os)
 (hN:∀(p:Option Addr) (cap:Nat) (fv:Value) (w:World),Calls P f #[.slice p 0 cap,fv] w fun e w'=>e= .returned (.tuple #[])/\w'=w):ei P f (cE g):=by
 refine ei.of en fun ι B h w args args' v h' hF hR hB hl=> ?_
 have hsame:Grow ι h w ι h w:= .below (Below.refl _ _)
 unfold cE at hF
 split at hF
 ·rename_i g'
  obtain ⟨c1,hF⟩:=au hF
  cases hF
  cases hl with
  |cons _ _ _ _ hx hnil=>
  cases hx
  cases hnil with
  |cons _ y _ _ hy hnil=>
  cases hnil
  refine (hN none 0 y w).mono ?_
  rintro e w' ⟨rfl,rfl⟩
  exact ⟨ι,_,rfl,.tup _ [] .nil,hR,hB,hsame⟩
 ·rename_i id off n kc g'
  have hh:=au hF
  clear hF
  obtain ⟨c1,hF⟩:=hh
  have hgg:=Gm c1
  clear c1
  subst hgg
  cases hl with
  |cons _ _ _ _ hx hnil=>
  cases hnil with
  |cons _ y _ _ hy hnil=>
  cases hnil
  cases hx with
  |slc _ _ _ _ _ p a cap hp hlc hkc hm he ha=>
  cases hn0:Nat.beq n 0 with
  |true=>
   rw[hn0] at hF
   cases hF
   obtain rfl:=Gm hn0
   refine (hN (some a) cap y w).mono ?_
   rintro e w' ⟨rfl,rfl⟩
   exact ⟨ι,_,rfl,.tup _ [] .nil,hR,hB,hsame⟩
  |false=>
   rw[hn0,cond_false] at hF
   have hn1:n≠0:=Nat.ne_of_beq_eq_false hn0
   split at hF
   ·rename_i c hid
    split at hF
    ·rename_i ps hps
     have hh:=au hF
     clear hF
     obtain ⟨c2,hF⟩:=hh
     have hh:=au hF
     clear hF
     obtain ⟨c3,hF⟩:=hh
     have hlen:=Nat.le_of_ble_eq_true c2
     rw[NH.set_eq] at hF
     cases hF
     obtain ⟨t1,t2⟩:=pj _ _ _ hps
     obtain ⟨ha1,ha2⟩:=ha (by omega)
     subst ha1
     obtain ⟨o,o1,o2⟩:=hR.obj _ _ hp
     rw[hid] at o1
     cases o1
     obtain ⟨cur,T,fz,k1,k2,k3,k4,k5⟩:=o2
     have hfz:=k2 rfl
     subst hfz
     cases hy with
     |fn _ _ cap' hcap=>
     cases hcap
     have hpl:ps.toArray.size=n:=by simpa using t2
     have hcl:off+n*2<=c.length:=by
      have e1:=congrArg List.length t1
      rw[ed,t2,List.length_take,List.length_drop] at e1
      omega
     have hrow:∀t,t<n*2->∃x,ps[t / 2]? =some x/\cur[p.o+off+t]? =some (.int .i64 (if t % 2=0 then x.1 else x.2)):=fun t ht=>by
      have e1:(cT ps)[t]? =c[off+t]? :=by rw[←t1,List.getElem?_take,Gj ht,List.getElem?_drop]
      have e2:c[off+t]? =some c[off+t]:=List.getElem?_eq_getElem (by omega)
      obtain ⟨x,x1,x2⟩:=lW ps t _ (e1.trans e2)
      obtain ⟨v',y1,y2,_⟩:=k5 _ _ e2
      rw[x2] at y2
      cases y2
      exact ⟨x,x1,by rw[←Nat.add_assoc] at y1;exact y1⟩
     have hH:HoldsK gT 2 w p.b (p.o+off) ps.toArray:=fun j hj=>by
      rw[size_flatK,hpl] at hj
      obtain ⟨x,x1,x2⟩:=hrow j hj
      refine ⟨?_, ?_⟩
      ·unfold World.cell?
       rw[k1]
       show cur[p.o+off+j]? =_
       rw[x2,mb ps.toArray j x (by simpa using x1)];rfl
      ·unfold World.frozen?
       rw[k1];simp
     have hc:=hC p.b (p.o+off) cap ps.toArray w hH (hR.lt _ _ hp) (by omega)
     rw[hpl] at hc
     refine hc.mono ?_
     rintro e w' ⟨rfl,d',m,os,hpm,hst,rfl⟩
     have hd:=qM c3 (by rw[hpl];exact hpm) (by rw[hpl];exact hst)
     have hds:d'.size=n:=hpm.1.trans hpl
     have hsl:(bp ps).length=n:=by rw[←hd];simpa using hds
     have hfl:(cT (bp ps)).length=n*2:=by rw[ed,hsl]
     have hh1:∀b,(putRowK gT 2 (Go.Sort.ahead w m) p.b (p.o+off) d').heap[b]? =if p.b=b then (w.heap[b]?).map (onCells (putCells _root_.id (p.o+off) (flatK gT 2 d'))) else w.heap[b]? :=fun b=>by
      unfold putRowK Go.Sort.putRow mapBlock
      show ((w.heap.modify p.b _))[b]? =_
      rw[Array.getElem?_modify]
     have hput:∀j,(putCells _root_.id (p.o+off) (flatK gT 2 d') cur)[j]? =(cur[j]?).map fun x=>if p.o+off<=j/\j<p.o+off+n*2 then (flatK gT 2 d')[j - (p.o+off)]! else x:=fun j=>by
      unfold putCells
      rw[Array.getElem?_mapIdx,size_flatK,hds];rfl
     obtain ⟨q1,q2⟩:=hR.turn (w':=putRowK gT 2 (Go.Sort.ahead w m) p.b (p.o+off) d') hp (by rw[hid];simp) (.cells true (c.take off++(cT (bp ps)++c.drop (off+n*2)))) (by
      refine ⟨putCells _root_.id (p.o+off) (flatK gT 2 d') cur,T,(0,0), ?_,fun _=>rfl, ?_, ?_,fun i v hi=> ?_⟩
      ·rw[hh1,Gj rfl,k1];rfl
      ·rw[←k3];simp[putCells]
      ·simp only[List.length_append,List.length_take,List.length_drop,hfl];omega
      ·rw[hput]
       by_cases h1:i<off
       ·rw[List.getElem?_append_left (by rw[List.length_take];omega),List.getElem?_take,Gj h1] at hi
        obtain ⟨v',y1,y2,y3⟩:=k5 _ _ hi
        exact ⟨v',by rw[y1,Option.map_some,Gi (by omega)],y2,y3⟩
       ·rw[List.getElem?_append_right (by rw[List.length_take];omega),List.length_take,Nat.min_eq_left (by omega)] at hi
        by_cases h2:i<off+n*2
        ·rw[List.getElem?_append_left (by omega)] at hi
         obtain ⟨x,x1,rfl⟩:=lW _ _ _ hi
         obtain ⟨x0,_,z2⟩:=hrow (i - off) (by omega)
         rw[show p.o+off+(i - off)=p.o+i by omega] at z2
         refine ⟨.int .i64 (if (i - off) % 2=0 then x.1 else x.2), ?_,.int _ _,rfl⟩
         rw[z2,Option.map_some,Gj (by omega),show p.o+i - (p.o+off)=i - off by omega,mb d' (i - off) x (by rw[hd];exact x1)]
        ·rw[List.getElem?_append_right (by omega),hfl,List.getElem?_drop] at hi
         rw[show off+n*2+(i - off - n*2)=i by omega] at hi
         obtain ⟨v',y1,y2,y3⟩:=k5 _ _ hi
         exact ⟨v',by rw[y1,Option.map_some,Gi (by omega)],y2,y3⟩) (by unfold putRowK;rw[Go.Sort.size_putRow];rfl) rfl rfl rfl (fun b hb=>by rw[hh1,Gi fun e=>hb e.symm])
     have hbl:=oX (putRowK gT 2 (Go.Sort.ahead w m) p.b (p.o+off) d') os
     exact ⟨ι,_,rfl,.tup _ [] .nil,q1.below hbl,Nat.le_trans hB (Nat.le_trans q2.size hbl.size),q2.trans (.below hbl)⟩
    ·cases hF
   ·cases hF
 ·cases hF
end
end Nm
