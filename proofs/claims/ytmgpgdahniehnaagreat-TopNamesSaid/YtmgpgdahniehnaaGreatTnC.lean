/- A machine that runs the given program with memory and order of evaluation taken apart, and what it shows of the law TopNames: part 3. -/
import Derived.Lib.Bytealg
import Derived.Below
import Derived.WideKeyArgs
import Derived.Carry
import Derived.ChangeArms
import Derived.HandedShaped
import Derived.Test.YtmgpgdahniehnaaGreatProg
import Derived.KernelRfl
import Derived.Test.YtmgpgdahniehnaaGreatTnB
set_option linter.unusedSimpArgs false
set_option linter.unusedVariables false
set_option linter.unusedSectionVars false
set_option linter.defProp false
namespace Nm
open Go
variable [Val]
omit [Val] in
theorem x1:Extern.allNextRows.lookup "math/bits.Add64" =none:=by kernel_rfl
omit [Val] in
theorem x2:Extern.allNextRows.lookup "" =none:=by kernel_rfl
omit [Val] in
theorem x3:Extern.allGenericRows.lookup "math/bits.Add64" =none:=by kernel_rfl
omit [Val] in
theorem x4:Extern.allTypedRows.lookup "math/bits.Add64" =none:=by kernel_rfl
omit [Val] in
theorem x5:Extern.allRows.lookup "math/bits.Add64" =some add64Entry:=by kernel_rfl
omit [Val] in
theorem y1:Extern.allNextRows.lookup "internal/bytealg.IndexByteString" =none:=by kernel_rfl
omit [Val] in
theorem y3:Extern.allGenericRows.lookup "internal/bytealg.IndexByteString" =none:=by kernel_rfl
omit [Val] in
theorem y4:Extern.allTypedRows.lookup "internal/bytealg.IndexByteString" =none:=by kernel_rfl
omit [Val] in
theorem y5:Extern.allRows.lookup "internal/bytealg.IndexByteString" =some Extern.BytealgIndexByte.indexByte:=by kernel_rfl
omit [Val] in
theorem GV:Extern.allNextRows.lookup "internal/bytealg.CountString" =none:=by kernel_rfl
omit [Val] in
theorem G4:Extern.allGenericRows.lookup "internal/bytealg.CountString" =none:=by kernel_rfl
omit [Val] in
theorem Hd:Extern.allTypedRows.lookup "internal/bytealg.CountString" =none:=by kernel_rfl
omit [Val] in
theorem G3:Extern.allRows.lookup "internal/bytealg.CountString" =some Extern.BytealgCount.count:=by kernel_rfl
omit [Val] in
theorem yg (c:Nat) (hc:c<=255):∀(l:List UInt8) (n:Nat),vH c (l.map UInt8.toNat) n=n+Lib.countByte l c.toUInt8:=by
 intro l
 induction l with
 |nil=>intro n;rfl
 |cons x l ih=>
  intro n
  have e:vH c (List.map UInt8.toNat (x::l)) n=cond (Nat.beq x.toNat c) (an (Nat.succ n) (vH c (l.map UInt8.toNat))) (vH c (l.map UInt8.toNat) n):=rfl
  rw[e,aj,ih,ih]
  unfold Lib.countByte
  rw[List.count_cons]
  have hb:(x==c.toUInt8)=Nat.beq x.toNat c:=by
   rw[Bool.eq_iff_iff]
   simp only[beq_iff_eq,Nat.beq_eq]
   constructor
   ·intro h;rw[h];simp;omega
   ·intro h;rw[←h];simp
  rw[hb]
  cases Nat.beq x.toNat c<;>simp<;>omega
omit [Val] in
theorem xl (c:Nat):∀(l:List Nat) (i:Nat),o7 c l i=(l.findIdx? (fun x=>x==c)).map (·+i):=by
 intro l
 induction l with
 |nil=>intro i;rfl
 |cons x l ih=>
  intro i
  have e:o7 c (x::l) i=cond (Nat.beq x c) (some i) (an (Nat.succ i) (o7 c l)):=rfl
  rw[e,aj,ih,List.findIdx?_cons]
  cases h:Nat.beq x c with
  |true=>have:=Hk h;simp[this]
  |false=>
   have:=Nat.ne_of_beq_eq_false h
   simp only[cond_false]
   rw[Hg (by simpa using this)]
   cases List.findIdx? (fun x=>x==c) l with
   |none=>rfl
   |some j=>simp;omega
omit [Val] in
theorem nd (p:Nat->Bool):∀n,(List.range n).find? p=none↔∀i,i<n->p i=false:=by
 intro n;simp
omit [Val] in
theorem lF (s:ByteArray) (c:Nat) (hc:c<=255):firstIdx s c.toUInt8=match o7 c (s.data.toList.map UInt8.toNat) 0 with|some i=>(i:Int)|none=>-1:=by
 rw[xl]
 have hsz:s.data.toList.length=s.size:=aP s
 have hml:(s.data.toList.map UInt8.toNat).length=s.size:=by rw[List.length_map,hsz]
 have hat:∀i (h:i<s.size),(s[i]! ==c.toUInt8)=(((s.data.toList.map UInt8.toNat)[i]'(by rw[hml];exact h))==c):=by
  intro i h
  have e:s[i]! =s.data.toList[i]'(by rw[hsz];exact h):=by
   rw[getElem!_pos s i h];simp[ByteArray.getElem_eq_getElem_data]
  rw[e,List.getElem_map]
  rw[Bool.eq_iff_iff]
  simp only[beq_iff_eq]
  constructor
  ·intro h;rw[h];simp;omega
  ·intro h;rw[←h];simp
 unfold firstIdx
 cases hf:(s.data.toList.map UInt8.toNat).findIdx? (fun x=>x==c) with
 |none=>
  have h1:(List.range s.size).find? (fun i=>s[i]! ==c.toUInt8)=none:=by
   rw[nd]
   intro i hi
   rw[hat i hi]
   rw[List.findIdx?_eq_none_iff] at hf
   exact hf _ (List.getElem_mem _)
  rw[h1];rfl
 |some j=>
  rw[List.findIdx?_eq_some_iff_getElem] at hf
  obtain ⟨hj,h1,h2⟩:=hf
  have hj':j<s.size:=by rw[←hml];exact hj
  have h3:(List.range s.size).find? (fun i=>s[i]! ==c.toUInt8)=some j:=by
   rw[List.find?_range_eq_some]
   refine ⟨?_,by simpa using hj',fun k hk=> ?_⟩
   ·rw[hat j hj'];exact h1
   ·rw[hat k (by omega)]
    simpa using h2 k hk
  rw[h3];simp
section
variable {P:Program} {S:aL} {B:Nat}
theorem oL {ι:aD} {fn:Func} {e:Ext} {f:Nat} (hf:P.funcs[f]? =some fn) (hb:fn.body=none) (he:nU fn=some e) {args:List NV} {args':List Value} (ha:VRL ι args args') {v:NV} (hv:gq e args=some v) (w:World):
 ∃v',(callFunc f args'.toArray).run P w= .ok (.value v') w/\VR ι v v':=by
 unfold nU at he
 obtain ⟨ho,he⟩:=az he
 have ho':fn.origin= "" :=by simpa using ho
 cases hn:(fn.name== "math/bits.Add64") with
 |true=>
  rw[hn] at he
  cases he
  have hname:fn.name= "math/bits.Add64" :=by simpa using hn
  have hnx:Extern.findNext fn=none:=by unfold Extern.findNext;rw[hname,ho'];simp only[x1,x2];rfl
  have hfi:Extern.find fn=some add64Entry:=by unfold Extern.find;rw[hname,ho'];simp only[x3,x4,x5];rfl
  have hcall:=run_callFunc_extern hf (by rw[hname];decide) (by rw[hb];rfl) hnx hfi args'.toArray w
  unfold gq at hv
  split at hv
  ·rename_i x y c hargs
   obtain ⟨hc1,hv⟩:=az hv
   rw[aj,aj] at hv
   cases hv
   cases ha with
   |cons _ _ _ _ h1 ha=>
    cases ha with
    |cons _ _ _ _ h2 ha=>
     cases ha with
     |cons _ _ _ _ h3 ha=>
      cases ha
      cases h1;cases h2;cases h3
      have hc:=Nat.le_of_ble_eq_true hc1
      refine ⟨_, ?_,.tup [_,_] [_,_] (.cons _ _ _ _ (.int .u64 _) (.cons _ _ _ _ (.int .u64 _) .nil))⟩
      have:=run_add64 (P:=P) (Int.ofNat x) (Int.ofNat y) (Int.ofNat c) (Int.natCast_nonneg _) (Int.natCast_nonneg _) (Int.natCast_nonneg _) (by show (c:Int)<=1;omega) w
      rw[hcall]
      show Result.andThen (Sem.run P (add64Entry #[.int .u64 (Int.ofNat x),.int .u64 (Int.ofNat y),.int .u64 (Int.ofNat c)]) w) _=_
      rw[this]
      rfl
  ·rename_i h;cases h
  ·rename_i h;cases h
  ·cases hv
 |false=>
  rw[hn] at he
  simp only[cond_false] at he
  cases hn2:(fn.name== "internal/bytealg.IndexByteString") with
  |true=>
   rw[hn2] at he
   cases he
   have hname:fn.name= "internal/bytealg.IndexByteString" :=by simpa using hn2
   have hnx:Extern.findNext fn=none:=by unfold Extern.findNext;rw[hname,ho'];simp only[y1,x2];rfl
   have hfi:Extern.find fn=some Extern.BytealgIndexByte.indexByte:=by unfold Extern.find;rw[hname,ho'];simp only[y3,y4,y5];rfl
   have hcall:=run_callFunc_extern hf (by rw[hname];decide) (by rw[hb];rfl) hnx hfi args'.toArray w
   unfold gq at hv
   split at hv
   ·rename_i h;cases h
   ·rename_i s c _
    obtain ⟨hc1,hv⟩:=az hv
    have hc:=Nat.le_of_ble_eq_true hc1
    cases ha with
    |cons _ _ _ _ h1 ha=>
     cases ha with
     |cons _ _ _ _ h2 ha=>
      cases ha
      cases h2
      cases h1 with
      |str l s' hs=>
       subst hs
       have hrun:=run_indexByte_string (P:=P) s' (Int.ofNat c) w
       refine ⟨.int .i64 (firstIdx s' c.toUInt8), ?_, ?_⟩
       ·rw[hcall]
        show Result.andThen (Sem.run P (Extern.BytealgIndexByte.indexByte #[.string s',.int .u8 (Int.ofNat c)]) w) _=_
        rw[hrun]
        rfl
       ·rw[lF s' c hc]
        cases hi:o7 c (s'.data.toList.map UInt8.toNat) 0 with
        |none=>rw[hi] at hv;cases hv;exact .int .i64 _
        |some i=>rw[hi] at hv;cases hv;exact .int .i64 _
   ·rename_i h;cases h
   ·cases hv
  |false=>
   rw[hn2] at he
   simp only[cond_false] at he
   obtain ⟨hn3,he⟩:=az he
   cases he
   have hname:fn.name= "internal/bytealg.CountString" :=by simpa using hn3
   have hnx:Extern.findNext fn=none:=by unfold Extern.findNext;rw[hname,ho'];simp only[GV,x2];rfl
   have hfi:Extern.find fn=some Extern.BytealgCount.count:=by unfold Extern.find;rw[hname,ho'];simp only[G4,Hd,G3];rfl
   have hcall:=run_callFunc_extern hf (by rw[hname];decide) (by rw[hb];rfl) hnx hfi args'.toArray w
   unfold gq at hv
   split at hv
   ·rename_i h;cases h
   ·rename_i h;cases h
   ·rename_i s c _
    obtain ⟨hc1,hv⟩:=az hv
    have hc:=Nat.le_of_ble_eq_true hc1
    cases hv
    cases ha with
    |cons _ _ _ _ h1 ha=>
     cases ha with
     |cons _ _ _ _ h2 ha=>
      cases ha
      cases h2
      cases h1 with
      |str l s' hs=>
       subst hs
       refine ⟨.int .i64 (Lib.countByte s'.data.toList c.toUInt8), ?_, ?_⟩
       ·rw[hcall]
        show Result.andThen (Sem.run P (Extern.BytealgCount.count #[.string s',.int .u8 (Int.ofNat c)]) w) _=_
        rw[Lib.run_countString]
        rfl
       ·rw[yg c hc,Nat.zero_add]
        exact .int .i64 _
   ·cases hv
def ay (P:Program) (S:aL):Prop:=
 ∀(ι:aD) (B:Nat) (h:NH) (w:World) (f:Nat) (args:List NV) (args':List Value) (v:NV) (h':NH),S f args h=some (v,h')->Rel P ι B h w->B<=w.heap.size->VRL ι args args'->
  jI P ι B h w ((callFunc f args'.toArray).run P w) (.val v none h')
theorem k7:ay P EZ:=fun _ _ _ _ _ _ _ _ _ h=>by cases h
omit [Val] in
theorem oR {f:Nat} {e:Ext} (h:ag P f=some (.ext e)):∃fn,P.funcs[f]? =some fn/\fn.body=none/\nU fn=some e:=by
 unfold ag at h
 split at h
 ·rename_i fn hfn
  cases hn:(fn.name== "runtime.NumGoroutine") with
  |true=>rw[hn] at h;cases h
  |false=>
   rw[hn] at h
   simp only[cond_false] at h
   split at h
   ·split at h
    ·rw[aj] at h;cases h
    ·cases h
   ·rename_i hb
    split at h
    ·rename_i e' he;cases h;exact ⟨fn,hfn,hb,he⟩
    ·cases h
 ·cases h
omit [Val] in
theorem cQ {fr:Frame} {w:World} {e:Ending} (hk:fr.kind= .normal) (h:fr.going P w e):fr.leaving P w e:=by
 cases e with
 |returned v=>exact ⟨h.1,h.2.1,hk,h.2.2⟩
 |panicked c=>exact h
 |outgrown=>trivial
theorem g9 (hK:fp P) (hS:ay P S) {n:Nat} (hO:dL P S n) (ι:aD) (B:Nat) (h:NH) (w:World) (f:Nat) (args:List NV) (args':List Value) (hR:Rel P ι B h w) (hB:B<=w.heap.size) (ha:VRL ι args args'):
 jI P ι B h w ((callFunc f args'.toArray).run P w) (bk P S (ev P S n) f args h):=by
 unfold bk
 cases hs:S f args h with
 |some v=>exact hS ι B h w f args args' v.1 v.2 hs hR hB ha
 |none=>
  dsimp only
  cases hcf:ag P f with
  |none=>trivial
  |some x=>
   cases x with
   |ext e=>
    dsimp only
    cases hx:gq e args with
    |none=>trivial
    |some v=>
     intro c cs
     obtain ⟨fn,h1,h2,h3⟩:=oR hcf
     obtain ⟨v',e1,e2⟩:=oL h1 h2 h3 ha hx w
     exact ⟨ι,v',w,e2,hR,hB,.refl _ _ _,.inl e1⟩
   |code nf=>
    dsimp only
    have hD:=gM hK hO 3 f args none h
    obtain ⟨fn,code,e1,e2,e3,_⟩:=ef hcf
    have hent:=fZ (P:=P) e1 e2 e3 args'.toArray w
    cases hr:bJ P (ev P S n) 3 f args none h with
    |fail=>trivial
    |val v x h'=>
     intro c cs
     obtain ⟨_,hF⟩:=hD (by rw[hr];simp)
     have hF:=hF B ι w args' .normal (c::cs) hR hB ha (fun b hb=>by unfold tryRecover;rw[hb])
     rw[hr] at hF
     obtain ⟨ι',v',w',cs',fr,f1,f2,f3,f4,f5,f6,f7,_,f8⟩:=hF
     obtain ⟨rfl,_⟩:=f5.none
     exact ⟨ι',v',w',f1,f2,f3,f4,.inr ⟨w,.inl ⟨f,args'.toArray,hent,Steps.trans f6 (.one (step_leave_returned (cQ f7 f8)))⟩⟩⟩
    |pan v x h'=>
     intro c cs
     obtain ⟨_,hF⟩:=hD (by rw[hr];simp)
     have hF:=hF B ι w args' .normal (c::cs) hR hB ha (fun b hb=>by unfold tryRecover;rw[hb])
     rw[hr] at hF
     obtain ⟨ι',v',w',cs',fr,f1,f2,f3,f4,f5,f6,f7,_,f8⟩:=hF
     obtain ⟨rfl,_⟩:=f5.none
     exact ⟨ι',v',w',f1,f2,f3,f4,w,.inl ⟨f,args'.toArray,hent,Steps.trans f6 (.one (step_leave_panicked (cQ f7 f8)))⟩⟩
noncomputable def kh:List D4->List NV->Tm->Tm
 |p::ps,v::vs,t=>kh ps vs (NT.put p v t)
 |_,_,t=>t
omit [Val] in
theorem gG {r:CR} (hr:r≠.fail) {K:Tm->CR}:∀{ps:List D4} {vs:List NV} {t:Tm},bX .fail ps vs t K=r->vs.length=ps.length/\K (kh ps vs t)=r:=by
 intro ps
 induction ps with
 |nil=>
  intro vs t h
  cases vs with
  |nil=>exact ⟨rfl,h⟩
  |cons v vs=>exact Hf (show CR.fail=r from h).symm hr
 |cons p ps ih=>
  intro vs t h
  cases vs with
  |nil=>exact Hf (show CR.fail=r from h).symm hr
  |cons v vs=>
   have e:bX .fail (p::ps) (v::vs) t K=NT.set p v t fun t=>bX .fail ps vs t K:=rfl
   rw[e,NT.set_eq] at h
   obtain ⟨h1,h2⟩:=ih h
   exact ⟨by simp[h1],h2⟩
theorem xJ {ι:aD}:∀{ps:List Nat} {vs:List NV} {vs':List Value} {t:Tm} {a:Array Value},VRL ι vs vs'->TR ι t a->(∀q∈ps,q<a.size)->
 TR ι (kh (ps.map D4.of) vs t) ((ps.zip vs').foldl (fun tmps (t,a)=>tmps.setIfInBounds t a) a)/\((ps.zip vs').foldl (fun tmps (t,a)=>tmps.setIfInBounds t a) a).size=a.size:=by
 intro ps
 induction ps with
 |nil=>intro vs vs' t a _ hT _;cases vs<;>exact ⟨hT,rfl⟩
 |cons p ps ih=>
  intro vs vs' t a hv hT hp
  cases hv with
  |nil=>exact ⟨hT,rfl⟩
  |cons v v' vs vs' h1 h2=>
   have hT':=hT.put (hp p (by simp)) h1
   obtain ⟨q1,q2⟩:=ih h2 hT' (fun q hq=>by simp;exact hp q (by simp[hq]))
   exact ⟨q1,q2.trans (by simp)⟩
def DB (P:Program) (B:Nat) (ι:aD) (h:NH) (w:World) (fr0:Frame) (c:Frame) (cs:List Frame):CR->Prop
 | .fail=>True
 | .val v _ h'=>∃ι' v' w',VR ι' v v'/\Rel P ι' B h' w'/\B<=w'.heap.size/\Grow ι h w ι' h' w'/\Steps P (lone fr0 (c::cs) w) (lone (c.finish v') cs w')
 | .pan v _ h'=>∃ι' v' w',VR ι' v v'/\Rel P ι' B h' w'/\B<=w'.heap.size/\Grow ι h w ι' h' w'/\Steps P (lone fr0 (c::cs) w) (lone (c.raise [{v:=v',recovered:=false}]) cs w')
theorem gy {n:Nat} (hO:dL P S n) (ι:aD) (B:Nat) (h:NH) (w:World) (l:D4) (p:Pl) (args:List NV) (args':List Value) (hR:Rel P ι B h w) (hB:B<=w.heap.size) (ha:VRL ι args args') (hp:ι l=some p):
 jI P ι B h w ((Instr.yield p.b args'.toArray).run P w) (round (ev P S n) l args h):=by
 by_cases hne:round (ev P S n) l args h= .fail
 ·rw[hne];trivial
 generalize hrr:round (ev P S n) l args h=r at hne
 have hrr':=hrr
 unfold round at hrr'
 obtain ⟨ob,ho1,ho2⟩:=hR.obj _ _ hp
 rw[ho1] at hrr'
 cases ob with
 |loop st pd tm ps na nb=>
  cases st with
  |succ st=>exact Hf hrr'.symm hne
  |zero=>
   obtain ⟨L,l1,l2,l3,l4,l5,l6,l7,⟨fn,bl,la,lb,l8,l9,l10,l11,_⟩,l12⟩:=ho2
   obtain ⟨hlen,hrr2⟩:=gG hne hrr'
   have hsz:args'.toArray.size=L.params.size:=by
    have:=ha.length
    rw[l5] at hlen
    simp at hlen ⊢;omega
   have hy:=run_yield (P:=P) l1 hsz
   obtain ⟨t1,t2⟩:=xJ (ps:=L.params.toList) ha l4 l12
   have hz:(L.params.zip args'.toArray).foldl (fun tmps (t,a)=>tmps.setIfInBounds t a) L.tmps=(L.params.toList.zip args').foldl (fun tmps (t,a)=>tmps.setIfInBounds t a) L.tmps:=by
    rw[←Array.foldl_toList,Array.toList_zip]
   rw[hz] at hy
   rw[←l5] at t1
   generalize (L.params.toList.zip args').foldl (fun tmps (t,a)=>tmps.setIfInBounds t a) L.tmps=tmps at hy t1 t2
   let b:Frame:={(default:Frame) with fn:=L.fn,kind:= .normal,roundOf:=some p.b}
   have hfr:Frame.round p.b L.fn tmps L.assign L.body .normal=b.atR {tmps:=tmps,defers:= []} [.code L.assign,.beginRound,.code L.body]:=by
    simp[Frame.round,Frame.atR,b]
   cases hev:ev P S n (some l) na ⟨kh ps args tm, [],none,h⟩ with
   |fail=>rw[hev] at hrr2;exact Hf hrr2.symm hne
   |mk o d=>
    rw[hev] at hrr2
    cases o with
    |norm=>
     dsimp only at hrr2
     cases hdd:d.dfs with
     |cons x xs=>rw[hdd] at hrr2;exact Hf hrr2.symm hne
     |nil=>
      rw[hdd] at hrr2
      have hrb:bp (ev P S n) l nb d.t d.h=r:=hrr2
      have main:∀(c:Frame) (cs:List Frame),DB P B ι h w (Frame.round p.b L.fn tmps L.assign L.body .normal) c cs r:=by
       intro c cs
       have hctx:∀ι:aD,mN ι b.kind (c::cs) none:=fun ι b' hb'=>by unfold tryRecover;rw[hb']
       have hs:Sd P ι B (some l) [] none h b ([]:List Deferred) (c::cs) w:=⟨trivial,hctx ι,hR,hB,⟨p,hp,rfl⟩⟩
       have hgo:=hO L.assign na fn [] [] l6 l10 (some l) ⟨kh ps args tm, [],none,h⟩ .norm d hev (.code L.assign) (.inl rfl) B b [.beginRound,.code L.body] ι {tmps:=tmps,defers:= []} (c::cs) w l8 t1 hs (by rw[t2];exact l9)
       obtain ⟨ι1,a1,cs1,w1,g1,g2,g3,g4⟩:=hgo
       obtain ⟨rfl,hctx1⟩:=g3.ca.none
       have sd1:=g3.sd
       have hdef1:a1.defers= []:=by
        have:=sd1.df
        rw[hdd] at this
        cases hq:a1.defers with
        |nil=>rfl
        |cons d ds=>rw[hq] at this;exact this.elim
       have hp1:ι1 l=some p:=g3.gr.le _ _ hp
       obtain ⟨ob1,ho3,ho4⟩:=sd1.rel.obj _ _ hp1
       have hrb':=hrb
       unfold bp at hrb'
       rw[ho3] at hrb'
       cases ob1 with
       |loop st1 pd1 tm1 ps1 na1 nb1=>
        cases st1 with
        |succ st1=>exact Hf hrb'.symm hne
        |zero=>
         replace hrb':d.h.set l (.loop 1 pd1 tm1 ps1 na1 nb1) (fun h=>match ev P S n (some l) nb ⟨d.t, [],none,h⟩ with
          | .mk o d=>(match o with
           | .pan v=>(match d.dfs with| []=>CR.pan v none d.h|_=> .fail)
           |o=>cS l o d.h)
          | .fail=> .fail)=r:=hrb'
         rw[NH.set_eq] at hrb'
         obtain ⟨L1,m1,m2,m3⟩:=ho4
         have hbr:=run_beginRound (P:=P) m1 m2
         have hlt1:=sd1.rel.lt _ _ hp1
         have hst1:SR 1 ({L1 with state:= .busy}:Loop).state:=rfl
         obtain ⟨u1,u2⟩:=sd1.rel.turn (w':=w1.putObj p.b (.loop {L1 with state:= .busy})) hp1 (by rw[ho3];simp) (.loop 1 pd1 tm1 ps1 na1 nb1)
          ⟨_,World.putObj_heap_same hlt1,hst1,m3⟩ (by simp) rfl rfl rfl (fun q hq=>World.putObj_heap_other hq)
         have hbeg:=stepR_beginRound (P:=P) (b:=b) (a:=a1) (k:= [.code L.body]) (cs:=c::cs) rfl hbr
         have hs2:Sd P ι1 B (some l) [] none (d.h.put l (.loop 1 pd1 tm1 ps1 na1 nb1)) b a1.defers (c::cs) (w1.putObj p.b (.loop {L1 with state:= .busy})):=
          ⟨by rw[hdef1];trivial,hctx ι1,u1,by simpa using sd1.base,⟨p,hp1,rfl⟩⟩
         generalize w1.putObj p.b (.loop {L1 with state:= .busy})=w2 at *
         generalize d.h.put l (.loop 1 pd1 tm1 ps1 na1 nb1)=h2 at *
         cases hev2:ev P S n (some l) nb ⟨d.t, [],none,h2⟩ with
         |fail=>rw[hev2] at hrb';exact Hf hrb'.symm hne
         |mk o2 d2=>
          rw[hev2] at hrb'
          have hgo2:=hO L.body nb fn bl la l7 l11 (some l) ⟨d.t, [],none,h2⟩ o2 d2 hev2 (.code L.body) (.inl rfl) B b [] ι1 a1 (c::cs) w2 l8 g2 hs2 (by rw[g4,t2];exact l9)
          obtain ⟨ι3,a3,cs3,w3,e1,e2,e3,e4⟩:=hgo2
          obtain ⟨rfl,_⟩:=e3.ca.none
          have hp3:ι3 l=some p:=e3.gr.le _ _ hp1
          have hpre:Steps P (lone (Frame.round p.b L.fn tmps L.assign L.body .normal) (c::cs) w) (lone (b.atR a1 [.code L.body]) (c::cs) w2):=by
           rw[hfr];exact Steps.trans g1 (.one hbeg)
          have hgr:=(g3.gr.trans u2).trans e3.gr
          have fin:∀(jump:Option Code) (st':Nat) (pd':Jump),cS l o2 d2.h=r->(∀tm ps na nb,(match o2 with
           | .norm=>(d2.h.set l (.loop 0 .none tm ps na nb) fun h=>CR.val (.bool true) none h)
           | .ret=>d2.h.set l (.loop 2 .ret tm ps na nb) fun h=> .val (.bool false) none h
           | .exit id=>d2.h.set l (.loop 2 (.exit id) tm ps na nb) fun h=> .val (.bool false) none h
           | .pan _=> .fail)= .val (.bool jump.isNone) none (d2.h.put l (.loop st' pd' tm ps na nb)))->
           (SR st' (if jump.isNone then .ready else .done))->JR pd' jump->
           (∀(v:Value) (w4:World),(Instr.endRound p.b jump).run P w3= .ok v w4->Steps P (lone (b.atR a1 [.code L.body]) (c::cs) w2) (lone (c.finish v) cs w4))->
           DB P B ι h w (Frame.round p.b L.fn tmps L.assign L.body .normal) c cs r:=by
           intro jump st' pd' hre hval hSR hJR hsteps
           unfold cS at hre
           obtain ⟨ob3,ho5,ho6⟩:=e3.sd.rel.obj _ _ hp3
           rw[ho5] at hre
           cases ob3 with
           |loop st3 pd3 tm3 ps3 na3 nb3=>
            have hre':=(hval tm3 ps3 na3 nb3).symm.trans hre
            rw[←hre']
            obtain ⟨L3,k1,k2,k3,k4⟩:=ho6
            have hend:=run_endRound (P:=P) jump k1
            have hlt3:=e3.sd.rel.lt _ _ hp3
            obtain ⟨z1,z2⟩:=e3.sd.rel.turn (w':=w3.putObj p.b (.loop {L3 with state:=if jump.isNone then .ready else .done,pending:=jump})) hp3 (by rw[ho5];simp) (.loop st' pd' tm3 ps3 na3 nb3)
             ⟨_,World.putObj_heap_same hlt3,hSR,hJR,k4⟩ (by simp) rfl rfl rfl (fun q hq=>World.putObj_heap_other hq)
            exact ⟨ι3,.bool jump.isNone,_,.bool _,z1,by simpa using e3.sd.base,hgr.trans z2,hpre.trans (hsteps _ _ hend)⟩
           |_=>exact Hf hre.symm hne
          cases o2 with
          |norm=>
           exact fin none 0 .none hrb' (fun tm ps na nb=>NH.set_eq _ _ _ _) rfl rfl fun v w4 he=>Steps.trans e1 (.one (stepR_round_end rfl rfl he))
          |ret=>
           obtain ⟨k0,e1⟩:=e1
           exact fin (some .ret) 2 .ret hrb' (fun tm ps na nb=>NH.set_eq _ _ _ _) rfl rfl fun v w4 he=>Steps.trans e1 (.one (stepR_round_ret rfl rfl he))
          |exit id=>
           obtain ⟨k0,e0,e1⟩:=e1
           exact fin (some (.exit id)) 2 (.exit id) hrb' (fun tm ps na nb=>NH.set_eq _ _ _ _) rfl rfl fun v w4 he=>Steps.trans e1 (.one (stepR_round_exit rfl rfl (by rw[e0];rfl) he))
          |pan v=>
           dsimp only at hrb'
           cases hd2:d2.dfs with
           |cons x xs=>rw[hd2] at hrb';exact Hf hrb'.symm hne
           |nil=>
            rw[hd2] at hrb'
            rw[←show CR.pan v none d2.h=r from hrb']
            obtain ⟨td,v',f1,f2⟩:=e1
            have hdef3:a3.defers= []:=by
             have:=e3.sd.df
             rw[hd2] at this
             cases hq:a3.defers with
             |nil=>rfl
             |cons d ds=>rw[hq] at this;exact this.elim
            refine ⟨ι3,v',w3,f1,e3.sd.rel,e3.sd.base,hgr,hpre.trans (Steps.trans f2 (.one (step_leave_panicked ⟨rfl,hdef3,fn,l8⟩)))⟩
       |_=>exact Hf hrb'.symm hne
      cases r with
      |fail=>trivial
      |val v x h'=>
       intro c cs
       obtain ⟨ι',v',w',q1,q2,q3,q4,q5⟩:=main c cs
       exact ⟨ι',v',w',q1,q2,q3,q4,.inr ⟨w,.inr ⟨p.b,L.fn,tmps,L.assign,L.body,hy,q5⟩⟩⟩
      |pan v x h'=>
       intro c cs
       obtain ⟨ι',v',w',q1,q2,q3,q4,q5⟩:=main c cs
       exact ⟨ι',v',w',q1,q2,q3,q4,w,.inr ⟨p.b,L.fn,tmps,L.assign,L.body,hy,q5⟩⟩
    |_=>exact Hf hrr2.symm hne
 |_=>exact Hf hrr'.symm hne
theorem mu (hM:P.follows .mixedOrders=true) (hK:fp P) (hS:ay P S):∀n,dL P S n/\CallsOK P S (ev P S n):=by
 intro n
 induction n with
 |zero=>
  have h0:dL P S 0:=fun c nc fn bl la _ _ rnd d o d' h=>by cases h
  exact ⟨h0,⟨g9 hK hS h0,gy h0⟩⟩
 |succ n ih=>
  have h1:dL P S (n+1):=oP hM ih.1 ih.2
  exact ⟨h1,⟨g9 hK hS h1,gy h1⟩⟩
end
end Nm
namespace Nm
open Go Go.RowKit
noncomputable def wi (n:Nat):NT NO:=Nat.rec .leaf (fun k t=>NT.put (D4.of k) .dead t) n
noncomputable def G0:NH:=⟨wi NG,D4.of NG⟩
theorem oJ (n k:Nat):NT.get (D4.of k) (wi n)=if k<n then some .dead else none:=by
 induction n with
 |zero=>exact NT.get_leaf _
 |succ n ih=>
  show NT.get (D4.of k) (NT.put (D4.of n) .dead (wi n))=_
  by_cases e:k=n
  ·subst e;rw[NT.get_put_same,Hh (Nat.lt_succ_self k)]
  ·rw[NT.get_put_ne (fun x=>e (D4.of_inj x)),ih]
   by_cases h:k<n
   ·rw[Hh h,Hh (by omega)]
   ·rw[Hg h,Hg (by omega)]
theorem sV (i:D4):G0.get i=if i.toNat<NG then some .dead else none:=by
 rw[←oJ NG i.toNat,D4.of_toNat];rfl
def ι0:aD:=fun i=>if i.toNat<NG then some ⟨i.toNat,0,GN i.toNat⟩ else none
theorem uq {i:D4} {p:Pl} (h:ι0 i=some p):i.toNat<NG/\p=⟨i.toNat,0,GN i.toNat⟩:=by
 unfold ι0 at h
 split at h
 ·exact ⟨‹_›,(Option.some.inj h).symm⟩
 ·cases h
theorem Dt:Cp ι0:=fun g hg=>by unfold ι0;rw[D4.toNat_of,Hh hg]
theorem ej {i:D4} {p:Pl} (h:ι0 i=some p):G0.get i=some .dead:=by rw[sV,Hh (uq h).1]
theorem bI:¬Live (some .dead):=fun h=>h.1 rfl
variable [Val]
theorem CH (P:Program) (w:World) (hw:NG<=w.heap.size):Rel P ι0 w.heap.size G0 w where
 obj:=fun i p h=>⟨.dead,ej h,trivial⟩
 inj:=fun i j p q h _ _ hl _=>Hf (ej h▸hl) bI
 base:=fun i p h hl=>Hf (ej h▸hl) bI
 lt:=fun i p h=>by have:=uq h;rw[this.2];exact Nat.lt_of_lt_of_le this.1 hw
 fresh:=fun i o h=>by
  rw[sV] at h
  split at h
  ·show i.toNat<(D4.of NG).toNat;rw[D4.toNat_of];assumption
  ·cases h
 gl:=Dt
theorem Rel.room {P:Program} {ι:aD} {B:Nat} {h:NH} {w:World} (r:Rel P ι B h w):NG<=w.heap.size:=by
 rcases Nat.eq_zero_or_pos NG with h0|h0
 ·rw[h0];exact Nat.zero_le _
 ·have h1:=r.gl (NG - 1) (by omega)
  have h2:=r.lt _ _ h1
  dsimp only at h2
  omega
noncomputable def g5 (m:NH) (cf:Nat->Option NFn) (S:aL) (n f:Nat) (args:List NV):CR:=bJ cf (ev cf S n) 3 f args none m
noncomputable def ki (cf:Nat->Option NFn) (S:aL) (n f:Nat) (args:List NV):CR:=g5 G0 cf S n f args
noncomputable def nw (r:CR):Bool:=
 match r with
 | .val (.bool b) _ _=>b
 |_=>false
noncomputable def gX (cf:Nat->Option NFn) (S:aL) (n f:Nat) (args:List NV):Bool:=nw (ki cf S n f args)
theorem ic {P:Program} {S:aL} (hM:P.follows .mixedOrders=true) (hP:P.check= .ok ()) (hS:ay P S) {m:NH} {n f:Nat} {args:List NV} {v:NV} {x:Option NV} {h:NH} (hr:g5 m P S n f args= .val v x h)
 {ι:aD} {w:World} (hR:Rel P ι w.heap.size m w) (hlive:∀i p,ι i=some p->¬Live (m.get i)) {args':List Value} (ha:VRL ι args args'):
 Calls P f args'.toArray w fun e w'=>(∃ι v',e= .returned v'/\VR ι v v'/\Rel P ι w.heap.size h w')/\Below w.heap.size w w':=by
 intro cs
 obtain ⟨hO,_⟩:=mu hM (kZ hP) hS n
 have hD:=gM (kZ hP) hO 3 f args none m
 obtain ⟨_,hF⟩:=hD (by rw[show bJ P (ev P S n) 3 f args none m= .val v x h from hr];simp)
 have hF:=hF w.heap.size ι w args' .normal cs hR (Nat.le_refl _) ha (fun b hb=>by unfold tryRecover;rw[hb])
 rw[show bJ P (ev P S n) 3 f args none m= .val v x h from hr] at hF
 obtain ⟨ι',v',w',cs',fr,f1,f2,f3,f4,f5,f6,f7,f8,f9⟩:=hF
 obtain ⟨rfl,_⟩:=f5.none
 refine ⟨.returned v',w',fr,⟨⟨ι',v',rfl,f1,f2⟩,⟨f4.os,f4.tape,f4.output,f4.size,fun k hk=>f4.frame k hk fun i p hi hl=>Hf hl (hlive i p hi)⟩⟩,f6,f8,cQ f7 f9⟩
theorem nS {P:Program} {S:aL} (hM:P.follows .mixedOrders=true) (hP:P.check= .ok ()) (hS:ay P S) {n f:Nat} {args:List NV} {v:NV} {x:Option NV} {h:NH} (hr:ki P S n f args= .val v x h) {args':List Value} (ha:VRL ι0 args args') (w:World) (hw:NG<=w.heap.size):
 Calls P f args'.toArray w fun e w'=>(∃ι v',e= .returned v'/\VR ι v v'/\Rel P ι w.heap.size h w')/\Below w.heap.size w w':=
 ic hM hP hS hr (CH P w hw) (fun i p hi=>by rw[ej hi];exact bI) ha
theorem pq {P:Program} {S:aL} (hM:P.follows .mixedOrders=true) (hP:P.check= .ok ()) (hS:ay P S) {m:NH} {n f:Nat} {args:List NV} (hr:nw (g5 m P S n f args)=true)
 {ι:aD} {w:World} (hR:Rel P ι w.heap.size m w) (hlive:∀i p,ι i=some p->¬Live (m.get i)) {args':List Value} (ha:VRL ι args args'):
 Calls P f args'.toArray w fun e w'=>e= .returned (.bool true)/\Below w.heap.size w w':=by
 unfold nw at hr
 split at hr
 ·rename_i b x h hv
  subst hr
  refine (ic hM hP hS hv hR hlive ha).mono ?_
  rintro e w' ⟨⟨ι,v',he,hvr,_⟩,hb⟩
  cases hvr
  exact ⟨he,hb⟩
 ·cases hr
theorem pR {P:Program} {S:aL} (hM:P.follows .mixedOrders=true) (hP:P.check= .ok ()) (hS:ay P S) {n f:Nat} {args:List NV} (hr:gX P S n f args=true) {args':List Value} (ha:VRL ι0 args args') (w:World) (hw:NG<=w.heap.size):
 Calls P f args'.toArray w fun e w'=>e= .returned (.bool true)/\Below w.heap.size w w':=
 pq hM hP hS hr (CH P w hw) (fun i p hi=>by rw[ej hi];exact bI) ha
end Nm
namespace Nm
open Go Go.RowKit
variable [Val]
mutual
def b0:NV->Bool
 | .bool _| .int _ _| .str _| .nilp| .nils| .nilm| .nilf| .nili=>true
 | .ifc _ v=>b0 v
 | .agg l=>bu l
 | .tup l=>bu l
 |_=>false
def bu:List NV->Bool
 | []=>true
 |v::l=>b0 v&&bu l
end
mutual
theorem VR.plain {ι ι':aD}:∀{v:NV} {v':Value},VR ι v v'->b0 v=true->VR ι' v v'
 |_,_,.bool b,_=> .bool b
 |_,_,.int k n,_=> .int k n
 |_,_,.ige k a n h,_=> .ige k a n h
 |_,_,.ile k a n h,_=> .ile k a n h
 |_,_,.sym k c ts n h hn,_=> .sym k c ts n h hn
 |_,_,.str l s h,_=> .str l s h
 |_,_,.nilp,_=> .nilp
 |_,_,.ptr ..,h=>by simp[b0] at h
 |_,_,.nils,_=> .nils
 |_,_,.slc ..,h=>by simp[b0] at h
 |_,_,.nilm,_=> .nilm
 |_,_,.map ..,h=>by simp[b0] at h
 |_,_,.nilf,_=> .nilf
 |_,_,.fn ..,h=>by simp[b0] at h
 |_,_,.yld ..,h=>by simp[b0] at h
 |_,_,.nili,_=> .nili
 |_,_,.ifc t v v' h,k=> .ifc t v v' (VR.plain h (by simpa [b0] using k))
 |_,_,.agg l l' h h1,k=> .agg l l' (VRL.plain h (by simpa [b0] using k)) h1
 |_,_,.tup l l' h,k=> .tup l l' (VRL.plain h (by simpa [b0] using k))
theorem VRL.plain {ι ι':aD}:∀{l:List NV} {l':List Value},VRL ι l l'->bu l=true->VRL ι' l l'
 |_,_,.nil,_=> .nil
 |_,_,.cons v v' l l' h hl,k=> .cons v v' l l' (VR.plain h (by simp[bu] at k;exact k.1)) (VRL.plain hl (by simp[bu] at k;exact k.2))
end
noncomputable def aT (f:Nat) (args:List NV) (v:NV) (S:aL):aL:=fun g l=>
 cond (Nat.beq g f) (cond (dz (ck 3) l args) (fun h=>some (v,h)) (S g l)) (S g l)
noncomputable def aH (cf:Nat->Option NFn) (S:aL) (n f:Nat) (args:List NV) (v:NV):Bool:=
 match ki cf S n f args with
 | .val u _ _=>cond (bu args) (cond (b0 v) (ck 5 u v) false) false
 |_=>false
omit [Val] in
theorem li {P:Program} {self:Option D4->NC->Dyn->Res} {d f:Nat} {args:List NV} {ctx:Option NV} {h:NH} (hn:bJ P self d f args ctx h≠.fail):∃nf,ag P f=some (.code nf):=by
 cases d with
 |zero=>exact Hf rfl hn
 |succ d=>
  rw[e8] at hn
  cases hc:ag P f with
  |none=>rw[hc] at hn;exact Hf rfl hn
  |some x=>
   cases x with
   |code nf=>exact ⟨nf,rfl⟩
   |ext e=>rw[hc] at hn;exact Hf rfl hn
theorem au {P:Program} {S:aL} (hM:P.follows .mixedOrders=true) (hP:P.check= .ok ()) (hS:ay P S) {n f:Nat} {args:List NV} {v:NV} (hr:aH P S n f args v=true):ay P (aT f args v S):=by
 intro ι B h w g l l' u hh hg hR hB hl
 have hg':cond (Nat.beq g f) (cond (dz (ck 3) l args) (fun h=>some (v,h)) (S g l)) (S g l) h=some (u,hh):=hg
 by_cases h1:Nat.beq g f=true/\dz (ck 3) l args=true
 ·obtain ⟨h2,h3⟩:=h1
  rw[h2,h3] at hg'
  cases hg'
  have:=Hk h2
  subst this
  have:=bK (bH 3) h3
  subst this
  unfold aH at hr
  split at hr
  ·rename_i u x h0 hrun
   obtain ⟨p1,hr⟩:=bg hr
   obtain ⟨p2,hr⟩:=bg hr
   have:=bH _ _ _ hr
   subst this
   intro c cs
   have hcalls:=nS hM hP hS hrun (hl.plain p1) w hR.room
   obtain ⟨e,w',fr,⟨⟨ι1,v',he,hv,_⟩,hb⟩,hcomes,hfn,hleave⟩:=hcalls (c::cs)
   subst he
   obtain ⟨nf,hnf⟩:=li (show bJ P (ev P S n) 3 g l none G0≠.fail by rw[show bJ P (ev P S n) 3 g l none G0=_ from hrun];simp)
   obtain ⟨fn,code,e1,e2,e3,_⟩:=ef hnf
   refine ⟨ι,v',w',hv.plain p2,⟨fun i p hi=> ?_,hR.inj,hR.base,fun i p hi=>Nat.lt_of_lt_of_le (hR.lt i p hi) hb.size,hR.fresh,hR.gl⟩,Nat.le_trans hB hb.size, ?_,.inr ⟨w,.inl ⟨g,l'.toArray,fZ e1 e2 e3 _ w,Steps.trans hcomes (.one (step_leave_returned hleave))⟩⟩⟩
   ·obtain ⟨o,o1,o2⟩:=hR.obj i p hi
    exact ⟨o,o1,o2.mono (aD.le_refl _) (hb.block _ (hR.lt i p hi))⟩
   ·exact ⟨aD.le_refl _,Nat.le_refl _,fun _ _ x=> .inl x,fun i p x y=> .inr ⟨i,p,x,y,rfl⟩,fun _ _ _=>rfl,hb.size,hb.os,hb.tape,hb.output,fun b hb' _=>hb.block b hb'⟩
  ·cases hr
 ·have:S g l h=some (u,hh):=by
   cases h2:Nat.beq g f with
   |false=>rw[h2] at hg';exact hg'
   |true=>
    rw[h2] at hg'
    cases h3:dz (ck 3) l args with
    |false=>rw[h3] at hg';exact hg'
    |true=>exact Hf ⟨h2,h3⟩ h1
  exact hS ι B h w g l l' u hh this hR hB hl
noncomputable def ah (P:Program) (k:Nat) (nf:NFun) (f:Nat):Option NFn:=cond (Nat.beq f k) (some (.code nf)) (ag P f)
noncomputable def ai (m:Nat) (a b:Nat->Option NFn) (f:Nat):Option NFn:=cond (Nat.ble f m) (a f) (b f)
def bZ (P:Program) (cf:Nat->Option NFn):Prop:=∀f,cf f=ag P f
omit [Val] in
theorem ae {P:Program} {k:Nat} {nf:NFun} (h:ag P k=some (.code nf)):bZ P (ah P k nf):=fun f=>by
 unfold ah
 cases hb:Nat.beq f k with
 |false=>rfl
 |true=>rw[Hk hb];exact h.symm
omit [Val] in
theorem af {P:Program} {m:Nat} {a b:Nat->Option NFn} (ha:bZ P a) (hb:bZ P b):bZ P (ai m a b):=fun f=>by
 unfold ai
 cases Nat.ble f m with
 |false=>exact hb f
 |true=>exact ha f
omit [Val] in
theorem bZ.run {P:Program} {cf:Nat->Option NFn} (h:bZ P cf) {S:aL} {n f:Nat} {args:List NV} (hr:gX cf S n f args=true):gX P S n f args=true:=by
 have e:cf=ag P:=funext h
 rw[e] at hr;exact hr
omit [Val] in
theorem bZ.kept {P:Program} {cf:Nat->Option NFn} (h:bZ P cf) {S:aL} {n f:Nat} {args:List NV} {v:NV} (hr:aH cf S n f args v=true):aH P S n f args v=true:=by
 have e:cf=ag P:=funext h
 rw[e] at hr;exact hr
end Nm
namespace Nm
open Go Go.RowKit
noncomputable section
end
end Nm
namespace Nm
open Go Go.RowKit
def Le (a b:Option D4->NC->Dyn->Res):Prop:=∀r c d o d',a r c d= .mk o d'->b r c d= .mk o d'
section
variable {P:Program} {S:aL} {a b:Option D4->NC->Dyn->Res}
theorem ec {F G:Nat->List NV->Option NV->NH->CR} (h:∀f l p m r,F f l p m=r->r≠.fail->G f l p m=r) {K:Option NV->NH->CR}:∀(l:List Dfr) (p:Option NV) (m:NH) (r:CR),unwind F K l p m=r->r≠.fail->unwind G K l p m=r:=by
 intro l
 induction l with
 |nil=>exact fun p m r e _=>e
 |cons c l ih=>
  intro p m r e hr
  rw[gL] at e ⊢
  cases c with
  |mark id=>
   dsimp only at e ⊢
   split at e
   ·exact ih _ _ _ e hr
   ·exact Hf e.symm hr
  |call f cap=>
   dsimp only at e ⊢
   cases hf:F f cap p m with
   |fail=>rw[hf] at e;exact Hf e.symm hr
   |pan v x m'=>rw[hf] at e;exact Hf e.symm hr
   |val v x m'=>
    rw[hf] at e
    rw[h f cap p m _ hf (by simp)]
    exact ih _ _ _ e hr
theorem mV (h:Le a b):∀(d f:Nat) (l:List NV) (p:Option NV) (m:NH) (r:CR),bJ P a d f l p m=r->r≠.fail->bJ P b d f l p m=r:=by
 intro d
 induction d with
 |zero=>intro f l p m r e hr;exact Hf e.symm hr
 |succ d ih=>
  intro f l p m r e hr
  rw[e8] at e ⊢
  cases hc:ag P f with
  |none=>rw[hc] at e;exact Hf e.symm hr
  |some x=>
   cases x with
   |ext x=>rw[hc] at e;exact Hf e.symm hr
   |code nf=>
    rw[hc] at e
    dsimp only at e ⊢
    cases ha:a none nf.body ⟨dl l 0 .leaf, [],p,m⟩ with
    |fail=>rw[ha] at e;exact Hf e.symm hr
    |mk o d'=>
     rw[ha] at e
     rw[h _ _ _ _ _ ha]
     cases o with
     |norm=>exact ec (fun f l p m r=>ih f l p m r) _ _ _ _ e hr
     |ret=>exact ec (fun f l p m r=>ih f l p m r) _ _ _ _ e hr
     |pan v=>exact ec (fun f l p m r=>ih f l p m r) _ _ _ _ e hr
     |exit id=>exact Hf e.symm hr
theorem cB (h:Le a b) {f:Nat} {l:List NV} {m:NH} {r:CR} (e:bk P S a f l m=r) (hr:r≠.fail):bk P S b f l m=r:=by
 unfold bk at e ⊢
 cases hs:S f l m with
 |some v=>rw[hs] at e;exact e
 |none=>
  rw[hs] at e
  dsimp only at e ⊢
  cases hc:ag P f with
  |none=>rw[hc] at e;exact e
  |some x=>
   rw[hc] at e
   cases x with
   |ext x=>exact e
   |code nf=>exact mV h _ _ _ _ _ _ e hr
theorem i7 (h:Le a b) {l:D4} {bd:NC} {t:Tm} {m:NH} {r:CR} (e:bp a l bd t m=r) (hr:r≠.fail):bp b l bd t m=r:=by
 unfold bp at e ⊢
 split at e
 ·rename_i p tm ps assign body hm
  rw[NH.set_eq] at e ⊢
  cases ha:a (some l) bd ⟨t, [],none,m.put l (.loop 1 p tm ps assign body)⟩ with
  |fail=>rw[ha] at e;exact Hf e.symm hr
  |mk o d=>rw[ha] at e;rw[h _ _ _ _ _ ha];exact e
 ·exact Hf e.symm hr
theorem mT (h:Le a b) {l:D4} {args:List NV} {m:NH} {r:CR} (e:round a l args m=r) (hr:r≠.fail):round b l args m=r:=by
 unfold round at e ⊢
 split at e
 ·rename_i x tm ps assign body hm
  obtain ⟨h1,h2⟩:=gG hr e
  have key:∀K:Tm->CR,bX .fail ps args tm K=K (kh ps args tm):=by
   clear e h2 hm
   intro K
   induction ps generalizing args tm with
   |nil=>cases args with
    |nil=>rfl
    |cons=>simp at h1
   |cons q ps ih=>
    cases args with
    |nil=>simp at h1
    |cons v vs=>
     have e:bX .fail (q::ps) (v::vs) tm K=NT.set q v tm fun t=>bX .fail ps vs t K:=rfl
     rw[e,NT.set_eq]
     exact ih _ (by simpa using h1)
  rw[key]
  cases ha:a (some l) assign ⟨kh ps args tm, [],none,m⟩ with
  |fail=>rw[ha] at h2;exact Hf h2.symm hr
  |mk o d=>
   rw[ha] at h2
   rw[h _ _ _ _ _ ha]
   cases o with
   |norm=>
    dsimp only at h2 ⊢
    split at h2
    ·exact i7 h h2 hr
    ·exact Hf h2.symm hr
   |_=>exact Hf h2.symm hr
 ·exact Hf e.symm hr
theorem iQ (h:Le a b) {rnd:Option D4} {dfs:List Dfr} {ctx:Option NV} {m:NH} {x:NR} {r:OpO} (e:bY P S a rnd dfs ctx m x=r) (hr:r≠.fail):bY P S b rnd dfs ctx m x=r:=by
 cases x with
 |call f l=>
  have e':pG dfs ctx (bk P S a f l m)=r:=e
  have hn:bk P S a f l m≠.fail:=fun hh=>by rw[hh] at e';exact hr e'.symm
  show pG dfs ctx (bk P S b f l m)=r
  rw[cB h rfl hn];exact e'
 |yld l args=>
  have e':pG dfs ctx (round a l args m)=r:=e
  have hn:round a l args m≠.fail:=fun hh=>by rw[hh] at e';exact hr e'.symm
  show pG dfs ctx (round b l args m)=r
  rw[mT h rfl hn];exact e'
 |_=>exact e
theorem sQ {dst:Option D4} {K L:Dyn->Res} (hk:∀d o d',K d= .mk o d'->L d= .mk o d') {t:Tm} {dfs:List Dfr} {ctx:Option NV} {x:OpO} {o:Out} {d':Dyn} (e:rc dst K t dfs ctx x= .mk o d'):rc dst L t dfs ctx x= .mk o d':=by
 cases x with
 |fail=>cases e
 |next v dfs ctx h=>exact hk _ _ _ e
 |pan v h=>exact e
theorem C0 {dst:Option D4} {K:Dyn->Res} {t:Tm} {dfs:List Dfr} {ctx:Option NV} {x:OpO} {o:Out} {d':Dyn} (e:rc dst K t dfs ctx x= .mk o d'):x≠.fail:=by
 rintro rfl;cases e
theorem gK (h:Le a b) {rnd:Option D4}:∀(l:List NOper) (d:Dyn) (o:Out) (d':Dyn),bN P S a rnd l d= .mk o d'->bN P S b rnd l d= .mk o d':=by
 intro l
 induction l with
 |nil=>exact fun d o d' e=>e
 |cons x l ih=>
  rintro ⟨t,dfs,ctx,m⟩ o d' e
  rw[bR] at e ⊢
  cases hg:aA t x.guard with
  |none=>rw[hg] at e;cases e
  |some on=>
   rw[hg] at e
   cases on with
   |false=>exact ih _ _ _ e
   |true=>
    dsimp only at e ⊢
    rw[iQ h rfl (C0 e)]
    exact sQ ih e
theorem jH (h:Le a b) {rnd:Option D4}:∀(l:List NOper) (hs:List (Nat×NH)) (rs:List (Nat×(NH->NR)×NV)) (d:Dyn) (o:Out) (d':Dyn),bc P S a rnd l hs rs d= .mk o d'->bc P S b rnd l hs rs d= .mk o d':=by
 intro l
 induction l with
 |nil=>exact fun hs rs d o d' e=>e
 |cons x l ih=>
  rintro hs rs ⟨t,dfs,ctx,m⟩ o d' e
  rw[bT] at e ⊢
  cases hg:aA t x.guard with
  |none=>rw[hg] at e;cases e
  |some on=>
   rw[hg] at e
   cases on with
   |false=>exact ih _ _ _ _ _ e
   |true=>
    dsimp only at e ⊢
    cases hcl:aq x.op with
    |pure=>
     rw[hcl] at e
     dsimp only at e ⊢
     cases hop:ak x.op t m<;>rw[hop] at e<;>first|exact ih _ _ _ _ _ e|cases e
    |alloc=>
     rw[hcl] at e
     dsimp only at e ⊢
     cases ha:ahead x.pre hs with
     |false=>rw[ha] at e;cases e
     |true=>
      rw[ha] at e
      simp only[cond_true] at e ⊢
      cases hop:ak x.op t m<;>rw[hop] at e<;>first|exact ih _ _ _ _ _ e|cases e
    |read=>
     rw[hcl] at e
     dsimp only at e ⊢
     cases hop:ak x.op t m with
     |val v=>
      rw[hop] at e
      dsimp only at e ⊢
      cases hst:dO x.pre (ak x.op t) v hs with
      |false=>rw[hst] at e;cases e
      |true=>rw[hst] at e;exact ih _ _ _ _ _ e
     |_=>rw[hop] at e;cases e
    |eff=>
     rw[hcl] at e
     dsimp only at e ⊢
     cases ha:ahead x.pre hs with
     |false=>rw[ha] at e;cases e
     |true=>
      rw[ha] at e
      simp only[cond_true] at e ⊢
      have hk:∀d o d',cond (bh x.pre d.h rs) (bc P S a rnd l ((x.idx,m)::hs) rs d) .fail= .mk o d'->cond (bh x.pre d.h rs) (bc P S b rnd l ((x.idx,m)::hs) rs d) .fail= .mk o d':=by
       intro d o d' e
       cases hs':bh x.pre d.h rs with
       |false=>rw[hs'] at e;cases e
       |true=>rw[hs'] at e;exact ih _ _ _ _ _ e
      have hne:bY P S a rnd dfs ctx m (ak x.op t m)≠.fail:=by
       intro hh
       rw[hh] at e
       cases e
      rw[iQ h rfl hne]
      cases hoo:bY P S a rnd dfs ctx m (ak x.op t m) with
      |fail=>exact Hf hoo hne
      |pan v m'=>rw[hoo] at e;exact e
      |next v dfs1 ctx1 m'=>
       rw[hoo] at e
       have e':cp (bW x.idx l) (cond (bh x.pre m' rs) (bc P S a rnd l ((x.idx,m)::hs) rs ⟨aS x.dst v t,dfs1,ctx1,m'⟩) .fail)= .mk o d':=e
       show cp (bW x.idx l) (cond (bh x.pre m' rs) (bc P S b rnd l ((x.idx,m)::hs) rs ⟨aS x.dst v t,dfs1,ctx1,m'⟩) .fail)= .mk o d'
       cases hin:cond (bh x.pre m' rs) (bc P S a rnd l ((x.idx,m)::hs) rs ⟨aS x.dst v t,dfs1,ctx1,m'⟩) .fail with
       |fail=>rw[hin] at e';cases e'
       |mk o2 d2=>
        have:=hk ⟨aS x.dst v t,dfs1,ctx1,m'⟩ o2 d2 hin
        rw[hin] at e'
        rw[show cond (bh x.pre m' rs) (bc P S b rnd l ((x.idx,m)::hs) rs ⟨aS x.dst v t,dfs1,ctx1,m'⟩) .fail= .mk o2 d2 from this]
        exact e'
theorem fQ (h:Le a b) {f:Nat} {cap:List NV} {ps:List D4} {x y:NC} {t:Tm} {dfs:List Dfr} {ctx:Option NV} {m:NH} {o:Out} {d':Dyn} (e:bt P S a f cap ps x y t dfs ctx m= .mk o d'):bt P S b f cap ps x y t dfs ctx m= .mk o d':=by
 unfold bt at e ⊢
 rw[NH.new_eq] at e ⊢
 cases hc:bk P S a f (.yld m.next::cap) (m.add (.loop 0 .none t ps x y)) with
 |fail=>rw[hc] at e;cases e
 |val v c m'=>rw[hc] at e;rw[cB h hc (by simp)];exact e
 |pan v c m'=>rw[hc] at e;rw[cB h hc (by simp)];exact e
theorem mw (h:Le a b):Le (iw P S a) (iw P S b):=by
 intro r c d o d' e
 cases c with
 |skip=>exact e
 |reg l=>exact gK h _ _ _ _ e
 |regD l=>
  have e':(match bc P S a r l [] [] d with| .mk (.pan v) d=>Res.mk (.pan v) ⟨jN l d.t,d.dfs,d.ctx,d.h⟩|r=>r)= .mk o d':=e
  show (match bc P S b r l [] [] d with| .mk (.pan v) d=>Res.mk (.pan v) ⟨jN l d.t,d.dfs,d.ctx,d.h⟩|r=>r)= .mk o d'
  cases hr:bc P S a r l [] [] d with
  |fail=>rw[hr] at e';cases e'
  |mk o2 d2=>rw[hr] at e';rw[jH h _ _ _ _ _ _ hr];exact e'
 |seq x y=>
  have e':(match a r x d with| .mk o d=>(match o with| .norm=>a r y d|o=> .mk o d)| .fail=> .fail)=Res.mk o d':=(m8 (cf:=P) (S:=S)).symm.trans e
  refine (m8 (cf:=P) (S:=S)).trans ?_
  show (match b r x d with| .mk o d=>(match o with| .norm=>b r y d|o=> .mk o d)| .fail=> .fail)=Res.mk o d'
  cases hx:a r x d with
  |fail=>rw[hx] at e';cases e'
  |mk o2 d2=>
   rw[hx] at e'
   rw[h _ _ _ _ _ hx]
   cases o2 with
   |norm=>exact h _ _ _ _ _ e'
   |_=>exact e'
 |cond g x y=>
  have e':(match ρ d.t g with|some (.bool c)=>(Bool.rec (a r y d) (a r x d) c:Res)|_=> .fail)=Res.mk o d':=(kx (cf:=P) (S:=S)).symm.trans e
  refine (kx (cf:=P) (S:=S)).trans ?_
  show (match ρ d.t g with|some (.bool c)=>(Bool.rec (b r y d) (b r x d) c:Res)|_=> .fail)=Res.mk o d'
  cases hg:ρ d.t g with
  |none=>rw[hg] at e';cases e'
  |some v=>
   rw[hg] at e'
   cases v with
   |bool q=>cases q<;>exact h _ _ _ _ _ e'
   |_=>cases e'
 |block id x=>
  have e':(match a r x d with| .mk o d=>(match o with| .exit i=>cond (Nat.beq i id) (.mk .norm d) (.mk (.exit i) d)|o=> .mk o d)| .fail=> .fail)=Res.mk o d':=(ia (cf:=P) (S:=S)).symm.trans e
  refine (ia (cf:=P) (S:=S)).trans ?_
  show (match b r x d with| .mk o d=>(match o with| .exit i=>cond (Nat.beq i id) (.mk .norm d) (.mk (.exit i) d)|o=> .mk o d)| .fail=> .fail)=Res.mk o d'
  cases hx:a r x d with
  |fail=>rw[hx] at e';cases e'
  |mk o2 d2=>rw[hx] at e';rw[h _ _ _ _ _ hx];exact e'
 |loop x=>
  have e':(match a r x d with| .mk o d=>(match o with| .norm=>a r (.loop x) d|o=> .mk o d)| .fail=> .fail)=Res.mk o d':=(j6 (cf:=P) (S:=S)).symm.trans e
  refine (j6 (cf:=P) (S:=S)).trans ?_
  show (match b r x d with| .mk o d=>(match o with| .norm=>b r (.loop x) d|o=> .mk o d)| .fail=> .fail)=Res.mk o d'
  cases hx:a r x d with
  |fail=>rw[hx] at e';cases e'
  |mk o2 d2=>
   rw[hx] at e'
   rw[h _ _ _ _ _ hx]
   cases o2 with
   |norm=>exact h _ _ _ _ _ e'
   |_=>exact e'
 |rangeFunc f ps x y=>
  obtain ⟨t,dfs,ctx,m⟩:=d
  have e':(match ρ t f with
   |some (.fn f cap)=>(match (generalizing:=false) r with
    |none=>m.new (.defd true) fun q m=>bt P S a f cap ps x y t (.mark q::dfs) ctx m
    |some l=>(match m.get l with
     |some (.loop ..)=>bt P S a f cap ps x y t dfs ctx m
     |_=> .fail))
   |_=> .fail)=Res.mk o d':=e
  show (match ρ t f with
   |some (.fn f cap)=>(match (generalizing:=false) r with
    |none=>m.new (.defd true) fun q m=>bt P S b f cap ps x y t (.mark q::dfs) ctx m
    |some l=>(match m.get l with
     |some (.loop ..)=>bt P S b f cap ps x y t dfs ctx m
     |_=> .fail))
   |_=> .fail)=Res.mk o d'
  cases hf:ρ t f with
  |none=>rw[hf] at e';cases e'
  |some v=>
   rw[hf] at e'
   cases v with
   |fn f cap=>
    dsimp only at e' ⊢
    cases r with
    |none=>
     dsimp only at e' ⊢
     rw[NH.new_eq] at e' ⊢
     exact fQ h e'
    |some l=>
     dsimp only at e' ⊢
     split at e'
     ·exact fQ h e'
     ·cases e'
   |_=>cases e'
 |exit id=>exact e
 |ret=>exact e
theorem xP:∀n,Le (ev P S n) (ev P S (n+1)):=by
 intro n
 induction n with
 |zero=>intro r c d o d' e;cases e
 |succ n ih=>exact mw ih
theorem b9 {n m:Nat} (hnm:n<=m):Le (ev P S n) (ev P S m):=by
 induction m with
 |zero=>
  have:n=0:=by omega
  subst this;exact fun _ _ _ _ _ e=>e
 |succ m ih=>
  by_cases h:n=m+1
  ·subst h;exact fun _ _ _ _ _ e=>e
  ·exact fun r c d o d' e=>xP m r c d o d' (ih (by omega) r c d o d' e)
end
def fS (P:Program) (S:aL) (r:Option D4) (c:NC) (d:Dyn) (o:Out) (d':Dyn):Prop:=∃n,ev P S n r c d= .mk o d'
def Call (P:Program) (S:aL) (f:Nat) (l:List NV) (m:NH) (x:CR):Prop:=x≠.fail/\∃n,bk P S (ev P S n) f l m=x
def pz (P:Program) (S:aL) (r:Option D4) (l:List NOper) (d:Dyn) (o:Out) (d':Dyn):Prop:=∃n,bN P S (ev P S n) r l d= .mk o d'
section
variable {P:Program} {S:aL} {r:Option D4}
theorem fS.skip (d:Dyn):fS P S r .skip d .norm d:=⟨1,rfl⟩
theorem fS.ret (d:Dyn):fS P S r .ret d .ret d:=⟨1,rfl⟩
theorem fS.exit (id:Nat) (d:Dyn):fS P S r (.exit id) d (.exit id) d:=⟨1,rfl⟩
theorem fS.seq {x y:NC} {d d1 d2:Dyn} {o:Out} (hx:fS P S r x d .norm d1) (hy:fS P S r y d1 o d2):fS P S r (.seq x y) d o d2:=by
 obtain ⟨n,hn⟩:=hx
 obtain ⟨m,hm⟩:=hy
 refine ⟨max n m+1, ?_⟩
 refine vS.trans ?_
 show (match ev P S (max n m) r x d with| .mk o d=>(match o with| .norm=>ev P S (max n m) r y d|o=> .mk o d)| .fail=> .fail)=Res.mk o d2
 rw[b9 (Nat.le_max_left n m) _ _ _ _ _ hn]
 exact b9 (Nat.le_max_right n m) _ _ _ _ _ hm
theorem fS.cond {g:NOpd} {q:Bool} {x y:NC} {d d1:Dyn} {o:Out} (hg:ρ d.t g=some (.bool q)) (h:fS P S r (if q then x else y) d o d1):fS P S r (.cond g x y) d o d1:=by
 obtain ⟨n,hn⟩:=h
 refine ⟨n+1, ?_⟩
 refine nQ.trans ?_
 show (match ρ d.t g with|some (.bool c)=>(Bool.rec (ev P S n r y d) (ev P S n r x d) c:Res)|_=> .fail)=Res.mk o d1
 rw[hg]
 cases q<;>exact hn
theorem fS.block {id:Nat} {x:NC} {d d1:Dyn} {o:Out} (h:fS P S r x d o d1):fS P S r (.block id x) d (match o with| .exit i=>_root_.cond (Nat.beq i id) .norm (.exit i)|o=>o) d1:=by
 obtain ⟨n,hn⟩:=h
 refine ⟨n+1, ?_⟩
 refine lQ.trans ?_
 show (match ev P S n r x d with| .mk o d=>(match o with| .exit i=>_root_.cond (Nat.beq i id) (Res.mk .norm d) (Res.mk (.exit i) d)|o=>Res.mk o d)| .fail=>Res.fail)=_
 rw[hn]
 cases o with
 |exit i=>dsimp only;cases Nat.beq i id<;>rfl
 |_=>rfl
theorem fS.loop {x:NC} {d d1 d2:Dyn} {o:Out} (hx:fS P S r x d .norm d1) (hy:fS P S r (.loop x) d1 o d2):fS P S r (.loop x) d o d2:=by
 obtain ⟨n,hn⟩:=hx
 obtain ⟨m,hm⟩:=hy
 refine ⟨max n m+1, ?_⟩
 refine jQ.trans ?_
 show (match ev P S (max n m) r x d with| .mk o d=>(match o with| .norm=>ev P S (max n m) r (.loop x) d|o=> .mk o d)| .fail=> .fail)=Res.mk o d2
 rw[b9 (Nat.le_max_left n m) _ _ _ _ _ hn]
 exact b9 (Nat.le_max_right n m) _ _ _ _ _ hm
theorem fS.loop_out {x:NC} {d d1:Dyn} {o:Out} (hx:fS P S r x d o d1) (ho:o≠.norm):fS P S r (.loop x) d o d1:=by
 obtain ⟨n,hn⟩:=hx
 refine ⟨n+1, ?_⟩
 refine jQ.trans ?_
 show (match ev P S n r x d with| .mk o d=>(match o with| .norm=>ev P S n r (.loop x) d|o=> .mk o d)| .fail=> .fail)=Res.mk o d1
 rw[hn]
 cases o<;>first|rfl|exact Hf rfl ho
theorem pz.nil (d:Dyn):pz P S r [] d .norm d:=⟨0,rfl⟩
theorem pz.val {x:NOper} {l:List NOper} {t:Tm} {dfs:List Dfr} {ctx:Option NV} {m:NH} {o:Out} {d1:Dyn} {v:NV} (hg:aA t x.guard=some true) (hop:ak x.op t m= .val v)
 (h:pz P S r l ⟨aS x.dst v t,dfs,ctx,m⟩ o d1):pz P S r (x::l) ⟨t,dfs,ctx,m⟩ o d1:=by
 obtain ⟨n,hn⟩:=h
 refine ⟨n, ?_⟩
 rw[bR,hg,hop]
 exact hn
theorem pz.mem {x:NOper} {l:List NOper} {t:Tm} {dfs:List Dfr} {ctx:Option NV} {m m':NH} {o:Out} {d1:Dyn} {v:NV} (hg:aA t x.guard=some true) (hop:ak x.op t m= .mem v m')
 (h:pz P S r l ⟨aS x.dst v t,dfs,ctx,m'⟩ o d1):pz P S r (x::l) ⟨t,dfs,ctx,m⟩ o d1:=by
 obtain ⟨n,hn⟩:=h
 refine ⟨n, ?_⟩
 rw[bR,hg,hop]
 exact hn
theorem pz.call {x:NOper} {l:List NOper} {t:Tm} {dfs:List Dfr} {ctx:Option NV} {m m':NH} {o:Out} {d1:Dyn} {f:Nat} {args:List NV} {v:NV} {c:Option NV} (hg:aA t x.guard=some true) (hop:ak x.op t m= .call f args)
 (hc:Call P S f args m (.val v c m')) (h:pz P S r l ⟨aS x.dst v t,dfs,ctx,m'⟩ o d1):pz P S r (x::l) ⟨t,dfs,ctx,m⟩ o d1:=by
 obtain ⟨n,hn⟩:=h
 obtain ⟨hne,k,hk⟩:=hc
 refine ⟨max n k, ?_⟩
 rw[bR,hg,hop]
 show rc x.dst (bN P S (ev P S (max n k)) r l) t dfs ctx (pG dfs ctx (bk P S (ev P S (max n k)) f args m))=_
 rw[cB (b9 (Nat.le_max_right n k)) hk hne]
 exact gK (b9 (Nat.le_max_left n k)) _ _ _ _ hn
variable [Val] in
end
end Nm
namespace Nm
open Go Go.RowKit
noncomputable def j8:List (D4×NV)->Tm->Tm
 | [],t=>t
 |p::l,t=>NT.put p.1 p.2 (j8 l t)
theorem nz (k:D4):fB k k=true:=by
 induction k with
 |e=>rfl
 |a d ih=>exact ih
 |b d ih=>exact ih
 |c d ih=>exact ih
 |f d ih=>exact ih
def cI (P:Program) (S:aL) (r:Option D4) (l:List NOper) (hs:List (Nat×NH)) (rs:List (Nat×(NH->NR)×NV)) (d:Dyn) (o:Out) (d':Dyn):Prop:=∃n,bc P S (ev P S n) r l hs rs d= .mk o d'
section
variable {P:Program} {S:aL} {r:Option D4} {x:NOper} {l:List NOper} {hs:List (Nat×NH)} {rs:List (Nat×(NH->NR)×NV)} {t:Tm} {dfs:List Dfr} {ctx:Option NV} {m m':NH} {o:Out} {d d1:Dyn} {v:NV}
theorem cI.nil (d:Dyn):cI P S r [] hs rs d .norm d:=⟨0,rfl⟩
theorem cI.pure (hg:aA t x.guard=some true) (hc:aq x.op= .pure) (hop:ak x.op t m= .val v) (h:cI P S r l hs rs ⟨aS x.dst v t,dfs,ctx,m⟩ o d1):cI P S r (x::l) hs rs ⟨t,dfs,ctx,m⟩ o d1:=by
 obtain ⟨n,hn⟩:=h
 exact ⟨n,by rw[bT,hg];dsimp only;rw[hc];dsimp only;rw[hop];exact hn⟩
theorem cI.alloc (hg:aA t x.guard=some true) (hc:aq x.op= .alloc) (ha:ahead x.pre hs=true) (hop:ak x.op t m= .mem v m') (h:cI P S r l hs rs ⟨aS x.dst v t,dfs,ctx,m'⟩ o d1):cI P S r (x::l) hs rs ⟨t,dfs,ctx,m⟩ o d1:=by
 obtain ⟨n,hn⟩:=h
 exact ⟨n,by rw[bT,hg];dsimp only;rw[hc];dsimp only;rw[ha,hop];exact hn⟩
theorem cI.eff (hg:aA t x.guard=some true) (hc:aq x.op= .eff) (ha:ahead x.pre hs=true) (hop:ak x.op t m= .mem v m') (hst:bh x.pre m' rs=true)
 (h:cI P S r l ((x.idx,m)::hs) rs ⟨aS x.dst v t,dfs,ctx,m'⟩ .norm d1):cI P S r (x::l) hs rs ⟨t,dfs,ctx,m⟩ .norm d1:=by
 obtain ⟨n,hn⟩:=h
 refine ⟨n, ?_⟩
 rw[bT,hg];dsimp only;rw[hc];dsimp only;rw[ha,hop]
 show cp (bW x.idx l) (cond (bh x.pre m' rs) (bc P S (ev P S n) r l ((x.idx,m)::hs) rs ⟨aS x.dst v t,dfs,ctx,m'⟩) .fail)=_
 rw[hst]
 show cp (bW x.idx l) (bc P S (ev P S n) r l ((x.idx,m)::hs) rs ⟨aS x.dst v t,dfs,ctx,m'⟩)=_
 rw[hn];rfl
theorem cI.call {f:Nat} {args:List NV} {c:Option NV} (hg:aA t x.guard=some true) (hc:aq x.op= .eff) (ha:ahead x.pre hs=true) (hop:ak x.op t m= .call f args) (hcall:Call P S f args m (.val v c m')) (hst:bh x.pre m' rs=true)
 (h:cI P S r l ((x.idx,m)::hs) rs ⟨aS x.dst v t,dfs,ctx,m'⟩ .norm d1):cI P S r (x::l) hs rs ⟨t,dfs,ctx,m⟩ .norm d1:=by
 obtain ⟨n,hn⟩:=h
 obtain ⟨hne,k,hk⟩:=hcall
 refine ⟨max n k, ?_⟩
 rw[bT,hg];dsimp only;rw[hc];dsimp only;rw[ha,hop]
 show cp (bW x.idx l) (rc x.dst (fun d=>cond (bh x.pre d.h rs) (bc P S (ev P S (max n k)) r l ((x.idx,m)::hs) rs d) .fail) t dfs ctx (pG dfs ctx (bk P S (ev P S (max n k)) f args m)))=_
 rw[cB (b9 (Nat.le_max_right n k)) hk hne]
 show cp (bW x.idx l) (cond (bh x.pre m' rs) (bc P S (ev P S (max n k)) r l ((x.idx,m)::hs) rs ⟨aS x.dst v t,dfs,ctx,m'⟩) .fail)=_
 rw[hst]
 show cp (bW x.idx l) (bc P S (ev P S (max n k)) r l ((x.idx,m)::hs) rs ⟨aS x.dst v t,dfs,ctx,m'⟩)=_
 rw[jH (b9 (Nat.le_max_left n k)) _ _ _ _ _ _ hn];rfl
end
def EL (P:Program) (S:aL) (l:D4) (args:List NV) (m:NH) (x:CR):Prop:=x≠.fail/\∃n,round (ev P S n) l args m=x
section
variable {P:Program} {S:aL} {r:Option D4} {x:NOper} {l:List NOper} {hs:List (Nat×NH)} {rs:List (Nat×(NH->NR)×NV)} {t:Tm} {dfs:List Dfr} {ctx:Option NV} {m m':NH} {o:Out} {d1:Dyn} {v:NV} {q:D4} {args:List NV} {c:Option NV}
end
section
variable {P:Program} {S:aL} {r:Option D4} {x:NOper} {l:List NOper} {hs:List (Nat×NH)} {rs:List (Nat×(NH->NR)×NV)} {L:List (D4×NV)} {t:Tm} {dfs:List Dfr} {ctx:Option NV} {m m':NH} {o:Out} {d1:Dyn} {v:NV} {k:D4}
theorem cI.p (hd:x.dst=some k) (hg:aA (j8 L t) x.guard=some true) (hc:aq x.op= .pure) (hop:ak x.op (j8 L t) m= .val v) (h:cI P S r l hs rs ⟨j8 ((k,v)::L) t,dfs,ctx,m⟩ o d1):cI P S r (x::l) hs rs ⟨j8 L t,dfs,ctx,m⟩ o d1:=
 cI.pure hg hc hop (by rw[hd];exact h)
theorem cI.c {f:Nat} {args:List NV} {c:Option NV} (hd:x.dst=some k) (hg:aA (j8 L t) x.guard=some true) (hc:aq x.op= .eff) (ha:ahead x.pre hs=true) (hop:ak x.op (j8 L t) m= .call f args) (hcall:Call P S f args m (.val v c m')) (hst:bh x.pre m' rs=true)
 (h:cI P S r l ((x.idx,m)::hs) rs ⟨j8 ((k,v)::L) t,dfs,ctx,m'⟩ .norm d1):cI P S r (x::l) hs rs ⟨j8 L t,dfs,ctx,m⟩ .norm d1:=
 cI.call hg hc ha hop hcall hst (by rw[hd];exact h)
end
section
variable {t:Tm} {m:NH}
end
end Nm
namespace Nm
open Go Go.RowKit
section
variable {P:Program} {S:aL} {r:Option D4}
theorem pz.pan {x:NOper} {l:List NOper} {t:Tm} {dfs:List Dfr} {ctx:Option NV} {m:NH} {v:NV} (hg:aA t x.guard=some true) (hop:ak x.op t m= .pan v):pz P S r (x::l) ⟨t,dfs,ctx,m⟩ (.pan v) ⟨t,dfs,ctx,m⟩:=by
 refine ⟨0, ?_⟩
 rw[bR,hg,hop];rfl
end
structure PE where
 p:Program
 E:NV->NH->Prop
instance:Coe Program PE:=⟨fun P=>⟨P,fun _ _=>False⟩⟩
def WF (P:PE) (S:aL) (f:Nat) (args:List NV) (m:NH) (K:NV->NH->Prop):Prop:=(∃v c m',Call P.p S f args m (.val v c m')/\K v m')∨∃v c m',Call P.p S f args m (.pan v c m')/\P.E v m'
def qE (P:PE) (Q:Out->Dyn->Prop) (o:Out) (d:Dyn):Prop:=match o with| .pan v=>d.dfs= []/\P.E v d.h|o=>Q o d
section
variable (P:PE) (S:aL) (r:Option D4)
def W (c:NC) (d:Dyn) (Q:Out->Dyn->Prop):Prop:=∃o d',fS P.p S r c d o d'/\qE P Q o d'
end
section
variable {P:PE} {S:aL} {r:Option D4}
theorem WF.ret' {P:Program} {f:Nat} {args:List NV} {m:NH} {K:NV->NH->Prop} (h:WF P S f args m K):∃v c m',Call P S f args m (.val v c m')/\K v m':=by
 rcases h with h|⟨_,_,_,_,h⟩
 ·exact h
 ·exact h.elim
theorem W.loop {c:NC} {Q:Out->Dyn->Prop} (I:Nat->Dyn->Prop) (h:∀k d,I k d->W P S r c d (fun o d'=>match o with| .norm=>∃j,j<k/\I j d'|o=>Q o d')):∀k d,I k d->W P S r (.loop c) d Q:=by
 intro k
 induction k using Nat.strongRecOn with
 |ind k ih=>
  intro d hd
  obtain ⟨o,d',h1,h2⟩:=h k d hd
  cases o with
  |norm=>
   obtain ⟨j,hj,hI⟩:=h2
   obtain ⟨o,d2,h3,h4⟩:=ih j hj d' hI
   exact ⟨o,d2,fS.loop h1 h3,h4⟩
  |_=>exact ⟨_,_,fS.loop_out h1 (by simp),h2⟩
theorem W.mono {c:NC} {d:Dyn} {Q Q':Out->Dyn->Prop} (h:W P S r c d Q) (hq:∀o d,Q o d->Q' o d):W P S r c d Q':=by
 obtain ⟨o,d',h1,h2⟩:=h
 refine ⟨o,d',h1, ?_⟩
 cases o with
 |pan v=>exact h2
 |_=>exact hq _ _ h2
end
end Nm
namespace Nm
open Go Go.RowKit
section
variable {P:PE} {S:aL} {r:Option D4} {dst:Option D4} {op:NOp} {pre idx:Nat} {l:List NOper} {hs:List (Nat×NH)} {rs:List (Nat×(NH->NR)×NV)}
 {L:List (D4×NV)} {t:Tm} {dfs:List Dfr} {ctx:Option NV} {m m':NH} {v:NV} {k k':D4} {d:Dyn} {Q:Out->Dyn->Prop} {K:Dyn->Prop} {A B:Prop}
section
variable {f:NH->NR}
end
end
section
variable {t:Tm} {m:NH}
end
end Nm
namespace Nm
open Go Go.RowKit
section
variable {P:Program} {S:aL} {L:List (D4×NV)} {t:Tm} {ctx:Option NV} {m:NH} {K:NV->NH->Prop} {k k1 k2 k3:D4}
end
end Nm
namespace Nm
open Go Go.RowKit
def na (m:NH) (j:Nat):D4:=D4.of (m.next.toNat+j)
def jY (m:NH) (id:D4):Prop:=id.toNat<m.next.toNat
instance (m:NH) (id:D4):Decidable (jY m id):=inferInstanceAs (Decidable (_<_))
inductive AK where
 |n (j:Nat)
 |o (id:D4)
noncomputable def EI (m:NH):List (AK×NO)->NT NO
 | []=>m.m
 |(.n j,x)::l=>NT.put (na m j) x (EI m l)
 |(.o id,x)::l=>if jY m id then NT.put id x (EI m l) else EI m l
noncomputable def hp (l:List (AK×NO)) (k:Nat) (m:NH):NH:=⟨EI m l,na m k⟩
section
variable {m:NH} {l:List (AK×NO)} {k j:Nat} {o:NO} {id:D4}
end
structure Chg (S:List D4) (m m':NH):Prop where
 next:m.next.toNat<=m'.next.toNat
 get:∀{id},jY m id->id∉S->m'.get id=m.get id
theorem Chg.old {S:List D4} {m m':NH} {id:D4} (h:Chg S m m') (ho:jY m id):jY m' id:=Nat.lt_of_lt_of_le ho h.next
theorem Chg.trans {S T:List D4} {a b c:NH} (h:Chg S a b) (h':Chg T b c) (hs:∀id,id∈T->jY a id->id∈S):Chg S a c:=
 ⟨Nat.le_trans h.1 h'.1,fun {id} ho hi=>(h'.2 (h.old ho) fun q=>hi (hs id q ho)).trans (h.2 ho hi)⟩
def Fd (P:Program) (S:aL) (f:Nat) (args:List NV) (m:NH) (v:NV) (m':NH):Prop:=∃c,Call P S f args m (.val v c m')
section
variable {P:Program} {S:aL} {f:Nat} {args:List NV} {m:NH}
theorem WF.ret {K:NV->NH->Prop} (h:WF P S f args m K):∃v m',Fd P S f args m v m'/\K v m':=by
 obtain ⟨v,c,m',hc,hk⟩:=WF.ret' h;exact ⟨v,m',⟨c,hc⟩,hk⟩
end
section
variable {t:Tm} {m:NH}
end
end Nm
namespace Nm
open Go Go.RowKit
section
variable {P:Program} {S:aL}
theorem EL.of {l:D4} {args:List NV} {m:NH} {p p1:Jump} {tm tm1:NT NV} {ps ps1:List D4} {a b a1 b1:NC} {d1 d2:Dyn} {o:Out} {x:CR}
 (hm:m.get l=some (.loop 0 p tm ps a b)) (hlen:args.length=ps.length) (ha:fS P S (some l) a ⟨kh ps args tm, [],none,m⟩ .norm d1) (hd1:d1.dfs= [])
 (hm1:d1.h.get l=some (.loop 0 p1 tm1 ps1 a1 b1)) (hb:fS P S (some l) b ⟨d1.t, [],none,d1.h.put l (.loop 1 p1 tm1 ps1 a1 b1)⟩ o d2) (ho:∀v,o≠.pan v) (hr:cS l o d2.h=x) (hne:x≠.fail):EL P S l args m x:=by
 obtain ⟨n,hn⟩:=ha
 obtain ⟨k,hk⟩:=hb
 refine ⟨hne,max n k, ?_⟩
 have key:∀(ps:List D4) (args:List NV) (tm:Tm) (K:Tm->CR),args.length=ps.length->bX .fail ps args tm K=K (kh ps args tm):=by
  intro ps
  induction ps with
  |nil=>intro args tm K h;cases args with
   |nil=>rfl
   |cons=>simp at h
  |cons q ps ih=>
   intro args tm K h
   cases args with
   |nil=>simp at h
   |cons v vs=>
    have e:bX .fail (q::ps) (v::vs) tm K=NT.set q v tm fun t=>bX .fail ps vs t K:=rfl
    rw[e,NT.set_eq]
    exact ih _ _ _ (by simpa using h)
 unfold round
 rw[hm]
 show bX .fail ps args tm (fun t=>match ev P S (max n k) (some l) a ⟨t, [],none,m⟩ with
  | .mk .norm d=>(match d.dfs with| []=>bp (ev P S (max n k)) l b d.t d.h|_=> .fail)
  |_=> .fail)=x
 rw[key _ _ _ _ hlen,b9 (Nat.le_max_left n k) _ _ _ _ _ hn]
 show (match d1.dfs with| []=>bp (ev P S (max n k)) l b d1.t d1.h|_=> .fail)=x
 rw[hd1]
 show bp (ev P S (max n k)) l b d1.t d1.h=x
 unfold bp
 rw[hm1]
 show (d1.h.set l (.loop 1 p1 tm1 ps1 a1 b1) fun h=>(match ev P S (max n k) (some l) b ⟨d1.t, [],none,h⟩ with
  | .mk o d=>(match o with
   | .pan v=>(match d.dfs with| []=>CR.pan v none d.h|_=> .fail)
   |o=>cS l o d.h)
  | .fail=> .fail))=x
 rw[NH.set_eq,b9 (Nat.le_max_right n k) _ _ _ _ _ hk]
 cases o with
 |pan v=>exact Hf rfl (ho v)
 |_=>exact hr
end
end Nm
namespace Nm
open Go Go.RowKit
section
variable {t:Tm} {m:NH}
end
end Nm
namespace Nm
open Go Go.RowKit
section
variable {t:Tm} {m:NH}
end
end Nm
namespace Nm
open Go Go.RowKit
section
variable {t:Tm} {m:NH}
end
end Nm
namespace Nm
open Go Go.RowKit
section
variable {P:PE} {S:aL} {r:Option D4} {dst:Option D4} {op:NOp} {pre idx:Nat} {l:List NOper} {hs:List (Nat×NH)} {rs:List (Nat×(NH->NR)×NV)}
 {L:List (D4×NV)} {t:Tm} {dfs:List Dfr} {ctx:Option NV} {m m':NH} {v:NV} {k k' g:D4} {d:Dyn} {Q:Out->Dyn->Prop} {K:Dyn->Prop} {A B:Dyn->Prop} {b q:Bool}
end
theorem dn (d:D4):fB d d=true:=nz d
theorem rW (l:List Nat):wK l l=true:=by
 induction l with
 |nil=>rfl
 |cons x l ih=>show cond (Nat.beq x x) (wK l l) false=true;rw[Nat.beq_refl];exact ih
theorem m9 (l:List ST):jG l l=true:=by
 induction l with
 |nil=>rfl
 |cons x l ih=>
  obtain ⟨m,i,lo,hi⟩:=x
  show cond (Nat.beq m m) (cond (Nat.beq i i) (cond (Nat.beq lo lo) (cond (Nat.beq hi hi) (jG l l) false) false) false) false=true
  simp[ih]
def zO (v:NV):Prop:=match v with| .agg _| .tup _| .fn _ _| .ifc _ _| .int _ (.ge _)| .int _ (.le _)=>False|_=>True
theorem pw {n:Nat} {v:NV} (h:zO v):ck (n+1) v v=true:=by
 show nL (ck n) v v=true
 have hi:∀z:Int,eS z z=true:=fun z=>by rw[a7];simp
 cases v with
 |bool b=>cases b<;>rfl
 |int k x=>cases x with
  |lit z=>show cond (eF k k) (eS z z) false=true;rw[hi];cases k<;>rfl
  |sym c ts=>show cond (eF k k) (cond (eS c c) (jG ts ts) false) false=true;rw[hi,m9];cases k<;>rfl
  |ge z=>exact h.elim
  |le z=>exact h.elim
 |str s=>exact rW s
 |ptr id o=>show cond (fB id id) (Nat.beq o o) false=true;rw[dn];simp
 |slc id o n e k=>show cond (fB id id) (cond (Nat.beq o o) (cond (Nat.beq n n) (cond (Nat.beq e e) (Nat.beq k k) false) false) false) false=true;rw[dn];simp
 |map id=>exact dn id
 |yld id=>exact dn id
 |agg l=>exact h.elim
 |tup l=>exact h.elim
 |fn f c=>exact h.elim
 |ifc t v=>exact h.elim
 |_=>rfl
end Nm
namespace Nm
open Go Go.RowKit
section
variable {m:NH}
end
section
variable {t:Tm} {m:NH}
end
end Nm
namespace Nm
open Go Go.RowKit
section
variable {t:Tm} {m:NH}
end
end Nm
namespace Nm
open Go Go.RowKit
def ids:NV->List D4
 | .slc id _ _ _ _=> [id]
 |_=> []
def Sl (m:NH) (v:NV) (e:Nat) (C:List (List NV)):Prop:=(∀x∈C,x.length=e)/\((v= .nils/\C= [])∨
 ∃id off kc w c,v= .slc id off C.length e kc/\m.get id=some (.cells w c)/\jY m id/\off+C.length*e<=c.length/\(c.drop off).take (C.length*e)=C.flatten)
def C3 (B m:NH) (v:NV) (e:Nat) (C:List (List NV)):Prop:=(∀x∈C,x.length=e)/\((v= .nils/\C= [])∨
 ∃id off kc c,v= .slc id off C.length e kc/\¬jY B id/\m.get id=some (.cells true c)/\jY m id/\off+C.length*e<=c.length/\off+kc*e<=c.length/\(c.drop off).take (C.length*e)=C.flatten)
theorem sZ {e:Nat} {C:List (List NV)} (h:∀x∈C,x.length=e):C.flatten.length=C.length*e:=by
 induction C with
 |nil=>simp
 |cons a C ih=>
  rw[List.flatten_cons,List.length_append,h a (List.mem_cons_self ..),ih fun x hx=>h x (List.mem_cons_of_mem _ hx),List.length_cons,Nat.succ_mul]
  omega
section
variable {m:NH} {v:NV} {e:Nat} {C:List (List NV)}
theorem Sl.one (h:Sl m v e C):cellsOf v=some [v]:=by
 obtain ⟨_,⟨rfl,rfl⟩|⟨id,off,kc,w,c,rfl,_⟩⟩:=h<;>rfl
theorem Sl.old (h:Sl m v e C):∀id∈ids v,jY m id:=by
 obtain ⟨h0,⟨rfl,rfl⟩|⟨id,off,kc,w,c,rfl,h1,h2,h3,h4⟩⟩:=h
 ·intro id hid;simp[ids] at hid
 ·intro i hi;simp[ids] at hi;rw[hi];exact h2
theorem C3.new {B m:NH} (h:C3 B m v e C):∀id∈ids v,¬jY B id:=by
 obtain ⟨h0,⟨rfl,rfl⟩|⟨id,off,kc,c,rfl,hb,h1,h2,h3,h4⟩⟩:=h
 ·intro id hid;simp[ids] at hid
 ·intro i hi;simp[ids] at hi;rw[hi];exact hb
theorem C3.nil {B m:NH}:C3 B m .nils e []:=⟨fun x hx=>by simp at hx,Or.inl ⟨rfl,rfl⟩⟩
theorem Sl.nil:Sl m .nils e []:=⟨fun x hx=>by simp at hx,Or.inl ⟨rfl,rfl⟩⟩
theorem C3.of {B m:NH} {id:D4} {n k:Nat} {c:List NV} (h:∀x∈C,x.length=e) (hb:¬jY B id) (hg:m.get id=some (.cells true c)) (ho:jY m id) (hc:c=C.flatten) (hn:n=C.length) (hk:k=C.length):C3 B m (.slc id 0 n e k) e C:=by
 subst hn hk hc
 have hl:=sZ h
 exact ⟨h,Or.inr ⟨id,0,_,_,rfl,hb,hg,ho,by omega,by omega,by rw[List.drop_zero,←hl,List.take_length]⟩⟩
theorem jY.next_ne {m:NH} {i:D4} (h:jY m i):i≠m.next:=by
 intro e;rw[e] at h;exact Nat.lt_irrefl _ h
theorem Chg.add (m:NH) (o:NO):Chg [] m (m.add o):=
 ⟨by show m.next.toNat<=m.next.nxt.toNat;rw[D4.toNat_nxt];omega,fun {i} ho _=>NH.get_add_ne m o ho.next_ne⟩
theorem lv (m:NH) (o:NO):jY (m.add o) m.next:=by
 show m.next.toNat<m.next.nxt.toNat;rw[D4.toNat_nxt];omega
theorem Sl.flat (h:Sl m v e C):zO v:=by
 obtain ⟨_,⟨rfl,rfl⟩|⟨id,off,kc,w,c,rfl,_⟩⟩:=h<;>trivial
theorem Sl.same (h:Sl m v e C) {n:Nat}:ck (n+1) v v=true:=pw h.flat
end
end Nm
namespace Nm
open Go Go.RowKit
section
variable {L:List (D4×NV)} {t:Tm} {ctx:Option NV} {m:NH} {K:NV->NH->Prop}
abbrev ii (z:Int):NV:= .int .i64 (.lit z)
end
end Nm
namespace Nm
open Go Go.RowKit
def F7 (P:Program) (S:aL) (q:D4) (args:List NV) (m:NH) (v:NV) (m':NH):Prop:=∃c,EL P S q args m (.val v c m')
def WY (P:Program) (S:aL) (q:D4) (args:List NV) (m:NH) (K:NV->NH->Prop):Prop:=∃v c m',EL P S q args m (.val v c m')/\K v m'
section
variable {P:Program} {S:aL} {f:Nat} {q:D4} {args:List NV} {m:NH}
section
variable {K:NV->NH->Prop} {st:Nat} {p:Jump} {tm:NT NV} {ps:List D4} {a b:NC} {i:Nat}
end
theorem WY.ret {K:NV->NH->Prop} (h:WY P S q args m K):∃v m',F7 P S q args m v m'/\K v m':=by
 obtain ⟨v,c,m',hc,hk⟩:=h;exact ⟨v,m',⟨c,hc⟩,hk⟩
def oe (ks:List D4) (t t':Tm):Prop:=∀k,k∉ks->NT.get k t'=NT.get k t
theorem oe.get {ks:List D4} {t t':Tm} (h:oe ks t t') {k:D4} {v:Option NV} (g:NT.get k t=v) (hk:k∉ks):NT.get k t'=v:=(h k hk).trans g
theorem oe.trans {ks ls:List D4} {a b c:Tm} (h:oe ks a b) (h':oe ls b c) (hs:∀k∈ls,k∈ks):oe ks a c:=fun k hk=>(h' k fun q=>hk (hs k q)).trans (h k hk)
end
end Nm
namespace Nm
open Go Go.RowKit
section
variable (P:PE) (S:aL) (r:Option D4)
end
section
variable {P:PE} {S:aL} {r:Option D4} {dst:Option D4} {op:NOp} {pre idx:Nat} {l:List NOper} {hs:List (Nat×NH)} {rs:List (Nat×(NH->NR)×NV)}
 {L:List (D4×NV)} {t:Tm} {dfs:List Dfr} {ctx:Option NV} {m m':NH} {v:NV} {k g:D4} {d:Dyn} {Q:Out->Dyn->Prop} {K:Dyn->Prop} {b:Bool}
section
variable {f:NH->NR}
end
end
end Nm
namespace Nm
open Go Go.RowKit
section
variable {t:Tm} {m:NH}
end
end Nm
namespace Nm
open Go Go.RowKit
section
variable {t:Tm} {m:NH}
end
end Nm
namespace Nm
open Go Go.RowKit
section
variable {P:Program} {S:aL}
end
section
variable {P:PE} {S:aL} {dst:D4} {L:List (D4×NV)} {t:Tm} {dfs:List Dfr} {ctx:Option NV} {l:List NOper} {K:Dyn->Prop} {B m:NH} {v:NV} {e:Nat} {C:List (List NV)} {x:D4} {w:Bool} {cs:List NV} {kc bytes:Nat}
end
section
variable {P:Program} {S:aL} {f:Nat} {args:List NV} {m:NH} {K:NV->NH->Prop}
variable {E:NV->NH->Prop}
end
section
variable {P:PE} {S:aL} {r:Option D4} {a b:NC} {d:Dyn} {Q:Out->Dyn->Prop}
end
section
variable {P:Program} {S:aL} {q:D4} {args:List NV} {m:NH} {K:NV->NH->Prop}
end
section
variable {P:Program} {S:aL} {f:Nat} {q:D4} {args:List NV} {m:NH}
end
end Nm
namespace Nm
open Go Go.RowKit
section
variable [Val]
def Ro (P:Program) (W:World) (ι:aD) (m:NH):Prop:=Rel P ι W.heap.size m W/\∀i p,ι i=some p->¬Live (m.get i)
def ext (ι:aD) (i:D4) (p:Pl):aD:=fun j=>if j.toNat=i.toNat then some p else ι j
theorem Ro.addE {P:Program} {W:World} {ι:aD} {m:NH} (h:Ro P W ι m) {b o:Nat} {c:List NV} {cur:Array Value} {T:TypeId} {fz:Nat×Nat} (hb:W.heap[b]? =some (.cells cur T fz)) (hn:o+c.length<=cur.size)
 (hc:∀i v,c[i]? =some v->∃v',cur[o+i]? =some v'/\VR ι v v'/\v'.oneCell'=true):
 ∃ι',Ro P W ι' (m.add (.cells false c))/\ι.le ι'/\Chg [] m (m.add (.cells false c))/\ι' m.next=some ⟨b,o,cur.size⟩/\(m.add (.cells false c)).get m.next=some (.cells false c)/\jY (m.add (.cells false c)) m.next:=by
 obtain ⟨hR,hL⟩:=h
 have hold:∀i p,ι i=some p->jY m i:=fun i p hi=>by
  obtain ⟨x,hx,_⟩:=hR.obj i p hi
  exact hR.fresh i x hx
 have hext:∀i p,ι i=some p->ext ι m.next ⟨b,o,cur.size⟩ i=some p:=fun i p hi=>by
  unfold ext;rw[Hg (Nat.ne_of_lt (hold i p hi))];exact hi
 have hle:ι.le (ext ι m.next ⟨b,o,cur.size⟩):=hext
 have hinv:∀i p,ext ι m.next ⟨b,o,cur.size⟩ i=some p->(i=m.next/\p=⟨b,o,cur.size⟩)∨(ι i=some p/\i≠m.next):=fun i p hi=>by
  unfold ext at hi
  by_cases e:i.toNat=m.next.toNat
  ·rw[Hh e] at hi;injection hi with hi;exact Or.inl ⟨D4.toNat_inj e,hi.symm⟩
  ·rw[Hg e] at hi;exact Or.inr ⟨hi,fun q=>e (by rw[q])⟩
 have hnl:∀i p,ext ι m.next ⟨b,o,cur.size⟩ i=some p->¬Live ((m.add (.cells false c)).get i):=fun i p hi=>by
  rcases hinv i p hi with ⟨rfl,_⟩|⟨hi,hne⟩
  ·rw[NH.get_add_same];exact fun q=>q.2 c rfl
  ·rw[NH.get_add_ne _ _ hne];exact hL i p hi
 refine ⟨ext ι m.next ⟨b,o,cur.size⟩,⟨⟨?_, ?_, ?_, ?_, ?_,hR.gl.mono hle⟩,hnl⟩,hle,Chg.add m _,by unfold ext;rw[Hh rfl],NH.get_add_same m _,lv m _⟩
 ·intro i p hi
  rcases hinv i p hi with ⟨rfl,rfl⟩|⟨hi,hne⟩
  ·refine ⟨.cells false c,NH.get_add_same m _, ?_⟩
   show ∃(cur':Array Value) (T:TypeId) (fz:Nat×Nat),W.heap[b]? =some (.cells cur' T fz)/\(false=true->fz=(0,0))/\cur'.size=cur.size/\o+c.length<=cur.size/\∀i v,c[i]? =some v->∃v',cur'[o+i]? =some v'/\VR (ext ι m.next ⟨b,o,cur.size⟩) v v'/\v'.oneCell'=true
   refine ⟨cur,T,fz,hb,fun q=>Bool.noConfusion q,rfl,hn,fun i v hv=> ?_⟩
   obtain ⟨v',h1,h2,h3⟩:=hc i v hv
   exact ⟨v',h1,h2.mono hle,h3⟩
  ·obtain ⟨x,h1,h2⟩:=hR.obj i p hi
   exact ⟨x,(NH.get_add_ne m _ hne).trans h1,h2.mono hle rfl⟩
 ·intro i j p q hi hj hne hl _
  exact Hf hl (hnl i p hi)
 ·intro i p hi hl;exact Hf hl (hnl i p hi)
 ·intro i p hi
  rcases hinv i p hi with ⟨rfl,rfl⟩|⟨hi,_⟩
  ·exact (Array.getElem?_eq_some_iff.mp hb).1
  ·exact hR.lt i p hi
 ·intro i x hx
  by_cases e:i=m.next
  ·subst e;exact lv m _
  ·rw[NH.get_add_ne _ _ e] at hx
   exact (Chg.add m (.cells false c)).old (hR.fresh i x hx)
theorem Ro.add {P:Program} {W:World} {ι:aD} {m:NH} (h:Ro P W ι m) {b o:Nat} {c:List NV} {cur:Array Value} {T:TypeId} {fz:Nat×Nat} (hb:W.heap[b]? =some (.cells cur T fz)) (hn:o+c.length<=cur.size)
 (hc:∀i v,c[i]? =some v->∃v',cur[o+i]? =some v'/\VR ι v v'/\v'.oneCell'=true):
 ∃ι' m',Ro P W ι' m'/\ι.le ι'/\Chg [] m m'/\ι' m.next=some ⟨b,o,cur.size⟩/\m'.get m.next=some (.cells false c)/\jY m' m.next:=by
 obtain ⟨ι',h⟩:=h.addE hb hn hc
 exact ⟨ι',_,h⟩
theorem Ro.nil (P:Program) (W:World) (hw:NG<=W.heap.size):Ro P W ι0 G0:=⟨CH P W hw,fun i p h=>by rw[ej h];exact bI⟩
theorem VRL.append {ι:aD} {a:List NV} {a':List Value} {b:List NV} {b':List Value} (h:VRL ι a a') (k:VRL ι b b'):VRL ι (a++b) (a'++b'):=by
 induction a generalizing a' with
 |nil=>cases h;exact k
 |cons v l ih=>cases h with
  |cons _ v' _ l' h hl=>exact .cons _ _ _ _ h (ih hl)
def Cs (W:World) (ι:aD) (a:Addr) (l:List NV):Prop:=∀(j:Nat) (v:NV),l[j]? =some v->∃v',W.cell? (a.add j)=some v'/\VR ι v v'/\v'.oneCell'=true
theorem Cs.mono {W:World} {ι ι':aD} (hι:ι.le ι') {a:Addr} {l:List NV} (h:Cs W ι a l):Cs W ι' a l:=fun j v hv=>let ⟨v',h1,h2,h3⟩:=h j v hv;⟨v',h1,h2.mono hι,h3⟩
omit [Val] in
theorem trodAll_stays {P:Program} (hl:laidOutB P=true) {W W':World} (hb:Below W.heap.size W W') {H:Type} {enc:TypeId×Value->H} {sp:Nat->Bool}:∀(ts:List TypeId) (args:List Value) (ds:List (DataW H)) (ps:List MemPlace),(∀t∈ts,P.readableRec t=true/\t<P.types.size)->
 DataW.TrodAll enc P W 0 (fun _=>true) true ts args ds ps->(∀p∈ps,p.block<W.heap.size)->(∀p∈ps,sp p.block=true)->DataW.TrodAll enc P W' 0 sp true ts args ds ps:=by
 intro ts
 induction ts with
 |nil=>
  intro args ds ps _ h _ _
  cases args with
  |nil=>cases ds with
   |nil=>exact h
   |cons=>cases h
  |cons=>cases h
 |cons t ts ih=>
  intro args ds ps hr h hlt hsp
  cases args with
  |nil=>cases h
  |cons v args=>
   cases ds with
   |nil=>cases h
   |cons d ds=>
    obtain ⟨p,q,hd,hq,rfl⟩:=h
    exact ⟨p,q,WideElems.Trod_stays hl (hr t (List.mem_cons_self ..)).1 (hr t (List.mem_cons_self ..)).2 hd (fun x hx=>hb.same (hlt x (List.mem_append_left _ hx))) (fun x hx=>hsp x (List.mem_append_left _ hx)),
     ih args ds q (fun t ht=>hr t (List.mem_cons_of_mem _ ht)) hq (fun x hx=>hlt x (List.mem_append_right _ hx)) (fun x hx=>hsp x (List.mem_append_right _ hx)),rfl⟩
omit [Val] in
theorem Fd.kept {P:Program} {S:aL} {f:Nat} {args:List NV} {v:NV} (h:S f args=fun h=>some (v,h)) (m:NH):Fd P S f args m v m:=by
 refine ⟨none,by simp,0, ?_⟩
 unfold bk;rw[h]
omit [Val] in
theorem trodAll_len {P:Program} {W:World} {base:Nat} {sp:Nat->Bool} {hd:Bool} {H:Type} {enc:TypeId×Value->H}:∀{ts:List TypeId} {vs:List Value} {ds:List (DataW H)} {ps:List MemPlace},DataW.TrodAll enc P W base sp hd ts vs ds ps->ds.length=ts.length:=by
 intro ts
 induction ts with
 |nil=>intro vs ds ps h;cases vs<;>cases ds<;>first|rfl|cases h
 |cons t ts ih=>
  intro vs ds ps h
  cases vs with
  |nil=>cases h
  |cons v vs=>cases ds with
   |nil=>cases h
   |cons d ds=>obtain ⟨_,_,_,h,_⟩:=h;simp[ih h]
end
end Nm
namespace Nm
open Go Go.RowKit
namespace C
abbrev t (a:D4):NOpd:= .tmp a
abbrev k (z:Int):NOpd:= .const (.int .i64 (.lit z))
abbrev kb (z:Int):NOpd:= .const (.int .u8 (.lit z))
abbrev ku (z:Int):NOpd:= .const (.int .u64 (.lit z))
abbrev kt:NOpd:= .const (.bool true)
abbrev kf:NOpd:= .const (.bool false)
abbrev kn:NOpd:= .const .nils
abbrev F (n:Nat):NOpd:= .const (.fn n [])
abbrev o (d:D4) (p:NOp) (i:Nat):NOper:=⟨some d,p,none,0,i⟩
abbrev O (d:D4) (p:NOp) (q i:Nat):NOper:=⟨some d,p,none,q,i⟩
abbrev G (d:D4) (p:NOp) (g:D4) (b:Bool) (i:Nat):NOper:=⟨some d,p,some (g,b),0,i⟩
abbrev m (d s:D4) (i:Nat):NOper:=⟨some d,.move (.tmp s),none,0,i⟩
abbrev f (n:Nat) (d s:D4) (i:Nat):NOper:=⟨some d,.fieldAddr n (.tmp s),none,0,i⟩
abbrev l (d s:D4) (i:Nat):NOper:=⟨some d,.load1 (.tmp s),none,0,i⟩
abbrev L (d s:D4) (i:Nat):NOper:=⟨some d,.lenSlc (.tmp s),none,0,i⟩
abbrev n (d s:D4) (i:Nat):NOper:=⟨some d,.nilCheck (.tmp s),none,0,i⟩
abbrev x (d s:D4) (j i:Nat):NOper:=⟨some d,.extract (.tmp s) j,none,0,i⟩
abbrev q (p:NOp) (i:Nat):NOper:=⟨none,p,none,0,i⟩
abbrev b (d:D4) (p:BinOp) (a c:NOpd) (i:Nat):NOper:=⟨some d,.bin .num p a c,none,0,i⟩
end C
end Nm
namespace Nm
open Go Go.RowKit
noncomputable def x6 (f:Nat) (F:List NV->NH->Option (NV×NH)) (S:aL):aL:=fun g=>cond (Nat.beq g f) F (S g)
section
variable [Val]
def eK (P:Program) (f:Nat) (F:List NV->NH->Option (NV×NH)):Prop:=
 ∀(ι:aD) (B:Nat) (h:NH) (w:World) (args:List NV) (args':List Value) (v:NV) (h':NH),F args h=some (v,h')->Rel P ι B h w->B<=w.heap.size->VRL ι args args'->
  jI P ι B h w ((callFunc f args'.toArray).run P w) (.val v none h')
theorem nN {P:Program} {S:aL} {f:Nat} {F:List NV->NH->Option (NV×NH)} (hS:ay P S) (hF:eK P f F):ay P (x6 f F S):=by
 intro ι B h w g args args' v h' hg hR hB hl
 unfold x6 at hg
 cases hb:Nat.beq g f with
 |true=>
  rw[hb] at hg
  obtain rfl:=Hk hb
  exact hF ι B h w args args' v h' hg hR hB hl
 |false=>
  rw[hb] at hg
  exact hS ι B h w g args args' v h' hg hR hB hl
theorem eK.of {P:Program} {f:Nat} {F:List NV->NH->Option (NV×NH)} (hen:∀args w,(callFunc f args).run P w= .ok (.enter f args) w)
 (H:∀(ι:aD) (B:Nat) (h:NH) (w:World) (args:List NV) (args':List Value) (v:NV) (h':NH),F args h=some (v,h')->Rel P ι B h w->B<=w.heap.size->VRL ι args args'->
  Calls P f args'.toArray w fun e w'=>∃ι' v',e= .returned v'/\VR ι' v v'/\Rel P ι' B h' w'/\B<=w'.heap.size/\Grow ι h w ι' h' w'):eK P f F:=by
 intro ι B h w args args' v h' hF hR hB hl c0 cs
 obtain ⟨e,w',fr,⟨ι',v',he,hv,hR',hB',hG⟩,hcomes,hfn,hleave⟩:=H ι B h w args args' v h' hF hR hB hl (c0::cs)
 subst he
 exact ⟨ι',v',w',hv,hR',hB',hG,.inr ⟨w,.inl ⟨f,args'.toArray,hen _ w,Steps.trans hcomes (.one (step_leave_returned hleave))⟩⟩⟩
theorem Rel.below {P:Program} {ι:aD} {B:Nat} {h:NH} {w w':World} (hR:Rel P ι B h w) (hb:Below w.heap.size w w'):Rel P ι B h w':=
 ⟨fun i p hi=>by
  obtain ⟨o,o1,o2⟩:=hR.obj i p hi
  exact ⟨o,o1,o2.mono (aD.le_refl _) (hb.block _ (hR.lt i p hi))⟩,hR.inj,hR.base,fun i p hi=>Nat.lt_of_lt_of_le (hR.lt i p hi) hb.size,hR.fresh,hR.gl⟩
omit [Val] in
theorem Grow.below {ι:aD} {h:NH} {w w':World} (hb:Below w.heap.size w w'):Grow ι h w ι h w':=
 ⟨aD.le_refl _,Nat.le_refl _,fun _ _ x=> .inl x,fun i p x y=> .inr ⟨i,p,x,y,rfl⟩,fun _ _ _=>rfl,hb.size,hb.os,hb.tape,hb.output,fun b hb' _=>hb.block b hb'⟩
theorem eK.plain {P:Program} {f:Nat} {F:List NV->NH->Option (NV×NH)} (hen:∀args w,(callFunc f args).run P w= .ok (.enter f args) w)
 (H:∀(ι:aD) (B:Nat) (h:NH) (w:World) (args:List NV) (args':List Value) (v:NV) (h':NH),F args h=some (v,h')->Rel P ι B h w->VRL ι args args'->
  h'=h/\Calls P f args'.toArray w fun e w'=>(∃v',e= .returned v'/\VR ι v v')/\Below w.heap.size w w'):eK P f F:=
 eK.of hen fun ι B h w args args' v h' hF hR hB hl=>by
  obtain ⟨rfl,hc⟩:=H ι B h w args args' v h' hF hR hl
  refine hc.mono ?_
  rintro e w' ⟨⟨v',he,hv⟩,hb⟩
  exact ⟨ι,v',he,hv,hR.below hb,Nat.le_trans hB hb.size,.below hb⟩
theorem Rel.madeC {P:Program} {ι:aD} {B:Nat} {h:NH} {w w':World} (hR:Rel P ι B h w) (hb:Below w.heap.size w w') {N:Nat} (hN:w.heap.size<=N) {cur:Array Value} {T:TypeId} {fz:Nat×Nat} (hc:w'.heap[N]? =some (.cells cur T fz)) {o:Nat} {c:List NV} (hlen:o+c.length<=cur.size) (hcs:∀(ι2:aD) (i:Nat) (v:NV),c[i]? =some v->∃v',cur[o+i]? =some v'/\VR ι2 v v'/\v'.oneCell'=true):
 ∃ι',ι' h.next=some ⟨N,o,cur.size⟩/\Rel P ι' B (h.add (.cells false c)) w'/\Grow ι h w ι' (h.add (.cells false c)) w':=by
 have hR':=hR.below hb
 have hn:ι h.next=none:=by
  cases hi:ι h.next with
  |none=>rfl
  |some q=>obtain ⟨o,h1,_⟩:=hR.obj _ _ hi;exact Hf (hR.fresh _ _ h1) (Nat.lt_irrefl _)
 have hle:ι.le (ext ι h.next ⟨N,o,cur.size⟩):=fun i p hi=>by
  unfold ext
  by_cases e:i.toNat=h.next.toNat
  ·rw[D4.toNat_inj e,hn] at hi;cases hi
  ·rw[Hg e];exact hi
 have hinv:∀i p,ext ι h.next ⟨N,o,cur.size⟩ i=some p->(i=h.next/\p=⟨N,o,cur.size⟩)∨(ι i=some p/\i≠h.next):=fun i p hi=>by
  unfold ext at hi
  by_cases e:i.toNat=h.next.toNat
  ·rw[Hh e] at hi;injection hi with hi;exact Or.inl ⟨D4.toNat_inj e,hi.symm⟩
  ·rw[Hg e] at hi;exact Or.inr ⟨hi,fun q=>e (by rw[q])⟩
 have hget:∀i,i≠h.next->(h.add (.cells false c)).get i=h.get i:=fun i e=>NH.get_add_ne _ _ e
 have hnl:¬Live ((h.add (.cells false c)).get h.next):=by rw[NH.get_add_same];exact fun q=>q.2 c rfl
 refine ⟨ext ι h.next ⟨N,o,cur.size⟩,by unfold ext;rw[Hh rfl],⟨fun i p hi=> ?_,fun i j p q hi hj hij d1 d2=> ?_,fun i p hi d=> ?_,fun i p hi=> ?_,fun i o ho=> ?_,hR.gl.mono hle⟩,hle, ?_,fun i p hi=> ?_,fun i p hi d=> ?_,fun i hi hl=> ?_,hb.size,hb.os,hb.tape,hb.output,fun b hb' _=>hb.block b hb'⟩
 ·rcases hinv i p hi with ⟨rfl,rfl⟩|⟨hi,hne⟩
  ·refine ⟨_,NH.get_add_same _ _,cur,T,fz,hc,fun q=>Bool.noConfusion q,rfl,hlen,fun i v hv=>hcs _ i v hv⟩
  ·obtain ⟨o,o1,o2⟩:=hR'.obj i p hi
   exact ⟨o,by rw[hget i hne];exact o1,o2.mono hle rfl⟩
 ·rcases hinv i p hi with ⟨rfl,rfl⟩|⟨hi,hne⟩
  ·exact Hf d1 hnl
  ·rw[hget i hne] at d1
   rcases hinv j q hj with ⟨rfl,rfl⟩|⟨hj,hne'⟩
   ·have:=hR.lt i p hi;show p.b≠N;omega
   ·rw[hget j hne'] at d2
    exact hR.inj i j p q hi hj hij d1 d2
 ·rcases hinv i p hi with ⟨rfl,rfl⟩|⟨hi,hne⟩
  ·exact Hf d hnl
  ·rw[hget i hne] at d;exact hR.base i p hi d
 ·rcases hinv i p hi with ⟨rfl,rfl⟩|⟨hi,_⟩
  ·exact (Array.getElem?_eq_some_iff.1 hc).1
  ·exact hR'.lt i p hi
 ·show i.toNat<h.next.nxt.toNat
  rw[D4.toNat_nxt]
  by_cases e:i=h.next
  ·subst e;omega
  ·rw[hget i e] at ho;have:=hR.fresh i o ho;omega
 ·show h.next.toNat<=h.next.nxt.toNat
  rw[D4.toNat_nxt];omega
 ·rcases hinv i p hi with ⟨rfl,_⟩|⟨hi,_⟩
  ·exact .inr (Nat.le_refl _)
  ·exact .inl hi
 ·rcases hinv i p hi with ⟨rfl,_⟩|⟨hi,hne⟩
  ·exact Hf d hnl
  ·rw[hget i hne] at d;exact .inr ⟨i,p,hi,d,rfl⟩
 ·exact hget i fun e=>by rw[e] at hl;exact Nat.lt_irrefl _ hl
noncomputable def CY (args c:List NV) (off len e kc:Nat) (l:List NV) (h:NH):Option (NV×NH):=cond (dz (ck 3) l args) (h.new (.cells false c) fun id h=>some (.slc id off len e kc,h)) none
noncomputable def hJ (cf:Nat->Option NFn) (S:aL) (n f:Nat) (args c:List NV) (off len e kc:Nat):Bool:=
 match ki cf S n f args with
 | .val (.slc id o l k m) _ h=>cond (bu args) (cond (bu c) (cond (Nat.beq o off) (cond (Nat.beq l len) (cond (Nat.beq k e) (cond (Nat.beq m kc) (match h.get id with
  |some (.cells true d)=>dz (ck 3) d c
  |_=>false) false) false) false) false) false) false
 |_=>false
omit [Val] in
theorem bZ.row {P:Program} {cf:Nat->Option NFn} (hc:bZ P cf) {S:aL} {n f:Nat} {args c:List NV} {off len e kc:Nat} (hr:hJ cf S n f args c off len e kc=true):hJ P S n f args c off len e kc=true:=by
 have e:cf=ag P:=funext hc
 rw[e] at hr;exact hr
omit [Val] in
theorem ek:∀{l:List NV} {i:Nat} {v:NV},bu l=true->l[i]? =some v->b0 v=true:=by
 intro l
 induction l with
 |nil=>intro i v _ h;simp at h
 |cons a l ih=>
  intro i v h hi
  simp only[bu,Bool.and_eq_true] at h
  cases i with
  |zero=>simp at hi;subst hi;exact h.1
  |succ i=>exact ih h.2 (by simpa using hi)
theorem CA {P:Program} {S:aL} (hM:P.follows .mixedOrders=true) (hP:P.check= .ok ()) (hS:ay P S) {n f:Nat} {args c:List NV} {off len e kc:Nat} (hr:hJ P S n f args c off len e kc=true)
 (hen:∀args w,(callFunc f args).run P w= .ok (.enter f args) w):eK P f (CY args c off len e kc):=
 eK.of hen fun ι B h w l args' v h' hF hR hB hl=>by
  unfold CY at hF
  obtain ⟨h1,hF'⟩:=az hF
  clear hF
  rw[NH.new_eq] at hF'
  have:=bK (bH 3) h1
  subst this
  injection hF' with hF
  injection hF with e1 e2
  subst e1;subst e2
  unfold hJ at hr
  split at hr
  ·rename_i id o l' k m x h0 hrun
   obtain ⟨p1,hr1⟩:=bg hr
   obtain ⟨p2,hr2⟩:=bg hr1
   obtain ⟨q1,hr3⟩:=bg hr2
   obtain ⟨q2,hr4⟩:=bg hr3
   obtain ⟨q3,hr5⟩:=bg hr4
   obtain ⟨q4,hr6⟩:=bg hr5
   clear hr hr1 hr2 hr3 hr4 hr5
   obtain rfl:=Hk q1
   obtain rfl:=Hk q2
   obtain rfl:=Hk q3
   obtain rfl:=Hk q4
   split at hr6
   ·rename_i d hd
    have:=bK (bH 3) hr6
    subst this
    refine (nS hM hP hS hrun (hl.plain p1) w hR.room).mono ?_
    rintro e w' ⟨⟨ι1,v',rfl,hv,hR1⟩,hb⟩
    cases hv with
    |slc _ _ _ _ _ p a cap z1 z2 z3 z4 z5 z6=>
     have hlive:Live (h0.get id):=by rw[hd];simp
     have hbase:=hR1.base id p z1 hlive
     obtain ⟨ob,o1,o2⟩:=hR1.obj id p z1
     rw[hd] at o1;cases o1
     obtain ⟨cur,T,fz,k1,k2,k3,k4,k5⟩:=o2
     obtain ⟨ι',r1,r2,r3⟩:=hR.madeC hb hbase k1 (by rw[k3];exact k4) (fun ι2 i u hi=>by
      obtain ⟨u',a1,a2,a3⟩:=k5 i u hi
      exact ⟨u',a1,a2.plain (ek p2 hi),a3⟩)
     exact ⟨ι',_,rfl,.slc _ _ _ _ _ _ _ _ r1 z2 z3 z4 z5 (by rw[←k3] at z6;exact z6),r2,Nat.le_trans hB hb.size,r3⟩
   ·cases hr6
  ·cases hr
end
end Nm
namespace WR
open Go Nm Go.Proofs
open Nm.D4 (e)
open Nm.NC (reg regD)
open Nm.C
noncomputable def GH:NFun:=⟨(reg [o e (.move kf) 0]).seq ((reg [o e.a (.call (F 11) []) 0,m e.b e.a 1,G e.c (.call (F 12) []) e.b true 2,o e.f (.pick (t e.b) (t e.c) kf) 3,m e.a.a e.f 4,G e.a.b (.call (F 13) []) e.a.a true 5,o e.a.c (.pick (t e.a.a) (t e.a.b) kf) 6,m e.a.f e.a.c 7,G e.b.a (.call (F 14) []) e.a.f true 8,o e.b.b (.pick (t e.a.f) (t e.b.a) kf) 9,m e.b.c e.b.b 10,G e.b.f (.call (F 15) []) e.b.c true 11,o e.c.a (.pick (t e.b.c) (t e.b.f) kf) 12,m e.c.b e.c.a 13,G e.c.c (.call (F 16) []) e.c.b true 14,o e.c.f (.pick (t e.c.b) (t e.c.c) kf) 15,m e.f.a e.c.f 16,G e.f.b (.call (F 17) []) e.f.a true 17,o e.f.c (.pick (t e.f.a) (t e.f.b) kf) 18,m e e.f.c 19]).seq NC.ret),20, [.tmp e]⟩
theorem CT:ag Tryz.prog 3=some (.code GH):=by kernel_rfl
noncomputable def CO:NC:=(((reg [m e.a.f.a e.b.a 0,m e.a.f.b e 1,b e.a.f.c .lss (t e.a.f.a) (t e.a.f.b) 2]).seq (NC.cond (t e.a.f.c) NC.skip (NC.exit 0))).seq ((NC.block 1 (reg [m e.b.a.b e.a.f 0,b e.b.a.c .add (t e.b.a.b) (.const (.str [108,111,97,100,32,120,32,97,59,32])) 1,m e.a.f e.b.a.c 2])).seq (reg [m e.a.f.f e.b.a 0,b e.b.a.a .add (t e.a.f.f) (k 1) 1,m e.b.a e.b.a.a 2])))
noncomputable def GE:NFun:=⟨(reg [o e.a.b (.move kf) 0]).seq ((reg [o e.f.a (.call (F 35) []) 0,m e.a.c e.f.a 1]).seq (((reg [m e.f.b e.a.c 0,o e.f.c (.un .not (t e.f.b)) 1,m e.f.f e.f.c 2,G e.a.a.a (.move (t e)) e.f.f false 3,G e.a.a.b (.bin .num .lss (t e.a.a.a) (k 0)) e.f.f false 4,o e.a.a.c (.pick (t e.f.f) kt (t e.a.a.b)) 5,m e.a.a.f e.a.a.c 6,G e.a.b.a (.move (t e)) e.a.a.f false 7,G e.a.b.b (.bin .num .gtr (t e.a.b.a) (k 20)) e.a.a.f false 8,o e.a.b.c (.pick (t e.a.a.f) kt (t e.a.b.b)) 9,m e.a.b.f e.a.b.c 10,G e.a.c.a (.move (t e.a)) e.a.b.f false 11,G e.a.c.b (.bin .num .lss (t e.a.c.a) (k 8)) e.a.b.f false 12,o e.a.c.c (.pick (t e.a.b.f) kt (t e.a.c.b)) 13]).seq (NC.cond (t e.a.c.c) ((reg [m e.a.c.f e.a.c 0,m e.a.b e.a.c.f 1]).seq NC.ret) NC.skip)).seq ((reg [o e.a.f (.move (.const (.str [99,101,108,108,32,97,59,32,116,104,114,101,97,100,32,116,32,123,32]))) 0]).seq (((reg [o e.b.a (.move (k 0)) 0]).seq (NC.block 0 CO.loop)).seq ((reg [m e.b.a.f e.a.f 0,b e.b.b.a .add (t e.b.a.f) (.const (.str [125,32,116,104,114,101,97,100,32,117,32,123,32])) 1,m e.a.f e.b.b.a 2]).seq (((reg [m e.b.b.b e.b 0]).seq (NC.cond (t e.b.b.b) (reg [m e.b.b.c e.a.f 0,b e.b.b.f .add (t e.b.b.c) (.const (.str [108,111,97,100,32,120,32,97,59,32])) 1,m e.a.f e.b.b.f 2]) NC.skip)).seq ((reg [m e.b.c.a e.a.f 0,b e.b.c.b .add (t e.b.c.a) (.const (.str [125])) 1,m e.a.f e.b.c.b 2]).seq ((reg [m e.b.c.f e.a.f 0,o e.b.f.a (.strToBytes 5 (t e.b.c.f)) 1,m e.b.f.b e.a 2,o e.b.f.c (.call (F 36) [t e.b.f.a,t e.b.f.b,.const (.bool false)]) 3,m e.b.c.c e.b.f.c 4,x e.b.f.f e.b.c.c 0 5,x e.c.a.a e.b.c.c 1 6,x e.c.a.b e.b.c.c 2 7,o e.b.b (.alloc [.int .i64 (.lit 0),.int .i64 (.lit 0),.nils,.nils] 28) 8,q (.store 4 (t e.b.b) (t e.b.f.f)) 9,m e.b.c e.c.a.a 10,m e.b.f e.c.a.b 11]).seq ((reg [m e.c.a.f e.a.f 0,o e.c.b.a (.strToBytes 5 (t e.c.a.f)) 1,m e.c.b.b e.a 2,o e.c.b.c (.call (F 36) [t e.c.b.a,t e.c.b.b,.const (.bool true)]) 3,m e.c.a.c e.c.b.c 4,x e.c.b.f e.c.a.c 0 5,x e.c.c.a e.c.a.c 1 6,x e.c.c.b e.c.a.c 2 7,o e.c.a (.alloc [.int .i64 (.lit 0),.int .i64 (.lit 0),.nils,.nils] 28) 8,q (.store 4 (t e.c.a) (t e.c.b.f)) 9,m e.c.b e.c.c.a 10,m e.c.c e.c.c.b 11]).seq (((reg [m e.c.c.c e.b.f 0,o e.c.c.f (.call (F 38) [t e.c.c.c]) 1,b e.c.f.a .neq (t e.c.c.f) (k 0) 2,m e.c.f.b e.c.f.a 3,G e.c.f.c (.move (t e.c.c)) e.c.f.b false 4,G e.c.f.f (.call (F 38) [t e.c.f.c]) e.c.f.b false 5,G e.f.a.a (.bin .num .neq (t e.c.f.f) (k 0)) e.c.f.b false 6,o e.f.a.b (.pick (t e.c.f.b) kt (t e.f.a.a)) 7]).seq (NC.cond (t e.f.a.b) ((reg [o e.a.b (.move kf) 0]).seq NC.ret) NC.skip)).seq (((reg [m e.f.a.c e.b 0,m e.f.a.f e.f.a.c 1,G e.f.b.a (.move (t e)) e.f.a.f true 2,G e.f.b.b (.bin .num .gtr (t e.f.b.a) (k 0)) e.f.a.f true 3,o e.f.b.c (.pick (t e.f.a.f) (t e.f.b.b) kf) 4]).seq (NC.cond (t e.f.b.c) ((reg [o e.f.b.f (.loadN 4 (t e.b.b)) 0,o e.f.c.a (.loadN 4 (t e.c.a)) 1,o e.f.c.b (.call (F 37) [t e.f.b.f,t e.f.c.a]) 2,m e.a.b e.f.c.b 3]).seq NC.ret) NC.skip)).seq ((reg [m e.f.c.c e 0,m e.c.f e.f.c.c 1]).seq (((reg [m e.f.c.f e.b 0]).seq (NC.cond (t e.f.c.f) (reg [o e.c.f (.move (k 1)) 0]) NC.skip)).seq ((reg [f 3 e.f.f.a e.b.b 0,l e.f.f.b e.f.f.a 1,L e.f.f.c e.f.f.b 2,f 3 e.f.f.f e.c.a 3,l e.a.a.a.a e.f.f.f 4,L e.a.a.a.b e.a.a.a.a 5,b e.a.a.a.c .sub (t e.f.f.c) (t e.a.a.a.b) 6,m e.a.a.a.f e.c.f 7,b e.a.a.b.a .mul (k 2) (t e.a.a.a.f) 8,b e.a.a.b.b .eql (t e.a.a.a.c) (t e.a.a.b.a) 9,m e.a.b e.a.a.b.b 10]).seq NC.ret)))))))))))))),91, [.tmp e.a.b]⟩
theorem CF:ag Tryz.prog 6=some (.code GE):=by kernel_rfl
noncomputable def GK:NFun:=⟨(reg [o e.f (.move kf) 0]).seq ((reg [o e.c.f (.call (F 35) []) 0,m e.a.a e.c.f 1]).seq ((reg [o e.f.a (.buildSlice [.str [],.str [],.str [],.str [],.str [],.str []] 1 6 9 [(0,1,.const (.str [116,104,114,101,97,100,32,116,32,123,32,111,117,116,32,49,32,125])),(1,1,.const (.str [99,101,108,108,32,97,59,32,116,104,114,101,97,100,32,116,32,123,32,115,116,111,114,101,32,98,32,49,59,32,125])),(2,1,.const (.str [])),(3,1,.const (.str [99,101,108,108,32,97,59,32,99,101,108,108,32,97,59,32,116,104,114,101,97,100,32,116,32,123,32,125])),(4,1,.const (.str [116,104,114,101,97,100,32,116,32,123,32,111,117,116,32,49,59,32,125,32,120])),(5,1,.const (.str [99,101,108,108,32,97,91,51,93,59,32,116,104,114,101,97,100,32,116,32,123,32,125]))]) 0,m e.a.b e.f.a 1]).seq ((reg [o e.f.b (.buildSlice [.int .i64 (.lit 0),.int .i64 (.lit 0),.int .i64 (.lit 0),.int .i64 (.lit 0),.int .i64 (.lit 0),.int .i64 (.lit 0)] 1 6 3 [(0,1,k 2),(1,1,k 4),(2,1,k 3),(3,1,k 5),(4,1,k 2),(5,1,k 7)]) 0,m e.a.c e.f.b 1]).seq ((reg [o e.f.c (.buildSlice [.int .i64 (.lit 0),.int .i64 (.lit 0),.int .i64 (.lit 0),.int .i64 (.lit 0),.int .i64 (.lit 0),.int .i64 (.lit 0)] 1 6 3 [(0,1,k 17),(1,1,k 19),(2,1,k 0),(3,1,k 0),(4,1,k 20),(5,1,k 0)]) 0,m e.a.f e.f.c 1]).seq (((reg [m e.f.f e.a.a 0,o e.a.a.a (.un .not (t e.f.f)) 1,m e.a.a.b e.a.a.a 2,G e.a.a.c (.move (t e)) e.a.a.b false 3,G e.a.a.f (.bin .num .lss (t e.a.a.c) (k 0)) e.a.a.b false 4,o e.a.b.a (.pick (t e.a.a.b) kt (t e.a.a.f)) 5,m e.a.b.b e.a.b.a 6,G e.a.b.c (.move (t e)) e.a.b.b false 7,G e.a.b.f (.move (t e.a.b)) e.a.b.b false 8,G e.a.c.a (.lenSlc (t e.a.b.f)) e.a.b.b false 9,G e.a.c.b (.bin .num .geq (t e.a.b.c) (t e.a.c.a)) e.a.b.b false 10,o e.a.c.c (.pick (t e.a.b.b) kt (t e.a.c.b)) 11]).seq (NC.cond (t e.a.c.c) ((reg [m e.a.c.f e.a.a 0,m e.f e.a.c.f 1]).seq NC.ret) NC.skip)).seq ((reg [m e.a.f.b e.a.b 0,m e.a.f.c e 1,o e.a.f.f (.indexSlc 1 (t e.a.f.b) (t e.a.f.c)) 2,l e.b.a.a e.a.f.f 3,o e.b.a.b (.strToBytes 5 (t e.b.a.a)) 4,m e.b.a.c e.a 5,o e.b.a.f (.call (F 36) [t e.b.a.b,t e.b.a.c,.const (.bool true)]) 6,m e.a.f.a e.b.a.f 7,x e.b.b.a e.a.f.a 0 8,x e.b.b.b e.a.f.a 1 9,x e.b.b.c e.a.f.a 2 10,o e.b.a (.alloc [.int .i64 (.lit 0),.int .i64 (.lit 0),.nils,.nils] 28) 11,q (.store 4 (t e.b.a) (t e.b.b.a)) 12,m e.b.b e.b.b.b 13,m e.b.c e.b.b.c 14]).seq ((reg [m e.b.c.a e.a.b 0,m e.b.c.b e 1,o e.b.c.c (.indexSlc 1 (t e.b.c.a) (t e.b.c.b)) 2,l e.b.c.f e.b.c.c 3,o e.b.f.a (.strToBytes 5 (t e.b.c.f)) 4,m e.b.f.b e.a 5,o e.b.f.c (.call (F 41) [t e.b.f.a,t e.b.f.b,.const (.bool true),.const .nils]) 6,m e.b.b.f e.b.f.c 7,x e.b.f.f e.b.b.f 0 8,x e.c.a.a e.b.b.f 1 9,x e.c.a.b e.b.b.f 2 10,x e.c.a.c e.b.b.f 3 11,m e.b.f e.b.f.f 12,m e.c.a e.c.a.a 13,m e.c.b e.c.a.b 14,m e.c.c e.c.a.c 15]).seq ((regD [m e.c.a.f e.b.c 0,m e.c.b.b e.a.c 2,m e.c.b.c e 3,O e.c.b.f (.indexSlc 1 (t e.c.b.b) (t e.c.b.c)) 12 4,O e.c.c.a (.load1 (t e.c.b.f)) 28 5,O e.c.b.a (.call (F 38) [t e.c.a.f]) 1 1,O e.c.c.b (.bin .num .eql (t e.c.b.a) (t e.c.c.a)) 63 6,O e.c.c.c (.move (t e.c.c.b)) 127 7,⟨some e.c.c.f,.move (t e.b.b),some (e.c.c.c,true),255,8⟩,⟨some e.c.f.a,.move (t e.a.f),some (e.c.c.c,true),255,9⟩,⟨some e.c.f.b,.move (t e),some (e.c.c.c,true),255,10⟩,⟨some e.c.f.c,.indexSlc 1 (t e.c.f.a) (t e.c.f.b),some (e.c.c.c,true),1791,11⟩,⟨some e.c.f.f,.load1 (t e.c.f.c),some (e.c.c.c,true),3839,12⟩,⟨some e.f.a.a,.bin .num .eql (t e.c.c.f) (t e.c.f.f),some (e.c.c.c,true),8191,13⟩,O e.f.a.b (.pick (t e.c.c.c) (t e.f.a.a) kf) 16383 14,O e.f.a.c (.move (t e.f.a.b)) 32767 15,⟨some e.f.a.f,.fieldAddr 3 (t e.b.a),some (e.f.a.c,true),65535,16⟩,⟨some e.f.b.a,.load1 (t e.f.a.f),some (e.f.a.c,true),131071,17⟩,⟨some e.f.b.b,.lenSlc (t e.f.b.a),some (e.f.a.c,true),262143,18⟩,⟨some e.f.b.c,.bin .num .eql (t e.f.b.b) (k 0),some (e.f.a.c,true),524287,19⟩,O e.f.b.f (.pick (t e.f.a.c) (t e.f.b.c) kf) 1048575 20,O e.f.c.a (.move (t e.f.b.f)) 2097151 21,⟨some e.f.c.b,.move (t e.c.c),some (e.f.c.a,true),4194303,22⟩,⟨some e.f.c.f,.move (t e.a.c),some (e.f.c.a,true),4194303,24⟩,⟨some e.f.f.a,.move (t e),some (e.f.c.a,true),4194303,25⟩,⟨some e.f.f.b,.indexSlc 1 (t e.f.c.f) (t e.f.f.a),some (e.f.c.a,true),54525951,26⟩,⟨some e.f.f.c,.load1 (t e.f.f.b),some (e.f.c.a,true),121634815,27⟩,⟨some e.f.c.c,.call (F 38) [t e.f.c.b],some (e.f.c.a,true),8388607,23⟩,⟨some e.f.f.f,.bin .num .eql (t e.f.c.c) (t e.f.f.c),some (e.f.c.a,true),268435455,28⟩,O e.a.a.a.a (.pick (t e.f.c.a) (t e.f.f.f) kf) 536870911 29,O e.f (.move (t e.a.a.a.a)) 1073741823 30]).seq NC.ret)))))))),86, [.tmp e.f]⟩
theorem CJ:ag Tryz.prog 9=some (.code GK):=by kernel_rfl
noncomputable def xQ:NC:=(((reg [m e.a.f e.b 0,b e.b.a .lss (t e.a.f) (k 60) 1]).seq (NC.cond (t e.b.a) NC.skip (NC.exit 0))).seq ((NC.block 1 (reg [m e.b.f e.a 0,o e.c.a (.build [.int .i64 (.lit 0),.int .i64 (.lit 0),.int .i64 (.lit 0)] []) 1,o e.c.b (.build [.int .i64 (.lit 0),.int .i64 (.lit 0),.int .i64 (.lit 0)] [(0,1,k 1)]) 2,o e.c.c (.build [.int .i64 (.lit 0),.int .i64 (.lit 0),.int .i64 (.lit 0)] [(0,1,k 2)]) 3,o e.c.f (.buildSlice [.int .i64 (.lit 0),.int .i64 (.lit 0),.int .i64 (.lit 0),.int .i64 (.lit 0),.int .i64 (.lit 0),.int .i64 (.lit 0),.int .i64 (.lit 0),.int .i64 (.lit 0),.int .i64 (.lit 0)] 3 3 37 [(0,3,t e.c.a),(3,3,t e.c.b),(6,3,t e.c.c)]) 4,o e.f.a (.append 3 24 37 (t e.b.f) (t e.c.f)) 5,m e.a e.f.a 6])).seq (reg [m e.b.b e.b 0,b e.b.c .add (t e.b.b) (k 1) 1,m e.b e.b.c 2])))
noncomputable def xt:NC:=(((reg [m e.a.a.b e.c 0,b e.a.a.c .lss (t e.a.a.b) (k 60) 1]).seq (NC.cond (t e.a.a.c) NC.skip (NC.exit 2))).seq ((NC.block 3 (reg [m e.a.b.b e.a 0,o e.a.b.c (.build [.int .i64 (.lit 0),.int .i64 (.lit 0),.int .i64 (.lit 0)] []) 1,o e.a.b.f (.build [.int .i64 (.lit 0),.int .i64 (.lit 0),.int .i64 (.lit 0)] [(0,1,k 1)]) 2,o e.a.c.a (.build [.int .i64 (.lit 0),.int .i64 (.lit 0),.int .i64 (.lit 0)] [(0,1,k 2)]) 3,o e.a.c.b (.buildSlice [.int .i64 (.lit 0),.int .i64 (.lit 0),.int .i64 (.lit 0),.int .i64 (.lit 0),.int .i64 (.lit 0),.int .i64 (.lit 0),.int .i64 (.lit 0),.int .i64 (.lit 0),.int .i64 (.lit 0)] 3 3 37 [(0,3,t e.a.b.c),(3,3,t e.a.b.f),(6,3,t e.a.c.a)]) 4,o e.a.c.c (.append 3 24 37 (t e.a.b.b) (t e.a.c.b)) 5,m e.a e.a.c.c 6])).seq (reg [m e.a.a.f e.c 0,b e.a.b.a .add (t e.a.a.f) (k 1) 1,m e.c e.a.b.a 2])))
noncomputable def Ec:NFun:=⟨(reg [o e (.move kf) 0]).seq ((reg [o e.a (.move kn) 0]).seq (((reg [o e.b (.move (k 0)) 0]).seq (NC.block 0 xQ.loop)).seq ((reg [m e.f.b e.a 0,o e.f.c (.build [.int .i64 (.lit 0),.int .i64 (.lit 0),.int .i64 (.lit 0)] [(0,1,k 3)]) 1,o e.f.f (.buildSlice [.int .i64 (.lit 0),.int .i64 (.lit 0),.int .i64 (.lit 0)] 3 1 37 [(0,3,t e.f.c)]) 2,o e.a.a.a (.append 3 24 37 (t e.f.b) (t e.f.f)) 3,m e.a e.a.a.a 4]).seq (((reg [o e.c (.move (k 0)) 0]).seq (NC.block 2 xt.loop)).seq ((reg [o e.a.f.a (.buildSlice [.int .u8 (.lit 0),.int .u8 (.lit 0),.int .u8 (.lit 0),.int .u8 (.lit 0),.int .u8 (.lit 0),.int .u8 (.lit 0),.int .u8 (.lit 0),.int .u8 (.lit 0),.int .u8 (.lit 0),.int .u8 (.lit 0),.int .u8 (.lit 0),.int .u8 (.lit 0),.int .u8 (.lit 0),.int .u8 (.lit 0),.int .u8 (.lit 0),.int .u8 (.lit 0),.int .u8 (.lit 0),.int .u8 (.lit 0),.int .u8 (.lit 0),.int .u8 (.lit 0),.int .u8 (.lit 0),.int .u8 (.lit 0),.int .u8 (.lit 0),.int .u8 (.lit 0),.int .u8 (.lit 0),.int .u8 (.lit 0),.int .u8 (.lit 0),.int .u8 (.lit 0),.int .u8 (.lit 0),.int .u8 (.lit 0),.int .u8 (.lit 0),.int .u8 (.lit 0),.int .u8 (.lit 0),.int .u8 (.lit 0),.int .u8 (.lit 0),.int .u8 (.lit 0),.int .u8 (.lit 0),.int .u8 (.lit 0),.int .u8 (.lit 0),.int .u8 (.lit 0),.int .u8 (.lit 0),.int .u8 (.lit 0),.int .u8 (.lit 0),.int .u8 (.lit 0),.int .u8 (.lit 0),.int .u8 (.lit 0),.int .u8 (.lit 0),.int .u8 (.lit 0),.int .u8 (.lit 0),.int .u8 (.lit 0),.int .u8 (.lit 0),.int .u8 (.lit 0)] 1 52 5 [(0,1,kb 99),(1,1,kb 101),(2,1,kb 108),(3,1,kb 108),(4,1,kb 32),(5,1,kb 97),(6,1,kb 59),(7,1,kb 32),(8,1,kb 116),(9,1,kb 104),(10,1,kb 114),(11,1,kb 101),(12,1,kb 97),(13,1,kb 100),(14,1,kb 32),(15,1,kb 116),(16,1,kb 32),(17,1,kb 123),(18,1,kb 32),(19,1,kb 108),(20,1,kb 111),(21,1,kb 97),(22,1,kb 100),(23,1,kb 32),(24,1,kb 118),(25,1,kb 32),(26,1,kb 97),(27,1,kb 59),(28,1,kb 32),(29,1,kb 111),(30,1,kb 117),(31,1,kb 116),(32,1,kb 32),(33,1,kb 118),(34,1,kb 59),(35,1,kb 32),(36,1,kb 115),(37,1,kb 116),(38,1,kb 111),(39,1,kb 114),(40,1,kb 101),(41,1,kb 32),(42,1,kb 97),(43,1,kb 32),(44,1,kb 118),(45,1,kb 32),(46,1,kb 43),(47,1,kb 32),(48,1,kb 55),(49,1,kb 59),(50,1,kb 32),(51,1,kb 125)]) 0,o e.a.f.b (.sameSlc (t e.a.f.a)) 1,m e.a.f.c e.a 2,o e.a.f.f (.call (F 41) [t e.a.f.b,k 8,.const (.bool false),t e.a.f.c]) 3,m e.a.c.f e.a.f.f 4,x e.b.a.a e.a.c.f 0 5,x e.b.a.b e.a.c.f 1 6,x e.b.a.c e.a.c.f 2 7,x e.b.a.f e.a.c.f 3 8,m e.f e.b.a.a 9,m e.a.a e.b.a.b 10,m e.a.b e.b.a.c 11,m e.a.c e.b.a.f 12]).seq ((reg [m e.b.b.a e.a.c 0,o e.b.b.b (.call (F 43) [t e.b.b.a]) 1,b e.b.b.c .eql (t e.b.b.b) (k 0) 2,m e.b.b.f e.b.b.c 3,G e.b.c.a (.move (t e.f)) e.b.b.f true 4,G e.b.c.b (.lenSlc (t e.b.c.a)) e.b.b.f true 5,G e.b.c.c (.bin .num .eql (t e.b.c.b) (k 2)) e.b.b.f true 6,o e.b.c.f (.pick (t e.b.b.f) (t e.b.c.c) kf) 7,m e.b.f.a e.b.c.f 8,G e.b.f.b (.move (t e.f)) e.b.f.a true 9,G e.b.f.c (.indexSlc 1 (t e.b.f.b) (k 0)) e.b.f.a true 10,G e.b.f.f (.load1 (t e.b.f.c)) e.b.f.a true 11,G e.c.a.a (.bin .num .eql (t e.b.f.f) (ku 0)) e.b.f.a true 12,o e.c.a.b (.pick (t e.b.f.a) (t e.c.a.a) kf) 13,m e.c.a.c e.c.a.b 14,G e.c.a.f (.move (t e.f)) e.c.a.c true 15,G e.c.b.a (.indexSlc 1 (t e.c.a.f) (k 1)) e.c.a.c true 16,G e.c.b.b (.load1 (t e.c.b.a)) e.c.a.c true 17,G e.c.b.c (.bin .num .eql (t e.c.b.b) (ku 7)) e.c.a.c true 18,o e.c.b.f (.pick (t e.c.a.c) (t e.c.b.c) kf) 19,m e.c.c.a e.c.b.f 20,G e.c.c.b (.move (t e.a.a)) e.c.c.a true 21,G e.c.c.c (.lenSlc (t e.c.c.b)) e.c.c.a true 22,G e.c.c.f (.bin .num .eql (t e.c.c.c) (k 1)) e.c.c.a true 23,o e.c.f.a (.pick (t e.c.c.a) (t e.c.c.f) kf) 24,m e.c.f.b e.c.f.a 25,G e.c.f.c (.move (t e.a.a)) e.c.f.b true 26,G e.c.f.f (.indexSlc 1 (t e.c.f.c) (k 0)) e.c.f.b true 27,G e.f.a.a (.load1 (t e.c.f.f)) e.c.f.b true 28,G e.f.a.b (.bin .num .eql (t e.f.a.a) (ku 14)) e.c.f.b true 29,o e.f.a.c (.pick (t e.c.f.b) (t e.f.a.b) kf) 30,m e e.f.a.c 31]).seq NC.ret)))))),72, [.tmp e]⟩
theorem yE:ag Tryz.prog 11=some (.code Ec):=by kernel_rfl
noncomputable def Dg:NFun:=⟨(reg [o e (.move kf) 0]).seq ((reg [o e.a (.build [.int .i64 (.lit 0),.int .i64 (.lit 0)] [(0,1,k 0),(1,1,k 0)]) 0,o e.b (.build [.int .i64 (.lit 0),.int .i64 (.lit 0)] [(0,1,k 1),(1,1,k 1)]) 1,o e.c (.build [.int .i64 (.lit 0),.int .i64 (.lit 0)] [(0,1,k 2),(1,1,k 2)]) 2,o e.f (.build [.int .i64 (.lit 0),.int .i64 (.lit 0)] [(0,1,k 3),(1,1,k 3)]) 3,o e.a.a (.build [.int .i64 (.lit 0),.int .i64 (.lit 0)] [(0,1,k 4),(1,1,k 4)]) 4,o e.a.b (.build [.int .i64 (.lit 0),.int .i64 (.lit 0)] [(0,1,k 5),(1,1,k 5)]) 5,o e.a.c (.build [.int .i64 (.lit 0),.int .i64 (.lit 0)] [(0,1,k 6),(1,1,k 6)]) 6,o e.a.f (.build [.int .i64 (.lit 0),.int .i64 (.lit 0)] [(0,1,k 7),(1,1,k 7)]) 7,o e.b.a (.build [.int .i64 (.lit 0),.int .i64 (.lit 0)] [(0,1,k 8),(1,1,k 8)]) 8,o e.b.b (.build [.int .i64 (.lit 0),.int .i64 (.lit 0)] [(0,1,k 9),(1,1,k 9)]) 9,o e.b.c (.build [.int .i64 (.lit 0),.int .i64 (.lit 0)] [(0,1,k 10),(1,1,k 10)]) 10,o e.b.f (.build [.int .i64 (.lit 0),.int .i64 (.lit 0)] [(0,1,k 11),(1,1,k 11)]) 11,o e.c.a (.build [.int .i64 (.lit 0),.int .i64 (.lit 0)] [(0,1,k 16384),(1,1,k 16384)]) 12,o e.c.b (.build [.int .i64 (.lit 0),.int .i64 (.lit 0)] [(0,1,k 16),(1,1,k 16)]) 13,o e.c.c (.build [.int .i64 (.lit 0),.int .i64 (.lit 0)] [(0,1,k 30),(1,1,k 30)]) 14,o e.c.f (.build [.int .i64 (.lit 0),.int .i64 (.lit 0)] [(0,1,k 4),(1,1,k 4)]) 15,o e.f.a (.build [.int .i64 (.lit 0),.int .i64 (.lit 0)] [(0,1,k 16),(1,1,k 16)]) 16,o e.f.b (.buildSlice [.int .i64 (.lit 0),.int .i64 (.lit 0),.int .i64 (.lit 0),.int .i64 (.lit 0),.int .i64 (.lit 0),.int .i64 (.lit 0),.int .i64 (.lit 0),.int .i64 (.lit 0),.int .i64 (.lit 0),.int .i64 (.lit 0),.int .i64 (.lit 0),.int .i64 (.lit 0),.int .i64 (.lit 0),.int .i64 (.lit 0),.int .i64 (.lit 0),.int .i64 (.lit 0),.int .i64 (.lit 0),.int .i64 (.lit 0),.int .i64 (.lit 0),.int .i64 (.lit 0),.int .i64 (.lit 0),.int .i64 (.lit 0),.int .i64 (.lit 0),.int .i64 (.lit 0),.int .i64 (.lit 0),.int .i64 (.lit 0),.int .i64 (.lit 0),.int .i64 (.lit 0),.int .i64 (.lit 0),.int .i64 (.lit 0),.int .i64 (.lit 0),.int .i64 (.lit 0),.int .i64 (.lit 0),.int .i64 (.lit 0)] 2 17 73 [(0,2,t e.a),(2,2,t e.b),(4,2,t e.c),(6,2,t e.f),(8,2,t e.a.a),(10,2,t e.a.b),(12,2,t e.a.c),(14,2,t e.a.f),(16,2,t e.b.a),(18,2,t e.b.b),(20,2,t e.b.c),(22,2,t e.b.f),(24,2,t e.c.a),(26,2,t e.c.b),(28,2,t e.c.c),(30,2,t e.c.f),(32,2,t e.f.a)]) 17,o e.f.c (.call (F 44) [t e.f.b]) 18,m e e.f.c 19]).seq NC.ret),20, [.tmp e]⟩
theorem xU:ag Tryz.prog 12=some (.code Dg):=by kernel_rfl
noncomputable def EF:NFun:=⟨(reg [o e (.move kf) 0]).seq ((reg [o e.a (.build [.int .i64 (.lit 0),.int .i64 (.lit 0)] [(0,1,k 64),(1,1,k 64)]) 0,o e.b (.build [.int .i64 (.lit 0),.int .i64 (.lit 0)] [(0,1,k 12),(1,1,k 12)]) 1,o e.c (.build [.int .i64 (.lit 0),.int .i64 (.lit 0)] [(0,1,k 400),(1,1,k 400)]) 2,o e.f (.build [.int .i64 (.lit 0),.int .i64 (.lit 0)] [(0,1,k 4000),(1,1,k 4000)]) 3,o e.a.a (.build [.int .i64 (.lit 0),.int .i64 (.lit 0)] [(0,1,k 4096),(1,1,k 4096)]) 4,o e.a.b (.build [.int .i64 (.lit 0),.int .i64 (.lit 0)] [(0,1,k 1048576),(1,1,k 1048576)]) 5,o e.a.c (.build [.int .i64 (.lit 0),.int .i64 (.lit 0)] [(0,1,k 512),(1,1,k 512)]) 6,o e.a.f (.build [.int .i64 (.lit 0),.int .i64 (.lit 0)] [(0,1,k 8),(1,1,k 8)]) 7,o e.b.a (.build [.int .i64 (.lit 0),.int .i64 (.lit 0)] [(0,1,k 0),(1,1,k 0)]) 8,o e.b.b (.build [.int .i64 (.lit 0),.int .i64 (.lit 0)] [(0,1,k 1),(1,1,k 1)]) 9,o e.b.c (.build [.int .i64 (.lit 0),.int .i64 (.lit 0)] [(0,1,k 2),(1,1,k 2)]) 10,o e.b.f (.build [.int .i64 (.lit 0),.int .i64 (.lit 0)] [(0,1,k 3),(1,1,k 3)]) 11,o e.c.a (.build [.int .i64 (.lit 0),.int .i64 (.lit 0)] [(0,1,k 4),(1,1,k 4)]) 12,o e.c.b (.build [.int .i64 (.lit 0),.int .i64 (.lit 0)] [(0,1,k 5),(1,1,k 5)]) 13,o e.c.c (.build [.int .i64 (.lit 0),.int .i64 (.lit 0)] [(0,1,k 6),(1,1,k 6)]) 14,o e.c.f (.build [.int .i64 (.lit 0),.int .i64 (.lit 0)] [(0,1,k 7),(1,1,k 7)]) 15,o e.f.a (.build [.int .i64 (.lit 0),.int .i64 (.lit 0)] [(0,1,k 8),(1,1,k 8)]) 16,o e.f.b (.buildSlice [.int .i64 (.lit 0),.int .i64 (.lit 0),.int .i64 (.lit 0),.int .i64 (.lit 0),.int .i64 (.lit 0),.int .i64 (.lit 0),.int .i64 (.lit 0),.int .i64 (.lit 0),.int .i64 (.lit 0),.int .i64 (.lit 0),.int .i64 (.lit 0),.int .i64 (.lit 0),.int .i64 (.lit 0),.int .i64 (.lit 0),.int .i64 (.lit 0),.int .i64 (.lit 0),.int .i64 (.lit 0),.int .i64 (.lit 0),.int .i64 (.lit 0),.int .i64 (.lit 0),.int .i64 (.lit 0),.int .i64 (.lit 0),.int .i64 (.lit 0),.int .i64 (.lit 0),.int .i64 (.lit 0),.int .i64 (.lit 0),.int .i64 (.lit 0),.int .i64 (.lit 0),.int .i64 (.lit 0),.int .i64 (.lit 0),.int .i64 (.lit 0),.int .i64 (.lit 0),.int .i64 (.lit 0),.int .i64 (.lit 0)] 2 17 73 [(0,2,t e.a),(2,2,t e.b),(4,2,t e.c),(6,2,t e.f),(8,2,t e.a.a),(10,2,t e.a.b),(12,2,t e.a.c),(14,2,t e.a.f),(16,2,t e.b.a),(18,2,t e.b.b),(20,2,t e.b.c),(22,2,t e.b.f),(24,2,t e.c.a),(26,2,t e.c.b),(28,2,t e.c.c),(30,2,t e.c.f),(32,2,t e.f.a)]) 17,o e.f.c (.call (F 44) [t e.f.b]) 18,m e e.f.c 19]).seq NC.ret),20, [.tmp e]⟩
theorem wZ:ag Tryz.prog 13=some (.code EF):=by kernel_rfl
noncomputable def Ds:NFun:=⟨(reg [o e (.move kf) 0]).seq ((reg [o e.a (.build [.int .i64 (.lit 0),.int .i64 (.lit 0)] [(0,1,k 9),(1,1,k 9)]) 0,o e.b (.build [.int .i64 (.lit 0),.int .i64 (.lit 0)] [(0,1,k 10),(1,1,k 10)]) 1,o e.c (.build [.int .i64 (.lit 0),.int .i64 (.lit 0)] [(0,1,k 11),(1,1,k 11)]) 2,o e.f (.build [.int .i64 (.lit 0),.int .i64 (.lit 0)] [(0,1,k 12),(1,1,k 12)]) 3,o e.a.a (.build [.int .i64 (.lit 0),.int .i64 (.lit 0)] [(0,1,k 13),(1,1,k 13)]) 4,o e.a.b (.build [.int .i64 (.lit 0),.int .i64 (.lit 0)] [(0,1,k 14),(1,1,k 14)]) 5,o e.a.c (.build [.int .i64 (.lit 0),.int .i64 (.lit 0)] [(0,1,k 15),(1,1,k 15)]) 6,o e.a.f (.build [.int .i64 (.lit 0),.int .i64 (.lit 0)] [(0,1,k 16),(1,1,k 16)]) 7,o e.b.a (.build [.int .i64 (.lit 0),.int .i64 (.lit 0)] [(0,1,k 17),(1,1,k 17)]) 8,o e.b.b (.build [.int .i64 (.lit 0),.int .i64 (.lit 0)] [(0,1,k 18),(1,1,k 18)]) 9,o e.b.c (.build [.int .i64 (.lit 0),.int .i64 (.lit 0)] [(0,1,k 19),(1,1,k 19)]) 10,o e.b.f (.build [.int .i64 (.lit 0),.int .i64 (.lit 0)] [(0,1,k 20),(1,1,k 20)]) 11,o e.c.a (.build [.int .i64 (.lit 0),.int .i64 (.lit 0)] [(0,1,k 21),(1,1,k 21)]) 12,o e.c.b (.build [.int .i64 (.lit 0),.int .i64 (.lit 0)] [(0,1,k 22),(1,1,k 22)]) 13,o e.c.c (.build [.int .i64 (.lit 0),.int .i64 (.lit 0)] [(0,1,k 23),(1,1,k 23)]) 14,o e.c.f (.build [.int .i64 (.lit 0),.int .i64 (.lit 0)] [(0,1,k 0),(1,1,k 0)]) 15,o e.f.a (.build [.int .i64 (.lit 0),.int .i64 (.lit 0)] [(0,1,k 1),(1,1,k 1)]) 16,o e.f.b (.buildSlice [.int .i64 (.lit 0),.int .i64 (.lit 0),.int .i64 (.lit 0),.int .i64 (.lit 0),.int .i64 (.lit 0),.int .i64 (.lit 0),.int .i64 (.lit 0),.int .i64 (.lit 0),.int .i64 (.lit 0),.int .i64 (.lit 0),.int .i64 (.lit 0),.int .i64 (.lit 0),.int .i64 (.lit 0),.int .i64 (.lit 0),.int .i64 (.lit 0),.int .i64 (.lit 0),.int .i64 (.lit 0),.int .i64 (.lit 0),.int .i64 (.lit 0),.int .i64 (.lit 0),.int .i64 (.lit 0),.int .i64 (.lit 0),.int .i64 (.lit 0),.int .i64 (.lit 0),.int .i64 (.lit 0),.int .i64 (.lit 0),.int .i64 (.lit 0),.int .i64 (.lit 0),.int .i64 (.lit 0),.int .i64 (.lit 0),.int .i64 (.lit 0),.int .i64 (.lit 0),.int .i64 (.lit 0),.int .i64 (.lit 0)] 2 17 73 [(0,2,t e.a),(2,2,t e.b),(4,2,t e.c),(6,2,t e.f),(8,2,t e.a.a),(10,2,t e.a.b),(12,2,t e.a.c),(14,2,t e.a.f),(16,2,t e.b.a),(18,2,t e.b.b),(20,2,t e.b.c),(22,2,t e.b.f),(24,2,t e.c.a),(26,2,t e.c.b),(28,2,t e.c.c),(30,2,t e.c.f),(32,2,t e.f.a)]) 17,o e.f.c (.call (F 44) [t e.f.b]) 18,m e e.f.c 19]).seq NC.ret),20, [.tmp e]⟩
theorem xL:ag Tryz.prog 14=some (.code Ds):=by kernel_rfl
noncomputable def D6:NFun:=⟨(reg [o e (.move kf) 0]).seq ((reg [o e.a (.build [.int .i64 (.lit 0),.int .i64 (.lit 0)] [(0,1,k 11),(1,1,k 11)]) 0,o e.b (.build [.int .i64 (.lit 0),.int .i64 (.lit 0)] [(0,1,k 10),(1,1,k 10)]) 1,o e.c (.build [.int .i64 (.lit 0),.int .i64 (.lit 0)] [(0,1,k 0),(1,1,k 0)]) 2,o e.f (.build [.int .i64 (.lit 0),.int .i64 (.lit 0)] [(0,1,k 1),(1,1,k 1)]) 3,o e.a.a (.build [.int .i64 (.lit 0),.int .i64 (.lit 0)] [(0,1,k 2),(1,1,k 2)]) 4,o e.a.b (.build [.int .i64 (.lit 0),.int .i64 (.lit 0)] [(0,1,k 3),(1,1,k 3)]) 5,o e.a.c (.build [.int .i64 (.lit 0),.int .i64 (.lit 0)] [(0,1,k 1),(1,1,k 1)]) 6,o e.a.f (.build [.int .i64 (.lit 0),.int .i64 (.lit 0)] [(0,1,k 2),(1,1,k 2)]) 7,o e.b.a (.build [.int .i64 (.lit 0),.int .i64 (.lit 0)] [(0,1,k 3),(1,1,k 3)]) 8,o e.b.b (.build [.int .i64 (.lit 0),.int .i64 (.lit 0)] [(0,1,k 4),(1,1,k 4)]) 9,o e.b.c (.build [.int .i64 (.lit 0),.int .i64 (.lit 0)] [(0,1,k 5),(1,1,k 5)]) 10,o e.b.f (.build [.int .i64 (.lit 0),.int .i64 (.lit 0)] [(0,1,k 6),(1,1,k 6)]) 11,o e.c.a (.build [.int .i64 (.lit 0),.int .i64 (.lit 0)] [(0,1,k 7),(1,1,k 7)]) 12,o e.c.b (.build [.int .i64 (.lit 0),.int .i64 (.lit 0)] [(0,1,k 8),(1,1,k 8)]) 13,o e.c.c (.build [.int .i64 (.lit 0),.int .i64 (.lit 0)] [(0,1,k 9),(1,1,k 9)]) 14,o e.c.f (.build [.int .i64 (.lit 0),.int .i64 (.lit 0)] [(0,1,k 10),(1,1,k 10)]) 15,o e.f.a (.build [.int .i64 (.lit 0),.int .i64 (.lit 0)] [(0,1,k 11),(1,1,k 11)]) 16,o e.f.b (.buildSlice [.int .i64 (.lit 0),.int .i64 (.lit 0),.int .i64 (.lit 0),.int .i64 (.lit 0),.int .i64 (.lit 0),.int .i64 (.lit 0),.int .i64 (.lit 0),.int .i64 (.lit 0),.int .i64 (.lit 0),.int .i64 (.lit 0),.int .i64 (.lit 0),.int .i64 (.lit 0),.int .i64 (.lit 0),.int .i64 (.lit 0),.int .i64 (.lit 0),.int .i64 (.lit 0),.int .i64 (.lit 0),.int .i64 (.lit 0),.int .i64 (.lit 0),.int .i64 (.lit 0),.int .i64 (.lit 0),.int .i64 (.lit 0),.int .i64 (.lit 0),.int .i64 (.lit 0),.int .i64 (.lit 0),.int .i64 (.lit 0),.int .i64 (.lit 0),.int .i64 (.lit 0),.int .i64 (.lit 0),.int .i64 (.lit 0),.int .i64 (.lit 0),.int .i64 (.lit 0),.int .i64 (.lit 0),.int .i64 (.lit 0)] 2 17 73 [(0,2,t e.a),(2,2,t e.b),(4,2,t e.c),(6,2,t e.f),(8,2,t e.a.a),(10,2,t e.a.b),(12,2,t e.a.c),(14,2,t e.a.f),(16,2,t e.b.a),(18,2,t e.b.b),(20,2,t e.b.c),(22,2,t e.b.f),(24,2,t e.c.a),(26,2,t e.c.b),(28,2,t e.c.c),(30,2,t e.c.f),(32,2,t e.f.a)]) 17,o e.f.c (.call (F 44) [t e.f.b]) 18,m e e.f.c 19]).seq NC.ret),20, [.tmp e]⟩
theorem xM:ag Tryz.prog 15=some (.code D6):=by kernel_rfl
noncomputable def Ek:NFun:=⟨(reg [o e (.move kf) 0]).seq ((reg [o e.a (.build [.int .i64 (.lit 0),.int .i64 (.lit 0)] [(0,1,k 1),(1,1,k 1)]) 0,o e.b (.build [.int .i64 (.lit 0),.int .i64 (.lit 0)] [(0,1,k 2),(1,1,k 2)]) 1,o e.c (.build [.int .i64 (.lit 0),.int .i64 (.lit 0)] [(0,1,k 3),(1,1,k 3)]) 2,o e.f (.build [.int .i64 (.lit 0),.int .i64 (.lit 0)] [(0,1,k 4),(1,1,k 4)]) 3,o e.a.a (.build [.int .i64 (.lit 0),.int .i64 (.lit 0)] [(0,1,k 5),(1,1,k 5)]) 4,o e.a.b (.build [.int .i64 (.lit 0),.int .i64 (.lit 0)] [(0,1,k 0),(1,1,k 0)]) 5,o e.a.c (.build [.int .i64 (.lit 0),.int .i64 (.lit 0)] [(0,1,k 1),(1,1,k 1)]) 6,o e.a.f (.build [.int .i64 (.lit 0),.int .i64 (.lit 0)] [(0,1,k 2),(1,1,k 2)]) 7,o e.b.a (.build [.int .i64 (.lit 0),.int .i64 (.lit 0)] [(0,1,k 0),(1,1,k 0)]) 8,o e.b.b (.build [.int .i64 (.lit 0),.int .i64 (.lit 0)] [(0,1,k 1),(1,1,k 1)]) 9,o e.b.c (.build [.int .i64 (.lit 0),.int .i64 (.lit 0)] [(0,1,k 2),(1,1,k 2)]) 10,o e.b.f (.build [.int .i64 (.lit 0),.int .i64 (.lit 0)] [(0,1,k 3),(1,1,k 3)]) 11,o e.c.a (.build [.int .i64 (.lit 0),.int .i64 (.lit 0)] [(0,1,k 4),(1,1,k 4)]) 12,o e.c.b (.build [.int .i64 (.lit 0),.int .i64 (.lit 0)] [(0,1,k 5),(1,1,k 5)]) 13,o e.c.c (.build [.int .i64 (.lit 0),.int .i64 (.lit 0)] [(0,1,k 6),(1,1,k 6)]) 14,o e.c.f (.build [.int .i64 (.lit 0),.int .i64 (.lit 0)] [(0,1,k 7),(1,1,k 7)]) 15,o e.f.a (.build [.int .i64 (.lit 0),.int .i64 (.lit 0)] [(0,1,k 0),(1,1,k 0)]) 16,o e.f.b (.buildSlice [.int .i64 (.lit 0),.int .i64 (.lit 0),.int .i64 (.lit 0),.int .i64 (.lit 0),.int .i64 (.lit 0),.int .i64 (.lit 0),.int .i64 (.lit 0),.int .i64 (.lit 0),.int .i64 (.lit 0),.int .i64 (.lit 0),.int .i64 (.lit 0),.int .i64 (.lit 0),.int .i64 (.lit 0),.int .i64 (.lit 0),.int .i64 (.lit 0),.int .i64 (.lit 0),.int .i64 (.lit 0),.int .i64 (.lit 0),.int .i64 (.lit 0),.int .i64 (.lit 0),.int .i64 (.lit 0),.int .i64 (.lit 0),.int .i64 (.lit 0),.int .i64 (.lit 0),.int .i64 (.lit 0),.int .i64 (.lit 0),.int .i64 (.lit 0),.int .i64 (.lit 0),.int .i64 (.lit 0),.int .i64 (.lit 0),.int .i64 (.lit 0),.int .i64 (.lit 0),.int .i64 (.lit 0),.int .i64 (.lit 0)] 2 17 73 [(0,2,t e.a),(2,2,t e.b),(4,2,t e.c),(6,2,t e.f),(8,2,t e.a.a),(10,2,t e.a.b),(12,2,t e.a.c),(14,2,t e.a.f),(16,2,t e.b.a),(18,2,t e.b.b),(20,2,t e.b.c),(22,2,t e.b.f),(24,2,t e.c.a),(26,2,t e.c.b),(28,2,t e.c.c),(30,2,t e.c.f),(32,2,t e.f.a)]) 17,o e.f.c (.call (F 44) [t e.f.b]) 18,m e e.f.c 19]).seq NC.ret),20, [.tmp e]⟩
theorem xo:ag Tryz.prog 16=some (.code Ek):=by kernel_rfl
noncomputable def DZ:NFun:=⟨(reg [o e (.move kf) 0]).seq ((reg [o e.a (.build [.int .i64 (.lit 0),.int .i64 (.lit 0)] [(0,1,k 1),(1,1,k 1)]) 0,o e.b (.build [.int .i64 (.lit 0),.int .i64 (.lit 0)] [(0,1,k 2),(1,1,k 2)]) 1,o e.c (.build [.int .i64 (.lit 0),.int .i64 (.lit 0)] [(0,1,k 3),(1,1,k 3)]) 2,o e.f (.build [.int .i64 (.lit 0),.int .i64 (.lit 0)] [(0,1,k 4),(1,1,k 4)]) 3,o e.a.a (.build [.int .i64 (.lit 0),.int .i64 (.lit 0)] [(0,1,k 5),(1,1,k 5)]) 4,o e.a.b (.build [.int .i64 (.lit 0),.int .i64 (.lit 0)] [(0,1,k 6),(1,1,k 6)]) 5,o e.a.c (.build [.int .i64 (.lit 0),.int .i64 (.lit 0)] [(0,1,k 7),(1,1,k 7)]) 6,o e.a.f (.build [.int .i64 (.lit 0),.int .i64 (.lit 0)] [(0,1,k 8),(1,1,k 8)]) 7,o e.b.a (.build [.int .i64 (.lit 0),.int .i64 (.lit 0)] [(0,1,k 9),(1,1,k 9)]) 8,o e.b.b (.build [.int .i64 (.lit 0),.int .i64 (.lit 0)] [(0,1,k 10),(1,1,k 10)]) 9,o e.b.c (.build [.int .i64 (.lit 0),.int .i64 (.lit 0)] [(0,1,k 11),(1,1,k 11)]) 10,o e.b.f (.build [.int .i64 (.lit 0),.int .i64 (.lit 0)] [(0,1,k 12),(1,1,k 12)]) 11,o e.c.a (.build [.int .i64 (.lit 0),.int .i64 (.lit 0)] [(0,1,k 13),(1,1,k 13)]) 12,o e.c.b (.buildSlice [.int .i64 (.lit 0),.int .i64 (.lit 0),.int .i64 (.lit 0),.int .i64 (.lit 0),.int .i64 (.lit 0),.int .i64 (.lit 0),.int .i64 (.lit 0),.int .i64 (.lit 0),.int .i64 (.lit 0),.int .i64 (.lit 0),.int .i64 (.lit 0),.int .i64 (.lit 0),.int .i64 (.lit 0),.int .i64 (.lit 0),.int .i64 (.lit 0),.int .i64 (.lit 0),.int .i64 (.lit 0),.int .i64 (.lit 0),.int .i64 (.lit 0),.int .i64 (.lit 0),.int .i64 (.lit 0),.int .i64 (.lit 0),.int .i64 (.lit 0),.int .i64 (.lit 0),.int .i64 (.lit 0),.int .i64 (.lit 0)] 2 13 73 [(0,2,t e.a),(2,2,t e.b),(4,2,t e.c),(6,2,t e.f),(8,2,t e.a.a),(10,2,t e.a.b),(12,2,t e.a.c),(14,2,t e.a.f),(16,2,t e.b.a),(18,2,t e.b.b),(20,2,t e.b.c),(22,2,t e.b.f),(24,2,t e.c.a)]) 13,o e.c.c (.call (F 44) [t e.c.b]) 14,m e e.c.c 15]).seq NC.ret),16, [.tmp e]⟩
theorem xi:ag Tryz.prog 17=some (.code DZ):=by kernel_rfl
noncomputable def ED:NFun:=⟨(reg [o e.a (.box (t e) 28) 0,o e.b (.move (.const .nilp)) 1]).seq ((reg [f 2 e.f e.a 0,l e.a.a e.f 1,f 2 e.a.b e.a 2,l e.a.c e.a.b 3,L e.a.f e.a.c 4,o e.b.a (.minmax false [t e.a.f,k 4]) 5,o e.b.b (.sliceSlc 1 (t e.a.a) none (some (t e.b.a))) 6,o e.b.c (.call (F 51) [t e.b.b]) 7,f 2 e.b.f e.a 8,q (.store 1 (t e.b.f) (t e.b.c)) 9]).seq ((reg [f 3 e.c.a e.a 0,l e.c.b e.c.a 1,o e.c.c (.call (F 52) [t e.c.b]) 2,f 3 e.c.f e.a 3,q (.store 1 (t e.c.f) (t e.c.c)) 4]).seq ((regD [o e.f.a (.loadN 4 (t e.a)) 0,f 0 e.f.b e.a 1,O e.f.c (.load1 (t e.f.b)) 2 2,O e.f.f (.call (F 53) [t e.f.c]) 6 3,O e.a.a.a (.build [.int .i64 (.lit 0),.int .i64 (.lit 0),.nils,.nils,.nilp,.nils,.bool false,.nils] [(0,4,t e.f.a),(4,1,t e.f.f)]) 15 4,O e.a.a.b (.box (t e.a.a.a) 97) 31 5,O e.c (.move (t e.a.a.b)) 63 6]).seq ((reg [m e.a.a.c e.c 0,o e.a.a.f (.call (F 54) [t e.a.a.c]) 1]).seq ((reg [m e.a.b.a e.c 0,m e.b e.a.b.a 1]).seq NC.ret))))),26, [.tmp e.b]⟩
theorem ye:ag Tryz.prog 20=some (.code ED):=by kernel_rfl
noncomputable def DO:NFun:=⟨(reg [o e.c (.box (t e.a) 37) 0,o e.f (.move kf) 1]).seq (((reg [f 0 e.a.b e.c 0,l e.a.c e.a.b 1]).seq (NC.block 0 ((reg [b e.b.a .eql (t e.a.c) (k 2) 0,m e.a.f e.b.a 1]).seq (NC.cond (t e.a.f) ((reg [m e.b.b e 0,f 2 e.b.c e.c 1,l e.b.f e.b.c 2,o e.c.a (.call (F 57) [t e.b.b,t e.b.f]) 3,m e.f e.c.a 4]).seq NC.ret) ((reg [b e.c.c .eql (t e.a.c) (k 3) 0,m e.c.b e.c.c 1]).seq (NC.cond (t e.c.b) ((reg [m e.c.f e 0,o e.f.a (.call (F 58) [t e.c.f]) 1,m e.f e.f.a 2]).seq NC.ret) NC.skip)))))).seq (((regD [f 1 e.f.b e.c 0,O e.f.c (.load1 (t e.f.b)) 1 1,O e.f.f (.bin .num .lss (t e.f.c) (k 0)) 3 2,O e.a.a.a (.move (t e.f.f)) 7 3,⟨some e.a.a.b,.fieldAddr 1 (t e.c),some (e.a.a.a,false),15,4⟩,⟨some e.a.a.c,.load1 (t e.a.a.b),some (e.a.a.a,false),31,5⟩,⟨some e.a.a.f,.move (t e),some (e.a.a.a,false),15,6⟩,⟨some e.a.b.a,.nilCheck (t e.a.a.f),some (e.a.a.a,false),79,7⟩,⟨some e.a.b.b,.fieldAddr 5 (t e.a.b.a),some (e.a.a.a,false),207,8⟩,⟨some e.a.b.c,.load1 (t e.a.b.b),some (e.a.a.a,false),463,9⟩,⟨some e.a.b.f,.lenSlc (t e.a.b.c),some (e.a.a.a,false),975,10⟩,⟨some e.a.c.a,.bin .num .geq (t e.a.a.c) (t e.a.b.f),some (e.a.a.a,false),2047,11⟩,O e.a.c.b (.pick (t e.a.a.a) kt (t e.a.c.a)) 4095 12]).seq (NC.cond (t e.a.c.b) ((reg [o e.f (.move kf) 0]).seq NC.ret) NC.skip)).seq ((regD [m e.a.c.c e 0,O e.a.c.f (.nilCheck (t e.a.c.c)) 1 1,O e.a.f.a (.fieldAddr 5 (t e.a.c.f)) 3 2,O e.a.f.b (.load1 (t e.a.f.a)) 7 3,f 1 e.a.f.c e.c 4,O e.a.f.f (.load1 (t e.a.f.c)) 16 5,O e.b.a.a (.indexSlc 1 (t e.a.f.b) (t e.a.f.f)) 63 6,O e.b.a.b (.load1 (t e.b.a.a)) 127 7,O e.a.a (.move (t e.b.a.b)) 255 8]).seq (((reg [f 0 e.b.a.c e.c 0,l e.b.a.f e.b.a.c 1]).seq (NC.block 1 ((reg [b e.b.b.b .eql (t e.b.a.f) (k 0) 0,m e.b.b.a e.b.b.b 1]).seq (NC.cond (t e.b.b.a) ((reg [m e.b.b.c e 0,m e.b.b.f e.a.a 1,m e.b.c.a e 2,n e.b.c.b e.b.c.a 3,f 0 e.b.c.c e.b.c.b 4,f 3 e.b.c.f e.b.c.c 5,l e.b.f.a e.b.c.f 6,o e.b.f.b (.call (F 60) [t e.b.b.f,t e.b.f.a]) 7,x e.b.f.c e.b.f.b 0 8,x e.b.f.f e.b.f.b 1 9,o e.c.a.a (.call (F 59) [t e.b.b.c,t e.b.f.c,t e.b.f.f]) 10,m e.f e.c.a.a 11]).seq NC.ret) ((reg [b e.c.a.c .eql (t e.b.a.f) (k 1) 0,m e.c.a.b e.c.a.c 1]).seq (NC.cond (t e.c.a.b) ((reg [m e.c.a.f e 0,m e.c.b.a e.a.a 1,f 2 e.c.b.b e.c 2,l e.c.b.c e.c.b.b 3,o e.c.b.f (.call (F 61) [t e.c.b.a,t e.c.b.c]) 4,x e.c.c.a e.c.b.f 0 5,x e.c.c.b e.c.b.f 1 6,o e.c.c.c (.call (F 59) [t e.c.a.f,t e.c.c.a,t e.c.c.b]) 7,m e.f e.c.c.c 8]).seq NC.ret) NC.skip)))))).seq ((reg [o e.f (.move kf) 0]).seq NC.ret))))),64, [.tmp e.f]⟩
theorem xf:ag Tryz.prog 22=some (.code DO):=by kernel_rfl
noncomputable def Dj:NFun:=⟨(reg [o e.b (.move kn) 0]).seq ((reg [m e.c e 0,n e.f e.c 1,f 7 e.a.a e.f 2,l e.a.b e.a.a 3,o e.a.c (.call (F 68) [t e.a.b]) 4,m e.b e.a.c 5]).seq NC.ret),8, [.tmp e.b]⟩
theorem w5:ag Tryz.prog 25=some (.code Dj):=by kernel_rfl
noncomputable def yB:NC:=((reg [b e.b.f .lss (t e.b.c) (t e.b.b) 0]).seq ((NC.cond (t e.b.f) NC.skip (NC.exit 0)).seq ((NC.block 1 ((reg [o e.c.a (.indexSlc 4 (t e.b.a) (t e.b.c)) 0,o e.c.b (.loadN 4 (t e.c.a)) 1,o e.a.a (.alloc [.int .i64 (.lit 0),.int .i64 (.lit 0),.int .i64 (.lit 0),.int .u64 (.lit 0)] 107) 2,q (.store 4 (t e.a.a) (t e.c.b)) 3]).seq ((reg [f 0 e.c.c e.a.a 0,l e.c.f e.c.c 1,b e.f.a .eql (t e.c.f) (k 4) 2]).seq (NC.cond (t e.f.a) (reg [m e.f.b e.c 0,f 3 e.f.c e.a.a 1,l e.f.f e.f.c 2,o e.a.a.a (.buildSlice [.int .u64 (.lit 0)] 1 1 71 [(0,1,t e.f.f)]) 3,o e.a.a.b (.append 1 8 71 (t e.f.b) (t e.a.a.a)) 4,m e.c e.a.a.b 5]) NC.skip)))).seq (reg [b e.a.a.c .add (t e.b.c) (k 1) 0,m e.b.c e.a.a.c 1]))))
noncomputable def Dd:NFun:=⟨(reg [o e.b (.move kn) 0]).seq ((reg [o e.c (.move kn) 0]).seq (((reg [m e.a.b e 0,n e.a.c e.a.b 1,f 7 e.a.f e.a.c 2,l e.b.a e.a.f 3,L e.b.b e.b.a 4,o e.b.c (.move (k 0)) 5]).seq (NC.block 0 yB.loop)).seq ((reg [m e.a.a.f e.c 0,m e.b e.a.a.f 1]).seq NC.ret))),25, [.tmp e.b]⟩
theorem w9:ag Tryz.prog 27=some (.code Dd):=by kernel_rfl
noncomputable def DL:NFun:=⟨(reg [o e.b (.move kn) 0]).seq ((reg [m e.c e 0,n e.f e.c 1,f 4 e.a.a e.f 2,l e.a.b e.a.a 3,o e.a.c (.call (F 69) [t e.a.b]) 4,m e.b e.a.c 5]).seq NC.ret),8, [.tmp e.b]⟩
theorem xg:ag Tryz.prog 29=some (.code DL):=by kernel_rfl
noncomputable def D7:NFun:=⟨(reg [o e (.move kf) 0]).seq ((reg [o e.a.f (.call (F 36) [.const .nils,k 8,.const (.bool false)]) 0,m e.a.c e.a.f 1,x e.b.a e.a.c 0 2,x e.b.b e.a.c 1 3,x e.b.c e.a.c 2 4,o e.a (.alloc [.int .i64 (.lit 0),.int .i64 (.lit 0),.nils,.nils] 28) 5,q (.store 4 (t e.a) (t e.b.a)) 6,m e.b e.b.b 7,m e.c e.b.c 8]).seq ((reg [o e.c.a (.buildSlice [.int .u8 (.lit 0),.int .u8 (.lit 0),.int .u8 (.lit 0),.int .u8 (.lit 0),.int .u8 (.lit 0),.int .u8 (.lit 0),.int .u8 (.lit 0),.int .u8 (.lit 0),.int .u8 (.lit 0),.int .u8 (.lit 0),.int .u8 (.lit 0),.int .u8 (.lit 0),.int .u8 (.lit 0),.int .u8 (.lit 0),.int .u8 (.lit 0),.int .u8 (.lit 0),.int .u8 (.lit 0),.int .u8 (.lit 0),.int .u8 (.lit 0)] 1 19 5 [(0,1,kb 116),(1,1,kb 104),(2,1,kb 114),(3,1,kb 101),(4,1,kb 97),(5,1,kb 100),(6,1,kb 32),(7,1,kb 116),(8,1,kb 32),(9,1,kb 123),(10,1,kb 32),(11,1,kb 111),(12,1,kb 117),(13,1,kb 116),(14,1,kb 32),(15,1,kb 53),(16,1,kb 59),(17,1,kb 32),(18,1,kb 125)]) 0,o e.c.b (.sameSlc (t e.c.a)) 1,o e.c.c (.call (F 36) [t e.c.b,k 8,.const (.bool false)]) 2,m e.b.f e.c.c 3,x e.c.f e.b.f 0 4,x e.f.a e.b.f 1 5,x e.f.b e.b.f 2 6,o e.f (.alloc [.int .i64 (.lit 0),.int .i64 (.lit 0),.nils,.nils] 28) 7,q (.store 4 (t e.f) (t e.c.f)) 8,m e.a.a e.f.a 9,m e.a.b e.f.b 10]).seq ((reg [m e.f.c e.c 0,o e.f.f (.call (F 38) [t e.f.c]) 1,b e.a.a.a .eql (t e.f.f) (k 3) 2,m e.a.a.b e.a.a.a 3,G e.a.a.c (.move (t e.a.b)) e.a.a.b true 4,G e.a.a.f (.call (F 38) [t e.a.a.c]) e.a.a.b true 5,G e.a.b.a (.bin .num .eql (t e.a.a.f) (k 0)) e.a.a.b true 6,o e.a.b.b (.pick (t e.a.a.b) (t e.a.b.a) kf) 7,m e.a.b.c e.a.b.b 8,G e.a.b.f (.fieldAddr 2 (t e.f)) e.a.b.c true 9,G e.a.c.a (.load1 (t e.a.b.f)) e.a.b.c true 10,G e.a.c.b (.lenSlc (t e.a.c.a)) e.a.b.c true 11,G e.a.c.c (.bin .num .eql (t e.a.c.b) (k 1)) e.a.b.c true 12,o e.a.c.f (.pick (t e.a.b.c) (t e.a.c.c) kf) 13,m e.a.f.a e.a.c.f 14,G e.a.f.b (.fieldAddr 3 (t e.f)) e.a.f.a true 15,G e.a.f.c (.load1 (t e.a.f.b)) e.a.f.a true 16,G e.a.f.f (.lenSlc (t e.a.f.c)) e.a.f.a true 17,G e.b.a.a (.bin .num .gtr (t e.a.f.f) (k 3)) e.a.f.a true 18,o e.b.a.b (.pick (t e.a.f.a) (t e.b.a.a) kf) 19,m e e.b.a.b 20]).seq NC.ret))),39, [.tmp e]⟩
theorem w8:ag Tryz.prog 35=some (.code D7):=by kernel_rfl
noncomputable def D2:NFun:=⟨(reg [o e.a.b (.alloc [.int .i64 (.lit 0),.int .i64 (.lit 0),.nils,.nils] 28) 0,o e.a.c (.move (k 0)) 1,o e.a.f (.move (k 0)) 2]).seq ((reg [m e.f.b e 0,o e.f.c (.call (F 74) [t e.f.b]) 1,m e.f.a e.f.c 2,x e.f.f e.f.a 0 3,x e.a.a.a e.f.a 1 4,x e.a.a.b e.f.a 2 5,o e.b.a (.alloc [.nils,.nils,.nils] 60) 6,q (.store 3 (t e.b.a) (t e.f.f)) 7,m e.b.b e.a.a.a 8,m e.b.c e.a.a.b 9]).seq (((reg [m e.a.a.c e.b.c 0,b e.a.a.f .neq (t e.a.a.c) (k 0) 1]).seq (NC.cond (t e.a.a.f) ((reg [o e.a.b.a (.build [.int .i64 (.lit 0),.int .i64 (.lit 0),.nils,.nils] []) 0,m e.a.b.b e.b.b 1,m e.a.b.c e.b.c 2,q (.store 4 (t e.a.b) (t e.a.b.a)) 3,m e.a.c e.a.b.b 4,m e.a.f e.a.b.c 5]).seq NC.ret) NC.skip)).seq (((reg [o e.a.c.a (.loadN 3 (t e.b.a)) 0,o e.a.c.b (.call (F 75) [t e.a.c.a]) 1,m e.a.b.f e.a.c.b 2,x e.a.c.c e.a.b.f 0 3,x e.a.c.f e.a.b.f 1 4,m e.b.f e.a.c.c 5,m e.c.a e.a.c.f 6]).seq ((reg [m e.a.f.a e.c.a 0,b e.a.f.b .neq (t e.a.f.a) (k 0) 1]).seq (NC.cond (t e.a.f.b) ((reg [o e.a.f.c (.build [.int .i64 (.lit 0),.int .i64 (.lit 0),.nils,.nils] []) 0,m e.a.f.f e.b.f 1,m e.b.a.a e.c.a 2,q (.store 4 (t e.a.b) (t e.a.f.c)) 3,m e.a.c e.a.f.f 4,m e.a.f e.b.a.a 5]).seq NC.ret) NC.skip))).seq ((reg [o e.b.a.c (.loadN 3 (t e.b.a)) 0,o e.b.a.f (.call (F 76) [t e.b.a.c]) 1,m e.b.a.b e.b.a.f 2,x e.b.b.a e.b.a.b 0 3,x e.b.b.b e.b.a.b 1 4,x e.b.b.c e.b.a.b 2 5,o e.c.b (.alloc [.int .i64 (.lit 0),.int .i64 (.lit 0),.nils] 81) 6,q (.store 3 (t e.c.b) (t e.b.b.a)) 7,m e.c.c e.b.b.b 8,m e.b.c e.b.b.c 9]).seq (((reg [m e.b.b.f e.b.c 0,b e.b.c.a .neq (t e.b.b.f) (k 0) 1]).seq (NC.cond (t e.b.c.a) ((reg [o e.b.c.b (.build [.int .i64 (.lit 0),.int .i64 (.lit 0),.nils,.nils] []) 0,m e.b.c.c e.b.c 1,q (.store 4 (t e.a.b) (t e.b.c.b)) 2,o e.a.c (.move (k 0)) 3,m e.a.f e.b.c.c 4]).seq NC.ret) NC.skip)).seq ((reg [o e.b.f.a (.loadN 3 (t e.b.a)) 0,o e.b.f.b (.loadN 3 (t e.c.b)) 1,m e.b.f.c e.c.c 2,m e.b.f.f e.b 3,o e.c.a.a (.call (F 77) [t e.b.f.a,t e.b.f.b,t e.b.f.c,t e.b.f.f]) 4,m e.b.c.f e.c.a.a 5,x e.c.a.b e.b.c.f 0 6,x e.c.a.c e.b.c.f 1 7,q (.store 3 (t e.c.b) (t e.c.a.b)) 8,m e.c.c e.c.a.c 9]).seq ((regD [o e.c.b.a (.loadN 3 (t e.c.b)) 0,m e.c.b.b e.c.c 1,m e.c.b.c e.a 2,O e.c.b.f (.minmax false [t e.c.b.c,k 16]) 4 3,O e.c.c.a (.minmax true [k 3,t e.c.b.f]) 12 4,f 0 e.c.c.b e.b.a 5,O e.c.c.c (.load1 (t e.c.c.b)) 32 6,o e.c.f (.alloc [.int .i64 (.lit 0),.int .i64 (.lit 0),.nils,.nils] 28) 12,O e.c.c.f (.call (F 79) [t e.c.c.c]) 96 7,O e.c.f.a (.call (F 78) [t e.c.b.a,t e.c.b.b,t e.c.c.a,t e.c.c.f]) 255 8,O e.c.a.f (.move (t e.c.f.a)) 511 9,O e.c.f.b (.extract (t e.c.a.f) 0) 1023 10,O e.c.f.c (.extract (t e.c.a.f) 1) 1023 11,⟨none,.store 4 (t e.c.f) (t e.c.f.b),none,6143,13⟩,O e.b.c (.move (t e.c.f.c)) 16383 14]).seq (((reg [m e.c.f.f e.b.c 0,b e.f.a.a .neq (t e.c.f.f) (k 0) 1]).seq (NC.cond (t e.f.a.a) ((reg [o e.f.a.b (.build [.int .i64 (.lit 0),.int .i64 (.lit 0),.nils,.nils] []) 0,q (.store 4 (t e.a.b) (t e.f.a.b)) 1,o e.a.c (.move (k 0)) 2,o e.a.f (.move (k 3)) 3]).seq NC.ret) NC.skip)).seq ((reg [o e.f.a.c (.loadN 4 (t e.c.f)) 0,q (.store 4 (t e.a.b) (t e.f.a.c)) 1,o e.a.c (.move (k 0)) 2,o e.a.f (.move (k 0)) 3]).seq NC.ret))))))))),72, [.cellN e.a.b 4,.tmp e.a.c,.tmp e.a.f]⟩
theorem yk:ag Tryz.prog 36=some (.code D2):=by kernel_rfl
noncomputable def xz:NC:=(((reg [m e.a.f.c e.a.a 0,f 3 e.a.f.f e.b 1,l e.b.a.a e.a.f.f 2,L e.b.a.b e.b.a.a 3,b e.b.a.c .lss (t e.a.f.c) (t e.b.a.b) 4]).seq (NC.cond (t e.b.a.c) NC.skip (NC.exit 0))).seq ((NC.block 1 ((regD [f 3 e.b.b.b e.b 0,O e.b.b.c (.load1 (t e.b.b.b)) 1 1,m e.b.b.f e.a.a 2,O e.b.c.a (.indexSlc 1 (t e.b.b.c) (t e.b.b.f)) 7 3,O e.b.c.b (.load1 (t e.b.c.a)) 15 4,f 3 e.b.c.c e.c 5,O e.b.c.f (.load1 (t e.b.c.c)) 32 6,m e.b.f.a e.a.a 7,O e.b.f.b (.indexSlc 1 (t e.b.c.f) (t e.b.f.a)) 224 8,O e.b.f.c (.load1 (t e.b.f.b)) 480 9,O e.b.f.f (.bin .num .neq (t e.b.c.b) (t e.b.f.c)) 1023 10]).seq (NC.cond (t e.b.f.f) ((reg [o e.f (.move kf) 0]).seq NC.ret) NC.skip))).seq (reg [m e.b.a.f e.a.a 0,b e.b.b.a .add (t e.b.a.f) (k 1) 1,m e.a.a e.b.b.a 2])))
noncomputable def Df:NFun:=⟨(reg [o e.b (.box (t e) 28) 0,o e.c (.box (t e.a) 28) 1,o e.f (.move kf) 2]).seq (((reg [f 0 e.a.b e.b 0,l e.a.c e.a.b 1,f 0 e.a.f e.c 2,l e.b.a e.a.f 3,b e.b.b .neq (t e.a.c) (t e.b.a) 4,m e.b.c e.b.b 5,G e.b.f (.fieldAddr 1 (t e.b)) e.b.c false 6,G e.c.a (.load1 (t e.b.f)) e.b.c false 7,G e.c.b (.fieldAddr 1 (t e.c)) e.b.c false 8,G e.c.c (.load1 (t e.c.b)) e.b.c false 9,G e.c.f (.bin .num .neq (t e.c.a) (t e.c.c)) e.b.c false 10,o e.f.a (.pick (t e.b.c) kt (t e.c.f)) 11,m e.f.b e.f.a 12,G e.f.c (.fieldAddr 2 (t e.b)) e.f.b false 13,G e.f.f (.load1 (t e.f.c)) e.f.b false 14,G e.a.a.a (.fieldAddr 2 (t e.c)) e.f.b false 15,G e.a.a.b (.load1 (t e.a.a.a)) e.f.b false 16,G e.a.a.c (.call (F 80) [t e.f.f,t e.a.a.b]) e.f.b false 17,G e.a.a.f (.un .not (t e.a.a.c)) e.f.b false 18,o e.a.b.a (.pick (t e.f.b) kt (t e.a.a.f)) 19,m e.a.b.b e.a.b.a 20,G e.a.b.c (.fieldAddr 3 (t e.b)) e.a.b.b false 21,G e.a.b.f (.load1 (t e.a.b.c)) e.a.b.b false 22,G e.a.c.a (.lenSlc (t e.a.b.f)) e.a.b.b false 23,G e.a.c.b (.fieldAddr 3 (t e.c)) e.a.b.b false 24,G e.a.c.c (.load1 (t e.a.c.b)) e.a.b.b false 25,G e.a.c.f (.lenSlc (t e.a.c.c)) e.a.b.b false 26,G e.a.f.a (.bin .num .neq (t e.a.c.a) (t e.a.c.f)) e.a.b.b false 27,o e.a.f.b (.pick (t e.a.b.b) kt (t e.a.f.a)) 28]).seq (NC.cond (t e.a.f.b) ((reg [o e.f (.move kf) 0]).seq NC.ret) NC.skip)).seq (((reg [o e.a.a (.move (k 0)) 0]).seq (NC.block 0 xz.loop)).seq ((reg [o e.f (.move kt) 0]).seq NC.ret))),53, [.tmp e.f]⟩
theorem yr:ag Tryz.prog 37=some (.code Df):=by kernel_rfl
noncomputable def EA:NFun:=⟨(reg [o e.b (.move (k 0)) 0]).seq ((reg [m e.c e 0,m e.b e.c 1]).seq NC.ret),4, [.tmp e.b]⟩
theorem xR:ag Tryz.prog 38=some (.code EA):=by kernel_rfl
noncomputable def xk:NC:=((reg [b e.a.f.b .lss (t e.a.f.a) (t e.a.c.f) 0]).seq ((NC.cond (t e.a.f.b) NC.skip (NC.exit 0)).seq ((NC.block 1 ((reg [o e.a.f.c (.indexSlc 3 (t e.a.c.c) (t e.a.f.a)) 0,o e.a.f.f (.loadN 3 (t e.a.f.c)) 1,o e.f.a (.alloc [.int .i64 (.lit 0),.int .i64 (.lit 0),.int .i64 (.lit 0)] 37) 2,q (.store 3 (t e.f.a) (t e.a.f.f)) 3]).seq (reg [m e.b.a.a e.c.c 0,o e.b.a.b (.loadN 3 (t e.f.a)) 1,o e.b.a.c (.call (F 22) [t e.b.a.a,t e.b.a.b]) 2]))).seq (reg [b e.b.a.f .add (t e.a.f.a) (k 1) 0,m e.a.f.a e.b.a.f 1]))))
noncomputable def DT:NFun:=⟨(reg [o e.a.f (.move kn) 0,o e.b.a (.move kn) 1,o e.b.b (.move kn) 2,o e.b.c (.move (k 0)) 3]).seq ((reg [m e.f.c e 0,m e.f.f e.a 1,m e.a.a.a e.b 2,o e.a.a.b (.call (F 36) [t e.f.c,t e.f.f,t e.a.a.a]) 3,m e.f.b e.a.a.b 4,x e.a.a.c e.f.b 0 5,x e.a.a.f e.f.b 1 6,x e.a.b.a e.f.b 2 7,o e.b.f (.alloc [.int .i64 (.lit 0),.int .i64 (.lit 0),.nils,.nils] 28) 8,q (.store 4 (t e.b.f) (t e.a.a.c)) 9,m e.c.a e.a.a.f 10,m e.c.b e.a.b.a 11]).seq (((reg [m e.a.b.b e.c.b 0,b e.a.b.c .neq (t e.a.b.b) (k 0) 1]).seq (NC.cond (t e.a.b.c) ((reg [m e.a.b.f e.c.b 0,o e.a.f (.move kn) 1,o e.b.a (.move kn) 2,o e.b.b (.move kn) 3,m e.b.c e.a.b.f 4]).seq NC.ret) NC.skip)).seq ((reg [o e.a.c.a (.loadN 4 (t e.b.f)) 0,o e.a.c.b (.call (F 20) [t e.a.c.a]) 1,m e.c.c e.a.c.b 2]).seq (((reg [m e.a.c.c e.c 0,L e.a.c.f e.a.c.c 1,o e.a.f.a (.move (k 0)) 2]).seq (NC.block 0 xk.loop)).seq ((reg [m e.b.b.a e.c.c 0,o e.b.b.b (.call (F 27) [t e.b.b.a]) 1,m e.b.b.c e.c.c 2,o e.b.b.f (.call (F 29) [t e.b.b.c]) 3,m e.b.c.a e.c.c 4,o e.b.c.b (.call (F 25) [t e.b.c.a]) 5,m e.a.f e.b.b.b 6,m e.b.a e.b.b.f 7,m e.b.b e.b.c.b 8,o e.b.c (.move (k 0)) 9]).seq NC.ret))))),47, [.tmp e.a.f,.tmp e.b.a,.tmp e.b.b,.tmp e.b.c]⟩
theorem yd:ag Tryz.prog 41=some (.code DT):=by kernel_rfl
noncomputable def DX:NFun:=⟨(reg [o e.b (.move (k 0)) 0]).seq ((reg [m e.c e 0,m e.b e.c 1]).seq NC.ret),4, [.tmp e.b]⟩
theorem x8:ag Tryz.prog 43=some (.code DX):=by kernel_rfl
noncomputable def xI:NC:=(((reg [m e.f e.c 0,m e.a.a e 1,L e.a.b e.a.a 2,b e.a.c .lss (t e.f) (t e.a.b) 3]).seq (NC.cond (t e.a.c) NC.skip (NC.exit 0))).seq ((NC.block 1 ((regD [m e.b.b e 0,m e.b.c e.c 1,O e.b.f (.indexSlc 2 (t e.b.b) (t e.b.c)) 3 2,O e.c.a (.indexArr 1 2 (t e.b.f) (k 0)) 7 3,O e.c.b (.load1 (t e.c.a)) 15 4,m e.c.c e 5,m e.c.f e.c 6,O e.f.a (.indexSlc 2 (t e.c.c) (t e.c.f)) 96 7,O e.f.b (.indexArr 1 2 (t e.f.a) (k 1)) 224 8,O e.f.c (.load1 (t e.f.b)) 480 9,O e.f.f (.bin .num .neq (t e.c.b) (t e.f.c)) 1023 10]).seq (NC.cond (t e.f.f) ((reg [o e.b (.move kf) 0]).seq NC.ret) NC.skip))).seq (reg [m e.a.f e.c 0,b e.b.a .add (t e.a.f) (k 1) 1,m e.c e.b.a 2])))
noncomputable def Dp:NFun:=⟨(reg [o e.b (.move kf) 0]).seq (((reg [o e.c (.move (k 0)) 0]).seq (NC.block 0 xI.loop)).seq ((reg [o e.b (.move kt) 0]).seq NC.ret)),21, [.tmp e.b]⟩
theorem xp:ag Tryz.prog 44=some (.code Dp):=by kernel_rfl
noncomputable def Ey:NFun:=⟨(reg [o e.b (.move kn) 0]).seq (((reg [m e.c e 0,o e.f (.bin .slc .eql (t e.c) kn) 1]).seq (NC.cond (t e.f) ((reg [o e.b (.move kn) 0]).seq NC.ret) NC.skip)).seq ((reg [o e.a.a (.buildSlice [] 1 0 3 []) 0,m e.a.b e 1,o e.a.c (.append 1 8 3 (t e.a.a) (t e.a.b)) 2,m e.b e.a.c 3]).seq NC.ret)),8, [.tmp e.b]⟩
theorem xB:ag Tryz.prog 51=some (.code Ey):=by kernel_rfl
noncomputable def Ea:NFun:=⟨(reg [o e.b (.move kn) 0]).seq (((reg [m e.c e 0,o e.f (.bin .slc .eql (t e.c) kn) 1]).seq (NC.cond (t e.f) ((reg [o e.b (.move kn) 0]).seq NC.ret) NC.skip)).seq ((reg [o e.a.a (.buildSlice [] 1 0 75 []) 0,m e.a.b e 1,o e.a.c (.append 1 4 75 (t e.a.a) (t e.a.b)) 2,m e.b e.a.c 3]).seq NC.ret)),8, [.tmp e.b]⟩
theorem xC:ag Tryz.prog 52=some (.code Ea):=by kernel_rfl
noncomputable def DI:NFun:=⟨(reg [o e.b (.move (.const .nilp)) 0]).seq ((reg [m e.f e 0,o e.a.a (.minmax false [t e.f,k 64]) 1,o e.a.b (.minmax true [k 0,t e.a.a]) 2,m e.c e.a.b 3]).seq ((regD [m e.a.c e.c 0,O e.a.f (.mkSlice [.int .u64 (.lit 0)] 1 8 71 (t e.a.c) (t e.a.c)) 1 1,m e.b.a e.c 2,O e.b.b (.mkSlice [.int .u64 (.lit 0)] 1 8 71 (t e.b.a) (t e.b.a)) 4 3,m e.b.c e.c 4,O e.b.f (.mkSlice [.int .i64 (.lit 0)] 1 8 3 (t e.b.c) (t e.b.c)) 16 5,O e.c.a (.build [.nils,.nils,.nils] [(0,1,t e.a.f),(1,1,t e.b.b),(2,1,t e.b.f)]) 63 6,O e.c.b (.box (t e.c.a) 170) 127 7,O e.b (.move (t e.c.b)) 255 8]).seq NC.ret)),15, [.tmp e.b]⟩
theorem xV:ag Tryz.prog 53=some (.code DI):=by kernel_rfl
noncomputable def Ez:NFun:=⟨(reg [m e.b e 0,n e.c e.b 1,f 6 e.f e.c 2,q (.store 1 (t e.f) kf) 3]).seq (regD [m e.a.a e 0,m e.a.b e 1,O e.a.c (.nilCheck (t e.a.b)) 2 2,O e.a.f (.fieldAddr 4 (t e.a.c)) 6 3,O e.b.a (.load1 (t e.a.f)) 14 4,m e.b.b e 5,O e.b.c (.nilCheck (t e.b.b)) 32 6,O e.b.f (.fieldAddr 0 (t e.b.c)) 96 7,O e.c.a (.fieldAddr 1 (t e.b.f)) 224 8,O e.c.b (.load1 (t e.c.a)) 480 9,O e.c.c (.call (F 100) [t e.b.a,k 0,t e.c.b]) 1022 10,O e.c.f (.buildSlice [.nilp] 1 1 100 [(0,1,t e.c.c)]) 2046 11,O e.f.a (.nilCheck (t e.a.a)) 4095 12,O e.f.b (.fieldAddr 5 (t e.f.a)) 8191 13,⟨none,.store 1 (t e.f.b) (t e.c.f),none,16383,14⟩]),19, []⟩
theorem ym:ag Tryz.prog 54=some (.code Ez):=by kernel_rfl
noncomputable def wY:NC:=((reg [b e.a.c.c .lss (t e.a.c.b) (t e.a.c.a) 0]).seq ((NC.cond (t e.a.c.c) NC.skip (NC.exit 0)).seq ((NC.block 1 ((reg [o e.a.c.f (.indexSlc 1 (t e.a.b.f) (t e.a.c.b)) 0,l e.a.f.a e.a.c.f 1,m e.a.b e.a.f.a 2]).seq (reg [m e.a.f.b e.a.b 0,m e.a.f.c e.a 1,o e.a.f.f (.call (F 103) [t e.a.f.b,t e.a.f.c]) 2]))).seq (reg [b e.b.a.a .add (t e.a.c.b) (k 1) 0,m e.a.c.b e.b.a.a 1]))))
noncomputable def De:NFun:=⟨(reg [o e.f (.move kf) 0]).seq (((reg [m e.a.c e 0,n e.a.f e.a.c 1,f 4 e.b.a e.a.f 2,l e.b.b e.b.a 3,m e.b.c e.a 4,o e.b.f (.call (F 102) [t e.b.b,t e.b.c]) 5,o e.c.a (.un .not (t e.b.f)) 6]).seq (NC.cond (t e.c.a) ((reg [o e.f (.move kf) 0]).seq NC.ret) NC.skip)).seq ((reg [m e.c.b e 0,m e.c.c e 1,n e.c.f e.c.c 2,f 7 e.f.a e.c.f 3,l e.f.b e.f.a 4,m e.f.c e.a 5,o e.f.f (.build [.int .i64 (.lit 0),.int .i64 (.lit 0),.int .i64 (.lit 0),.int .u64 (.lit 0)] [(0,1,k 7),(2,1,t e.f.c)]) 6,o e.a.a.a (.buildSlice [.int .i64 (.lit 0),.int .i64 (.lit 0),.int .i64 (.lit 0),.int .u64 (.lit 0)] 4 1 107 [(0,4,t e.f.f)]) 7,o e.a.a.b (.append 4 32 107 (t e.f.b) (t e.a.a.a)) 8,n e.a.a.c e.c.b 9,f 7 e.a.a.f e.a.a.c 10,q (.store 1 (t e.a.a.f) (t e.a.a.b)) 11]).seq (((reg [m e.a.b.a e 0,n e.a.b.b e.a.b.a 1,f 5 e.a.b.c e.a.b.b 2,l e.a.b.f e.a.b.c 3,L e.a.c.a e.a.b.f 4,o e.a.c.b (.move (k 0)) 5]).seq (NC.block 0 wY.loop)).seq ((reg [o e.f (.move kt) 0]).seq NC.ret)))),38, [.tmp e.f]⟩
theorem yn:ag Tryz.prog 57=some (.code De):=by kernel_rfl
noncomputable def DM:NFun:=⟨(reg [o e.b (.move kf) 0]).seq ((reg [m e.c e 0,n e.f e.c 1,f 4 e.a.a e.f 2,l e.a.b e.a.a 3,o e.a.c (.call (F 104) [t e.a.b]) 4]).seq ((reg [m e.a.f e 0,m e.b.a e 1,n e.b.b e.b.a 2,f 7 e.b.c e.b.b 3,l e.b.f e.b.c 4,o e.c.a (.build [.int .i64 (.lit 0),.int .i64 (.lit 0),.int .i64 (.lit 0),.int .u64 (.lit 0)] [(0,1,k 8)]) 5,o e.c.b (.buildSlice [.int .i64 (.lit 0),.int .i64 (.lit 0),.int .i64 (.lit 0),.int .u64 (.lit 0)] 4 1 107 [(0,4,t e.c.a)]) 6,o e.c.c (.append 4 32 107 (t e.b.f) (t e.c.b)) 7,n e.c.f e.a.f 8,f 7 e.f.a e.c.f 9,q (.store 1 (t e.f.a) (t e.c.c)) 10]).seq ((reg [m e.f.b e 0,o e.f.c (.call (F 54) [t e.f.b]) 1]).seq ((reg [o e.b (.move kt) 0]).seq NC.ret)))),20, [.tmp e.b]⟩
theorem xD:ag Tryz.prog 58=some (.code DM):=by kernel_rfl
noncomputable def yG:NC:=((reg [b e.c.a.f .lss (t e.c.a.c) (t e.c.a.b) 0]).seq ((NC.cond (t e.c.a.f) NC.skip (NC.exit 0)).seq ((NC.block 1 ((reg [m e.c.b.a e.c.a.c 0,o e.c.b.b (.indexSlc 1 (t e.c.a.a) (t e.c.a.c)) 1,l e.c.b.c e.c.b.b 2,m e.a.c e.c.b.a 3,m e.a.f e.c.b.c 4]).seq (regD [m e.c.b.f e 0,m e.c.c.a e 1,O e.c.c.b (.nilCheck (t e.c.c.a)) 2 2,O e.c.c.c (.fieldAddr 5 (t e.c.c.b)) 6 3,O e.c.c.f (.load1 (t e.c.c.c)) 14 4,m e.c.f.a e 5,O e.c.f.b (.nilCheck (t e.c.f.a)) 32 6,O e.c.f.c (.fieldAddr 4 (t e.c.f.b)) 96 7,O e.c.f.f (.load1 (t e.c.f.c)) 224 8,m e.f.a.a e.a.c 9,m e.f.a.b e.a.f 10,O e.f.a.c (.call (F 100) [t e.c.f.f,t e.f.a.a,t e.f.a.b]) 2016 11,O e.f.a.f (.buildSlice [.nilp] 1 1 100 [(0,1,t e.f.a.c)]) 4064 12,O e.f.b.a (.append 1 8 100 (t e.c.c.f) (t e.f.a.f)) 8190 13,O e.f.b.b (.nilCheck (t e.c.b.f)) 16383 14,O e.f.b.c (.fieldAddr 5 (t e.f.b.b)) 32767 15,⟨none,.store 1 (t e.f.b.c) (t e.f.b.a),none,65535,16⟩]))).seq (reg [b e.f.b.f .add (t e.c.a.c) (k 1) 0,m e.c.a.c e.f.b.f 1]))))
noncomputable def Es:NFun:=⟨(reg [o e.a.b (.move kf) 0]).seq ((reg [m e.b.a e 0,m e.b.b e 1,n e.b.c e.b.b 2,f 7 e.b.f e.b.c 3,l e.c.a e.b.f 4,m e.c.b e.a 5,o e.c.c (.append 4 32 107 (t e.c.a) (t e.c.b)) 6,n e.c.f e.b.a 7,f 7 e.f.a e.c.f 8,q (.store 1 (t e.f.a) (t e.c.c)) 9]).seq (((reg [m e.f.b e 0,n e.f.c e.f.b 1,f 6 e.f.f e.f.c 2,l e.a.a.a e.f.f 3,m e.a.a.b e.a.a.a 4,G e.a.a.c (.move (t e)) e.a.a.b false 5,G e.a.a.f (.nilCheck (t e.a.a.c)) e.a.a.b false 6,G e.a.b.a (.fieldAddr 5 (t e.a.a.f)) e.a.a.b false 7,G e.a.b.b (.load1 (t e.a.b.a)) e.a.a.b false 8,G e.a.b.c (.indexSlc 1 (t e.a.b.b) (k 0)) e.a.a.b false 9,G e.a.b.f (.load1 (t e.a.b.c)) e.a.a.b false 10,G e.a.c.a (.call (F 73) [t e.a.b.f]) e.a.a.b false 11,G e.a.c.b (.un .not (t e.a.c.a)) e.a.a.b false 12,o e.a.c.c (.pick (t e.a.a.b) kt (t e.a.c.b)) 13]).seq (NC.cond (t e.a.c.c) ((reg [m e.a.c.f e.b 0,m e.a.b e.a.c.f 1]).seq NC.ret) NC.skip)).seq ((reg [m e.a.f.a e 0,n e.a.f.b e.a.f.a 1,f 6 e.a.f.c e.a.f.b 2,q (.store 1 (t e.a.f.c) kt) 3]).seq ((reg [m e.a.f.f e 0,m e.b.a.a e 1,n e.b.a.b e.b.a.a 2,f 7 e.b.a.c e.b.a.b 3,l e.b.a.f e.b.a.c 4,o e.b.b.a (.build [.int .i64 (.lit 0),.int .i64 (.lit 0),.int .i64 (.lit 0),.int .u64 (.lit 0)] [(0,1,k 9)]) 5,o e.b.b.b (.buildSlice [.int .i64 (.lit 0),.int .i64 (.lit 0),.int .i64 (.lit 0),.int .u64 (.lit 0)] 4 1 107 [(0,4,t e.b.b.a)]) 6,o e.b.b.c (.append 4 32 107 (t e.b.a.f) (t e.b.b.b)) 7,n e.b.b.f e.a.f.f 8,f 7 e.b.c.a e.b.b.f 9,q (.store 1 (t e.b.c.a) (t e.b.b.c)) 10]).seq ((reg [m e.b.c.b e 0,n e.b.c.c e.b.c.b 1,f 5 e.b.c.f e.b.c.c 2,q (.store 1 (t e.b.c.f) kn) 3]).seq (((reg [m e.b.f.a e 0,n e.b.f.b e.b.f.a 1,f 0 e.b.f.c e.b.f.b 2,f 2 e.b.f.f e.b.f.c 3,l e.c.a.a e.b.f.f 4,L e.c.a.b e.c.a.a 5,o e.c.a.c (.move (k 0)) 6]).seq (NC.block 0 yG.loop)).seq ((reg [m e.f.c.a e.b 0,m e.a.b e.f.c.a 1]).seq NC.ret))))))),78, [.tmp e.a.b]⟩
theorem wW:ag Tryz.prog 59=some (.code Es):=by kernel_rfl
noncomputable def DE:NFun:=⟨(reg [o e.f (.move kn) 0,o e.a.a (.move kf) 1]).seq (((reg [m e.b.c e 0,n e.b.f e.b.c 1,f 3 e.c.a e.b.f 2,l e.c.b e.c.a 3,b e.c.c .neq (t e.c.b) (k 0) 4]).seq (NC.cond (t e.c.c) ((reg [o e.f (.move kn) 0,o e.a.a (.move kf) 1]).seq NC.ret) NC.skip)).seq (((reg [m e.c.f e 0,n e.f.a e.c.f 1,f 2 e.f.b e.f.a 2,l e.f.c e.f.b 3,b e.f.f .lss (t e.f.c) (k 0) 4,m e.a.a.a e.f.f 5,G e.a.a.b (.move (t e)) e.a.a.a false 6,G e.a.a.c (.nilCheck (t e.a.a.b)) e.a.a.a false 7,G e.a.a.f (.fieldAddr 2 (t e.a.a.c)) e.a.a.a false 8,G e.a.b.a (.load1 (t e.a.a.f)) e.a.a.a false 9,G e.a.b.b (.move (t e.a)) e.a.a.a false 10,G e.a.b.c (.lenSlc (t e.a.b.b)) e.a.a.a false 11,G e.a.b.f (.bin .num .geq (t e.a.b.a) (t e.a.b.c)) e.a.a.a false 12,o e.a.c.a (.pick (t e.a.a.a) kt (t e.a.b.f)) 13]).seq (NC.cond (t e.a.c.a) ((reg [m e.a.c.b e 0,o e.a.c.c (.call (F 105) [t e.a.c.b]) 1,x e.a.c.f e.a.c.c 0 2,x e.a.f.a e.a.c.c 1 3,m e.f e.a.c.f 4,m e.a.a e.a.f.a 5]).seq NC.ret) NC.skip)).seq ((reg [m e.a.f.c e.a 0,m e.a.f.f e 1,n e.b.a.a e.a.f.f 2,f 2 e.b.a.b e.b.a.a 3,l e.b.a.c e.b.a.b 4,o e.b.a.f (.indexSlc 1 (t e.a.f.c) (t e.b.a.c)) 5,l e.b.b.a e.b.a.f 6,o e.b.b.b (.call (F 106) [t e.b.b.a]) 7,m e.a.f.b e.b.b.b 8,x e.b.b.c e.a.f.b 0 9,x e.b.b.f e.a.f.b 1 10,o e.a.b (.alloc [.int .i64 (.lit 0),.int .i64 (.lit 0),.int .i64 (.lit 0),.int .i64 (.lit 0),.int .i64 (.lit 0),.int .i64 (.lit 0),.int .i64 (.lit 0)] 182) 11,q (.store 7 (t e.a.b) (t e.b.b.c)) 12,m e.a.c e.b.b.f 13]).seq (((reg [m e.b.c.a e.a.c 0,b e.b.c.b .neq (t e.b.c.a) (k 0) 1]).seq (NC.cond (t e.b.c.b) ((reg [m e.b.c.c e 0,o e.b.c.f (.call (F 105) [t e.b.c.c]) 1,x e.b.f.a e.b.c.f 0 2,x e.b.f.b e.b.c.f 1 3,m e.f e.b.f.a 4,m e.a.a e.b.f.b 5]).seq NC.ret) NC.skip)).seq (((regD [m e.b.f.f e 0,O e.c.a.a (.nilCheck (t e.b.f.f)) 1 1,O e.c.a.b (.fieldAddr 4 (t e.c.a.a)) 3 2,O e.c.a.c (.loadN 33 (t e.c.a.b)) 7 3,o e.c.a.f (.loadN 7 (t e.a.b)) 4,o e.a.f (.alloc [.int .u64 (.lit 0),.int .u64 (.lit 0),.int .u64 (.lit 0),.int .u64 (.lit 0),.int .u64 (.lit 0),.int .u64 (.lit 0),.int .u64 (.lit 0),.int .u64 (.lit 0),.int .u64 (.lit 0),.int .u64 (.lit 0),.int .u64 (.lit 0),.int .u64 (.lit 0),.int .u64 (.lit 0),.int .u64 (.lit 0),.int .u64 (.lit 0),.int .u64 (.lit 0),.int .u64 (.lit 0),.int .u64 (.lit 0),.int .u64 (.lit 0),.int .u64 (.lit 0),.int .u64 (.lit 0),.int .u64 (.lit 0),.int .u64 (.lit 0),.int .u64 (.lit 0),.int .u64 (.lit 0),.int .u64 (.lit 0),.int .u64 (.lit 0),.int .u64 (.lit 0),.int .u64 (.lit 0),.int .u64 (.lit 0),.int .u64 (.lit 0),.int .u64 (.lit 0),.int .u64 (.lit 0)] 116) 10,O e.c.b.a (.call (F 107) [t e.c.a.c,t e.c.a.f]) 31 5,O e.b.f.c (.move (t e.c.b.a)) 63 6,O e.c.b.b (.extract (t e.b.f.c) 0) 127 7,O e.c.b.c (.extract (t e.b.f.c) 1) 127 8,O e.c.b.f (.extract (t e.b.f.c) 2) 127 9,⟨none,.store 33 (t e.a.f) (t e.c.b.b),none,1279,11⟩,O e.b.a (.move (t e.c.b.c)) 3583 12,O e.b.b (.move (t e.c.b.f)) 8191 13]).seq ((reg [m e.c.c.a e.b.b 0]).seq (NC.cond (t e.c.c.a) ((reg [m e.c.c.b e 0,o e.c.c.c (.loadN 33 (t e.a.f)) 1,n e.c.c.f e.c.c.b 2,f 4 e.c.f.a e.c.c.f 3,q (.store 33 (t e.c.f.a) (t e.c.c.c)) 4]).seq ((reg [m e.c.f.b e 0,n e.c.f.c e.c.f.b 1,f 2 e.c.f.f e.c.f.c 2,l e.f.a.a e.c.f.f 3,m e.f.a.b e.b.a 4,b e.f.a.c .add (t e.f.a.a) (t e.f.a.b) 5,n e.f.a.f e.c.f.b 6,f 2 e.f.b.a e.f.a.f 7,q (.store 1 (t e.f.b.a) (t e.f.a.c)) 8]).seq ((reg [o e.f (.move kn) 0,o e.a.a (.move kt) 1]).seq NC.ret))) NC.skip))).seq ((reg [m e.f.b.b e 0,o e.f.b.c (.loadN 7 (t e.a.b)) 1,o e.f.b.f (.call (F 108) [t e.f.b.b,t e.f.b.c]) 2,x e.f.c.a e.f.b.f 0 3,x e.f.c.b e.f.b.f 1 4,m e.f e.f.c.a 5,m e.a.a e.f.c.b 6]).seq NC.ret)))))),79, [.tmp e.f,.tmp e.a.a]⟩
theorem yv:ag Tryz.prog 60=some (.code DE):=by kernel_rfl
noncomputable def Ep:NFun:=⟨(reg [o e.f (.move kn) 0,o e.a.a (.move kf) 1]).seq (((reg [m e.a.f e 0,o e.b.a (.call (F 110) [t e.a.f]) 1,m e.b.b e.a 2,o e.b.c (.call (F 109) [t e.b.a,t e.b.b]) 3,o e.b.f (.un .not (t e.b.c)) 4]).seq (NC.cond (t e.b.f) ((reg [o e.f (.move kn) 0,o e.a.a (.move kf) 1]).seq NC.ret) NC.skip)).seq ((reg [m e.c.b e 0,n e.c.c e.c.b 1,f 549 e.c.f e.c.c 2,m e.f.a e.a 3,o e.f.b (.call (F 111) [t e.c.f,t e.f.a]) 4,m e.c.a e.f.b 5,x e.f.c e.c.a 0 6,x e.f.f e.c.a 1 7,o e.a.b (.alloc [.int .i64 (.lit 0),.int .u64 (.lit 0),.bool false] 191) 8,q (.store 3 (t e.a.b) (t e.f.c)) 9,m e.a.c e.f.f 10]).seq ((regD [m e.a.a.a e 0,O e.a.a.b (.nilCheck (t e.a.a.a)) 1 1,O e.a.a.c (.fieldAddr 0 (t e.a.a.b)) 3 2,O e.a.a.f (.load1 (t e.a.a.c)) 7 3,f 0 e.a.b.a e.a.b 4,O e.a.b.b (.load1 (t e.a.b.a)) 16 5,f 1 e.a.b.c e.a.b 6,O e.a.b.f (.load1 (t e.a.b.c)) 64 7,O e.a.c.a (.call (F 112) [t e.a.a.f,t e.a.b.b,t e.a.b.f]) 255 8]).seq ((reg [m e.a.c.b e 0,f 0 e.a.c.c e.a.b 1,l e.a.c.f e.a.c.c 2,f 1 e.a.f.a e.a.b 3,l e.a.f.b e.a.f.a 4,o e.a.f.c (.call (F 113) [t e.a.c.b,k 3,t e.a.c.f,t e.a.f.b]) 5,m e.f e.a.f.c 6,o e.a.a (.move kt) 7]).seq NC.ret)))),36, [.tmp e.f,.tmp e.a.a]⟩
theorem x9:ag Tryz.prog 61=some (.code Ep):=by kernel_rfl
noncomputable def EG:NFun:=⟨(reg [o e.b (.move kn) 0]).seq (((reg [m e.c e 0,o e.f (.bin .slc .eql (t e.c) kn) 1]).seq (NC.cond (t e.f) ((reg [o e.b (.move kn) 0]).seq NC.ret) NC.skip)).seq ((reg [o e.a.a (.buildSlice [] 4 0 107 []) 0,m e.a.b e 1,o e.a.c (.append 4 32 107 (t e.a.a) (t e.a.b)) 2,m e.b e.a.c 3]).seq NC.ret)),8, [.tmp e.b]⟩
theorem xF:ag Tryz.prog 68=some (.code EG):=by kernel_rfl
noncomputable def El:NFun:=⟨(reg [o e.b (.move kn) 0]).seq ((reg [m e.c e 0,n e.f e.c 1,f 1 e.a.a e.f 2,l e.a.b e.a.a 3,o e.a.c (.call (F 122) [t e.a.b]) 4,m e.b e.a.c 5]).seq NC.ret),8, [.tmp e.b]⟩
theorem xA:ag Tryz.prog 69=some (.code El):=by kernel_rfl
noncomputable def Dn:NFun:=⟨(reg [o e.b (.move kf) 0]).seq ((reg [m e.c e 0,o e.f (.call (F 124) [t e.c]) 1,b e.a.a .eql (t e.f) (k 1) 2,m e.a.b e.a.a 3,G e.a.c (.move (t e)) e.a.b true 4,G e.a.f (.call (F 110) [t e.a.c]) e.a.b true 5,G e.b.a (.lenSlc (t e.a.f)) e.a.b true 6,G e.b.b (.bin .num .eql (t e.b.a) (k 0)) e.a.b true 7,o e.b.c (.pick (t e.a.b) (t e.b.b) kf) 8,m e.b e.b.c 9]).seq NC.ret),12, [.tmp e.b]⟩
theorem yj:ag Tryz.prog 73=some (.code Dn):=by kernel_rfl
noncomputable def Ee:NFun:=⟨(reg [o e.b (.alloc [.nils,.nils,.nils] 60) 0,o e.c (.alloc [.int .i64 (.lit 0)] 3) 1,o e.f (.alloc [.int .i64 (.lit 0)] 49) 2]).seq ((reg [m e.a.f e 0,o e.b.a (.call (F 125) [t e.a.f]) 1,m e.a.c e.b.a 2,x e.b.b e.a.c 0 3,x e.b.c e.a.c 1 4,x e.b.f e.a.c 2 5,o e.a.a (.alloc [.nils] 132) 6,q (.store 1 (t e.a.a) (t e.b.b)) 7,q (.store 1 (t e.c) (t e.b.c)) 8,q (.store 1 (t e.f) (t e.b.f)) 9]).seq (((reg [l e.c.a e.f 0,b e.c.b .neq (t e.c.a) (k 0) 1]).seq (NC.cond (t e.c.b) ((regD [o e.c.c (.build [.nils,.nils,.nils] []) 0,l e.c.f e.c 1,l e.f.a e.f 2,⟨none,.store 3 (t e.b) (t e.c.c),none,1,3⟩,⟨none,.store 1 (t e.c) (t e.c.f),none,11,4⟩,⟨none,.store 1 (t e.f) (t e.f.a),none,31,5⟩]).seq NC.ret) NC.skip)).seq ((reg [o e.f.b (.mkFn 126 [t e.a.a,t e.b,t e.c,t e.f]) 0,q (.defer (t e.f.b)) 1]).seq ((reg [l e.f.c e.a.a 0,o e.f.f (.build [.nils,.int .i64 (.lit 0)] [(0,1,t e.f.c)]) 1,o e.a.a.a (.box (t e.f.f) 209) 2,m e.a.b e.a.a.a 3]).seq ((reg [m e.a.a.b e.a.b 0,o e.a.a.c (.call (F 128) [t e.a.a.b]) 1,m e.a.a.f e 2,L e.a.b.a e.a.a.f 3,q (.store 3 (t e.b) (t e.a.a.c)) 4,q (.store 1 (t e.c) (t e.a.b.a)) 5,q (.store 1 (t e.f) (k 0)) 6]).seq NC.ret))))),26, [.cellN e.b 3,.cell1 e.c,.cell1 e.f]⟩
theorem x7:ag Tryz.prog 74=some (.code Ee):=by kernel_rfl
noncomputable def xX:NC:=((reg [b e.a.a.b .lss (t e.a.a.a) (t e.f.f) 0]).seq ((NC.cond (t e.a.a.b) NC.skip (NC.exit 0)).seq ((NC.block 1 ((reg [o e.a.a.c (.indexSlc 2 (t e.f.c) (t e.a.a.a)) 0,o e.a.a.f (.loadN 2 (t e.a.a.c)) 1,o e.a.c (.alloc [.str [],.int .i64 (.lit 0)] 142) 2,q (.store 2 (t e.a.c) (t e.a.a.f)) 3]).seq (reg [m e.a.b.a e.a.a 0,f 0 e.a.b.b e.a.c 1,l e.a.b.c e.a.b.b 2,q (.mapUpdate true (t e.a.b.a) (t e.a.b.c) kt) 3]))).seq (reg [b e.a.b.f .add (t e.a.a.a) (k 1) 0,m e.a.a.a e.a.b.f 1]))))
noncomputable def yh:NC:=((reg [b e.a.f.a .lss (t e.a.c.f) (t e.a.c.c) 0]).seq ((NC.cond (t e.a.f.a) NC.skip (NC.exit 2)).seq ((NC.block 3 ((reg [o e.a.f.b (.indexSlc 2 (t e.a.c.b) (t e.a.c.f)) 0,o e.a.f.c (.loadN 2 (t e.a.f.b)) 1,o e.b.a (.alloc [.str [],.nils] 145) 2,q (.store 2 (t e.b.a) (t e.a.f.c)) 3]).seq ((reg [f 1 e.b.a.a e.b.a 0,l e.b.a.b e.b.a.a 1,m e.b.a.c e.a.a 2,o e.b.a.f (.call (F 130) [t e.b.a.b,t e.b.a.c]) 3,m e.a.f.f e.b.a.f 4,x e.b.b.a e.a.f.f 0 5,x e.b.b.b e.a.f.f 1 6,m e.b.b e.b.b.a 7,m e.b.c e.b.b.b 8]).seq ((reg [m e.b.b.c e.b.c 0,b e.b.b.f .neq (t e.b.b.c) (k 0) 1]).seq (NC.cond (t e.b.b.f) ((reg [m e.b.c.a e.b.b 0,m e.b.c.b e.b.c 1,m e.b e.b.c.a 2,m e.c e.b.c.b 3]).seq NC.ret) NC.skip))))).seq (reg [b e.b.c.c .add (t e.a.c.f) (k 1) 0,m e.a.c.f e.b.c.c 1]))))
noncomputable def Er:NFun:=⟨(reg [o e.a (.box (t e) 60) 0,o e.b (.move (k 0)) 1,o e.c (.move (k 0)) 2]).seq (((reg [o e.b.f (.loadN 3 (t e.a)) 0,o e.c.a (.call (F 129) [t e.b.f]) 1,m e.f e.c.a 2]).seq ((reg [m e.c.b e.f 0,b e.c.c .neq (t e.c.b) (k 0) 1]).seq (NC.cond (t e.c.c) ((reg [m e.c.f e.f 0,o e.b (.move (k 0)) 1,m e.c e.c.f 2]).seq NC.ret) NC.skip))).seq ((reg [o e.f.a (.mkMap) 0,m e.a.a e.f.a 1]).seq (((reg [f 0 e.f.b e.a 0,l e.f.c e.f.b 1,L e.f.f e.f.c 2,o e.a.a.a (.move (k 0)) 3]).seq (NC.block 0 xX.loop)).seq (((reg [f 1 e.a.c.a e.a 0,l e.a.c.b e.a.c.a 1,L e.a.c.c e.a.c.b 2,o e.a.c.f (.move (k 0)) 3]).seq (NC.block 2 yh.loop)).seq ((reg [f 2 e.b.c.f e.a 0,l e.b.f.a e.b.c.f 1,m e.b.f.b e.a.a 2,o e.b.f.c (.call (F 130) [t e.b.f.a,t e.b.f.b]) 3,x e.b.f.f e.b.f.c 0 4,x e.c.a.a e.b.f.c 1 5,m e.b e.b.f.f 6,m e.c e.c.a.a 7]).seq NC.ret))))),54, [.tmp e.b,.tmp e.c]⟩
theorem yf:ag Tryz.prog 75=some (.code Er):=by kernel_rfl
noncomputable def xS:NC:=((reg [b e.a.f.b .lss (t e.a.f.a) (t e.a.c.f) 0]).seq ((NC.cond (t e.a.f.b) NC.skip (NC.exit 0)).seq ((NC.block 1 ((reg [o e.a.f.c (.indexSlc 2 (t e.a.c.c) (t e.a.f.a)) 0,o e.a.f.f (.loadN 2 (t e.a.f.c)) 1,o e.b.c (.alloc [.str [],.nils] 145) 2,q (.store 2 (t e.b.c) (t e.a.f.f)) 3]).seq ((reg [f 1 e.b.a.a e.b.c 0,l e.b.a.b e.b.a.a 1,f 0 e.b.a.c e.a 2,l e.b.a.f e.b.a.c 3,o e.b.b.a (.call (F 131) [t e.b.a.b,t e.b.a.f]) 4,o e.b.f (.alloc [.int .i64 (.lit 0),.int .i64 (.lit 0),.nils] 81) 5,q (.store 3 (t e.b.f) (t e.b.b.a)) 6]).seq ((reg [m e.b.b.b e.a.f 0,m e.b.b.c e.b.b.b 1,G e.b.b.f (.fieldAddr 0 (t e.b.f)) e.b.b.c false 2,G e.b.c.a (.load1 (t e.b.b.f)) e.b.b.c false 3,G e.b.c.b (.bin .num .gtr (t e.b.c.a) (k 400)) e.b.b.c false 4,o e.b.c.c (.pick (t e.b.b.c) kt (t e.b.c.b)) 5,m e.a.f e.b.c.c 6]).seq (reg [m e.b.c.f e.b.a 0,o e.b.f.a (.loadN 3 (t e.b.f)) 1,o e.b.f.b (.buildSlice [.int .i64 (.lit 0),.int .i64 (.lit 0),.nils] 3 1 81 [(0,3,t e.b.f.a)]) 2,o e.b.f.c (.append 3 40 81 (t e.b.c.f) (t e.b.f.b)) 3,m e.b.a e.b.f.c 4]))))).seq (reg [b e.b.f.f .add (t e.a.f.a) (k 1) 0,m e.a.f.a e.b.f.f 1]))))
noncomputable def Et:NFun:=⟨(reg [o e.a (.box (t e) 60) 0,o e.b (.alloc [.int .i64 (.lit 0),.int .i64 (.lit 0),.nils] 81) 1,o e.c (.move kn) 2,o e.f (.move (k 0)) 3]).seq (((reg [o e.c.b (.loadN 3 (t e.a)) 0,o e.c.c (.call (F 75) [t e.c.b]) 1,m e.c.a e.c.c 2,x e.c.f e.c.a 0 3,x e.f.a e.c.a 1 4,m e.a.a e.c.f 5,m e.a.b e.f.a 6]).seq ((reg [m e.f.b e.a.b 0,b e.f.c .neq (t e.f.b) (k 0) 1]).seq (NC.cond (t e.f.c) ((reg [o e.f.f (.build [.int .i64 (.lit 0),.int .i64 (.lit 0),.nils] []) 0,m e.a.a.a e.a.b 1,q (.store 3 (t e.b) (t e.f.f)) 2,o e.c (.move kn) 3,m e.f e.a.a.a 4]).seq NC.ret) NC.skip))).seq ((reg [f 2 e.a.a.b e.a 0,l e.a.a.c e.a.a.b 1,f 0 e.a.a.f e.a 2,l e.a.b.a e.a.a.f 3,o e.a.b.b (.call (F 131) [t e.a.a.c,t e.a.b.a]) 4,o e.a.c (.alloc [.int .i64 (.lit 0),.int .i64 (.lit 0),.nils] 81) 5,q (.store 3 (t e.a.c) (t e.a.b.b)) 6]).seq ((reg [f 0 e.a.b.c e.a.c 0,l e.a.b.f e.a.b.c 1,b e.a.c.a .gtr (t e.a.b.f) (k 400) 2,m e.a.f e.a.c.a 3]).seq ((reg [o e.b.a (.move kn) 0]).seq (((reg [f 1 e.a.c.b e.a 0,l e.a.c.c e.a.c.b 1,L e.a.c.f e.a.c.c 2,o e.a.f.a (.move (k 0)) 3]).seq (NC.block 0 xS.loop)).seq (((reg [m e.c.a.a e.a.f 0]).seq (NC.cond (t e.c.a.a) ((reg [o e.c.a.b (.build [.int .i64 (.lit 0),.int .i64 (.lit 0),.nils] []) 0,q (.store 3 (t e.b) (t e.c.a.b)) 1,o e.c (.move kn) 2,o e.f (.move (k 3)) 3]).seq NC.ret) NC.skip)).seq ((reg [o e.c.a.c (.loadN 3 (t e.a.c)) 0,m e.c.a.f e.b.a 1,q (.store 3 (t e.b) (t e.c.a.c)) 2,m e.c e.c.a.f 3,o e.f (.move (k 0)) 4]).seq NC.ret))))))),57, [.cellN e.b 3,.tmp e.c,.tmp e.f]⟩
theorem yo:ag Tryz.prog 76=some (.code Et):=by kernel_rfl
noncomputable def xn:NC:=((reg [b e.b.b.c .lss (t e.b.b.b) (t e.b.b.a) 0]).seq ((NC.cond (t e.b.b.c) NC.skip (NC.exit 2)).seq ((NC.block 3 ((reg [m e.b.b.f e.b.b.b 0,m e.c.b e.b.b.f 1]).seq (reg [m e.b.c.a e.c.a 0,m e.b.c.b e.c.b 1,o e.b.c.c (.indexSlc 1 (t e.b.c.a) (t e.b.c.b)) 2,q (.store 1 (t e.b.c.c) kt) 3]))).seq (reg [b e.b.c.f .add (t e.b.b.b) (k 1) 0,m e.b.b.b e.b.c.f 1]))))
noncomputable def yA:NC:=((reg [b e.a.a.c .lss (t e.a.a.b) (t e.a.a.a) 0]).seq ((NC.cond (t e.a.a.c) NC.skip (NC.exit 0)).seq ((NC.block 1 ((reg [o e.a.a.f (.indexSlc 3 (t e.f.f) (t e.a.a.b)) 0,o e.a.b.a (.loadN 3 (t e.a.a.f)) 1,o e.b.f (.alloc [.int .i64 (.lit 0),.int .i64 (.lit 0),.nils] 81) 2,q (.store 3 (t e.b.f) (t e.a.b.a)) 3]).seq (reg [m e.a.b.b e.b.b 0,o e.a.b.c (.loadN 3 (t e.b.f)) 1,o e.a.b.f (.call (F 132) [t e.a.b.c]) 2,o e.a.c.a (.buildSlice [.int .i64 (.lit 0),.int .i64 (.lit 0),.nils] 3 1 81 [(0,3,t e.a.b.f)]) 3,o e.a.c.b (.append 3 40 81 (t e.a.b.b) (t e.a.c.a)) 4,m e.b.b e.a.c.b 5]))).seq (reg [b e.a.c.c .add (t e.a.a.b) (k 1) 0,m e.a.a.b e.a.c.c 1]))))
noncomputable def xO:NC:=((reg [b e.c.b.a .lss (t e.c.a.f) (t e.c.a.c) 0]).seq ((NC.cond (t e.c.b.a) NC.skip (NC.exit 4)).seq ((NC.block 5 ((reg [m e.c.b.b e.c.a.f 0,o e.c.b.c (.indexSlc 3 (t e.c.a.b) (t e.c.a.f)) 1,o e.c.b.f (.loadN 3 (t e.c.b.c)) 2,o e.f.a (.alloc [.int .i64 (.lit 0),.int .i64 (.lit 0),.nils] 81) 3,m e.c.f e.c.b.b 4,q (.store 3 (t e.f.a) (t e.c.b.f)) 5]).seq (reg [m e.c.c.a e.b.b 0,m e.c.c.b e.c.f 1,o e.c.c.c (.loadN 3 (t e.f.a)) 2,m e.c.c.f e.c.c 3,o e.c.f.a (.call (F 134) [t e.c.c.c,t e.c.c.f]) 4,o e.c.f.b (.indexSlc 3 (t e.c.c.a) (t e.c.c.b)) 5,q (.store 3 (t e.c.f.b) (t e.c.f.a)) 6]))).seq (reg [b e.c.f.c .add (t e.c.a.f) (k 1) 0,m e.c.a.f e.c.f.c 1]))))
noncomputable def C9:NFun:=⟨(reg [o e.f (.box (t e) 60) 0,o e.a.a (.box (t e.a) 81) 1,o e.a.f (.alloc [.int .i64 (.lit 0),.int .i64 (.lit 0),.nils] 81) 2,o e.b.a (.move kn) 3]).seq ((reg [o e.f.b (.loadN 3 (t e.a.a)) 0,o e.f.c (.call (F 132) [t e.f.b]) 1,q (.store 3 (t e.a.a) (t e.f.c)) 2]).seq ((reg [o e.b.b (.move kn) 0]).seq (((reg [m e.f.f e.b 0,L e.a.a.a e.f.f 1,o e.a.a.b (.move (k 0)) 2]).seq (NC.block 0 yA.loop)).seq (((reg [m e.a.c.f e.c 0,o e.a.f.a (.un .not (t e.a.c.f)) 1]).seq (NC.cond (t e.a.f.a) ((reg [o e.a.f.b (.loadN 3 (t e.a.a)) 0,m e.a.f.c e.b.b 1,q (.store 3 (t e.a.f) (t e.a.f.b)) 2,m e.b.a e.a.f.c 3]).seq NC.ret) NC.skip)).seq ((reg [f 0 e.a.f.f e.f 0,l e.b.a.a e.a.f.f 1,L e.b.a.b e.b.a.a 2,o e.b.a.c (.mkSlice [.bool false] 1 1 4 (t e.b.a.b) (t e.b.a.b)) 3,m e.c.a e.b.a.c 4]).seq (((reg [m e.b.a.f e.c.a 0,L e.b.b.a e.b.a.f 1,o e.b.b.b (.move (k 0)) 2]).seq (NC.block 2 xn.loop)).seq ((reg [m e.b.f.a e.b.b 0,f 0 e.b.f.b e.f 1,l e.b.f.c e.b.f.b 2,L e.b.f.f e.b.f.c 3,o e.c.a.a (.call (F 133) [t e.b.f.a,t e.b.f.f]) 4,m e.c.c e.c.a.a 5]).seq (((reg [m e.c.a.b e.b.b 0,L e.c.a.c e.c.a.b 1,o e.c.a.f (.move (k 0)) 2]).seq (NC.block 4 xO.loop)).seq ((reg [o e.c.f.f (.loadN 3 (t e.a.a)) 0,m e.f.a.a e.c.a 1,o e.f.a.b (.call (F 134) [t e.c.f.f,t e.f.a.a]) 2,m e.f.a.c e.b.b 3,q (.store 3 (t e.a.f) (t e.f.a.b)) 4,m e.b.a e.f.a.c 5]).seq NC.ret))))))))),72, [.cellN e.a.f 3,.tmp e.b.a]⟩
theorem xd:ag Tryz.prog 77=some (.code C9):=by kernel_rfl
noncomputable def xq:NC:=((reg [b e.a.c.b .lss (t e.a.c.a) (t e.a.b.f) 0]).seq ((NC.cond (t e.a.c.b) NC.skip (NC.exit 0)).seq ((NC.block 1 ((reg [o e.a.c.c (.indexSlc 3 (t e.a.b.c) (t e.a.c.a)) 0,o e.a.c.f (.loadN 3 (t e.a.c.c)) 1,o e.c.b (.alloc [.int .i64 (.lit 0),.int .i64 (.lit 0),.nils] 81) 2,q (.store 3 (t e.c.b) (t e.a.c.f)) 3]).seq ((reg [o e.a.f.b (.loadN 3 (t e.c.b)) 0,m e.a.f.c e.b 1,o e.a.f.f (.call (F 135) [t e.a.f.b,t e.a.f.c]) 2,m e.a.f.a e.a.f.f 3,x e.b.a.a e.a.f.a 0 4,x e.b.a.b e.a.f.a 1 5,m e.c.c e.b.a.a 6,m e.c.f e.b.a.b 7]).seq (((reg [m e.b.a.c e.c.f 0,b e.b.a.f .neq (t e.b.a.c) (k 0) 1]).seq (NC.cond (t e.b.a.f) ((reg [o e.b.b.a (.build [.int .i64 (.lit 0),.int .i64 (.lit 0),.nils,.nils] []) 0,m e.b.b.b e.c.f 1,q (.store 4 (t e.a.f) (t e.b.b.a)) 2,m e.b.a e.b.b.b 3]).seq NC.ret) NC.skip)).seq (reg [m e.b.b.c e.b.f 0,m e.b.b.f e.c.c 1,o e.b.c.a (.buildSlice [.nils] 1 1 26 [(0,1,t e.b.b.f)]) 2,o e.b.c.b (.append 1 24 26 (t e.b.b.c) (t e.b.c.a)) 3,m e.b.f e.b.c.b 4]))))).seq (reg [b e.b.c.c .add (t e.a.c.a) (k 1) 0,m e.a.c.a e.b.c.c 1]))))
noncomputable def D8:NFun:=⟨(reg [o e.f (.box (t e) 81) 0,o e.a.f (.alloc [.int .i64 (.lit 0),.int .i64 (.lit 0),.nils,.nils] 28) 1,o e.b.a (.move (k 0)) 2]).seq ((reg [o e.f.b (.loadN 3 (t e.f)) 0,m e.f.c e.b 1,o e.f.f (.call (F 135) [t e.f.b,t e.f.c]) 2,m e.f.a e.f.f 3,x e.a.a.a e.f.a 0 4,x e.a.a.b e.f.a 1 5,m e.b.b e.a.a.a 6,m e.b.c e.a.a.b 7]).seq (((reg [m e.a.a.c e.b.c 0,b e.a.a.f .neq (t e.a.a.c) (k 0) 1]).seq (NC.cond (t e.a.a.f) ((reg [o e.a.b.a (.build [.int .i64 (.lit 0),.int .i64 (.lit 0),.nils,.nils] []) 0,m e.a.b.b e.b.c 1,q (.store 4 (t e.a.f) (t e.a.b.a)) 2,m e.b.a e.a.b.b 3]).seq NC.ret) NC.skip)).seq ((reg [o e.b.f (.move kn) 0]).seq (((reg [m e.a.b.c e.a 0,L e.a.b.f e.a.b.c 1,o e.a.c.a (.move (k 0)) 2]).seq (NC.block 0 xq.loop)).seq ((reg [m e.b.c.f e.b.b 0,m e.b.f.a e.b.f 1,m e.b.f.b e.c 2,o e.b.f.c (.call (F 136) [t e.b.c.f,t e.b.f.a,t e.b.f.b]) 3,x e.b.f.f e.b.f.c 0 4,x e.c.a.a e.b.f.c 1 5,q (.store 4 (t e.a.f) (t e.b.f.f)) 6,m e.b.a e.c.a.a 7]).seq NC.ret))))),54, [.cellN e.a.f 4,.tmp e.b.a]⟩
theorem xW:ag Tryz.prog 78=some (.code D8):=by kernel_rfl
noncomputable def xK:NC:=((reg [b e.b.a .lss (t e.a.f) (t e.a.c) 0]).seq ((NC.cond (t e.b.a) NC.skip (NC.exit 0)).seq ((NC.block 1 ((reg [o e.b.b (.indexSlc 2 (t e.a.b) (t e.a.f)) 0,o e.b.c (.loadN 2 (t e.b.b)) 1,o e.a.a (.alloc [.str [],.int .i64 (.lit 0)] 142) 2,q (.store 2 (t e.a.a) (t e.b.c)) 3]).seq (reg [m e.b.f e.c 0,f 1 e.c.a e.a.a 1,l e.c.b e.c.a 2,o e.c.c (.minmax false [t e.c.b,k 64]) 3,o e.c.f (.minmax true [k 1,t e.c.c]) 4,b e.f.a .add (t e.b.f) (t e.c.f) 5,m e.c e.f.a 6]))).seq (reg [b e.f.b .add (t e.a.f) (k 1) 0,m e.a.f e.f.b 1]))))
noncomputable def DH:NFun:=⟨(reg [o e.b (.move (k 0)) 0]).seq ((reg [o e.c (.move (k 0)) 0]).seq (((reg [m e.a.b e 0,L e.a.c e.a.b 1,o e.a.f (.move (k 0)) 2]).seq (NC.block 0 xK.loop)).seq ((reg [m e.f.c e.c 0,m e.b e.f.c 1]).seq NC.ret))),20, [.tmp e.b]⟩
theorem yt:ag Tryz.prog 79=some (.code DH):=by kernel_rfl
noncomputable def xG:NC:=(((reg [m e.b.c e.a.a 0,m e.b.f e 1,L e.c.a e.b.f 2,b e.c.b .lss (t e.b.c) (t e.c.a) 3]).seq (NC.cond (t e.c.b) NC.skip (NC.exit 0))).seq ((NC.block 1 ((regD [m e.f.a e 0,m e.f.b e.a.a 1,O e.f.c (.indexSlc 1 (t e.f.a) (t e.f.b)) 3 2,O e.f.f (.load1 (t e.f.c)) 7 3,m e.a.a.a e.a 4,m e.a.a.b e.a.a 5,O e.a.a.c (.indexSlc 1 (t e.a.a.a) (t e.a.a.b)) 48 6,O e.a.a.f (.load1 (t e.a.a.c)) 112 7,O e.a.b.a (.bin .num .neq (t e.f.f) (t e.a.a.f)) 255 8]).seq (NC.cond (t e.a.b.a) ((reg [o e.f (.move kf) 0]).seq NC.ret) NC.skip))).seq (reg [m e.c.c e.a.a 0,b e.c.f .add (t e.c.c) (k 1) 1,m e.a.a e.c.f 2])))
noncomputable def Du:NFun:=⟨(reg [o e.f (.move kf) 0]).seq (((reg [m e.a.b e 0,L e.a.c e.a.b 1,m e.a.f e.a 2,L e.b.a e.a.f 3,b e.b.b .neq (t e.a.c) (t e.b.a) 4]).seq (NC.cond (t e.b.b) ((reg [o e.f (.move kf) 0]).seq NC.ret) NC.skip)).seq (((reg [o e.a.a (.move (k 0)) 0]).seq (NC.block 0 xG.loop)).seq ((reg [o e.f (.move kt) 0]).seq NC.ret))),26, [.tmp e.f]⟩
theorem yb:ag Tryz.prog 80=some (.code Du):=by kernel_rfl
noncomputable def Ce:NFun:=⟨(reg [o e.a.b (.move (.const .nilp)) 0]).seq (((reg [m e.a.c e 0,o e.a.f (.bin .ptr .eql (t e.a.c) (.const .nilp)) 1]).seq (NC.cond (t e.a.f) (reg [o e.b.a (.call (F 53) [k 0]) 0,m e e.b.a 1]) NC.skip)).seq ((reg [m e.b.b e 0,m e.b.c e.a 1,m e.b.f e.b 2,o e.c.a (.build [.int .u64 (.lit 0),.int .u64 (.lit 0),.int .u64 (.lit 0),.int .u64 (.lit 0),.int .u64 (.lit 0),.int .u64 (.lit 0),.int .u64 (.lit 0),.int .u64 (.lit 0),.int .u64 (.lit 0),.int .u64 (.lit 0),.int .u64 (.lit 0),.int .u64 (.lit 0),.int .u64 (.lit 0),.int .u64 (.lit 0),.int .u64 (.lit 0),.int .u64 (.lit 0),.int .u64 (.lit 0),.int .u64 (.lit 0),.int .u64 (.lit 0),.int .u64 (.lit 0),.int .u64 (.lit 0),.int .u64 (.lit 0),.int .u64 (.lit 0),.int .u64 (.lit 0),.int .u64 (.lit 0),.int .u64 (.lit 0),.int .u64 (.lit 0),.int .u64 (.lit 0),.int .u64 (.lit 0),.int .u64 (.lit 0),.int .u64 (.lit 0),.int .u64 (.lit 0),.int .u64 (.lit 0)] []) 3,o e.c.b (.call (F 160) [t e.c.a,k 28,ku 1048576]) 4,o e.c.c (.mkMap) 5,o e.c.f (.build ([.nilp,.int .i64 (.lit 0),.int .i64 (.lit 0),.int .i64 (.lit 0)]++List.replicate 545 (.int .u64 (.lit 0))++ [.nils,.nilm,.int .i64 (.lit 0),.int .i64 (.lit 0),.bool false]) [(0,1,t e.b.b),(1,1,t e.b.c),(2,1,t e.b.f),(4,33,t e.c.b),(550,1,t e.c.c)]) 6,o e.f.a (.box (t e.c.f) 179) 7,m e.a.b e.f.a 8]).seq NC.ret)),18, [.tmp e.a.b]⟩
theorem uj:ag Tryz.prog 100=some (.code Ce):=by kernel_rfl
noncomputable def B4:NFun:=⟨(reg [o e.f (.move kf) 0]).seq (((reg [m e.a.b e.a 0,b e.a.c .lss (t e.a.b) (k 0) 1,m e.a.f e.a.c 2,G e.b.a (.move (t e.a)) e.a.f false 3,G e.b.b (.move (t e)) e.a.f false 4,G e.b.c (.nilCheck (t e.b.b)) e.a.f false 5,G e.b.f (.fieldAddr 0 (t e.b.c)) e.a.f false 6,G e.c.a (.load1 (t e.b.f)) e.a.f false 7,G e.c.b (.lenSlc (t e.c.a)) e.a.f false 8,G e.c.c (.bin .num .quo (t e.c.b) (k 8)) e.a.f false 9,G e.c.f (.bin .num .gtr (t e.b.a) (t e.c.c)) e.a.f false 10,o e.f.a (.pick (t e.a.f) kt (t e.c.f)) 11,m e.f.b e.f.a 12,G e.f.c (.move (t e.a)) e.f.b false 13,G e.f.f (.bin .num .mul (t e.f.c) (k 8)) e.f.b false 14,G e.a.a.a (.move (t e)) e.f.b false 15,G e.a.a.b (.nilCheck (t e.a.a.a)) e.f.b false 16,G e.a.a.c (.fieldAddr 0 (t e.a.a.b)) e.f.b false 17,G e.a.a.f (.load1 (t e.a.a.c)) e.f.b false 18,G e.a.b.a (.lenSlc (t e.a.a.f)) e.f.b false 19,G e.a.b.b (.bin .num .geq (t e.f.f) (t e.a.b.a)) e.f.b false 20,o e.a.b.c (.pick (t e.f.b) kt (t e.a.b.b)) 21]).seq (NC.cond (t e.a.b.c) ((reg [o e.f (.move kf) 0]).seq NC.ret) NC.skip)).seq ((reg [m e.a.b.f e.a 0,b e.a.c.a .mul (t e.a.b.f) (k 8) 1,m e.a.a e.a.c.a 2]).seq ((regD [m e.a.c.b e 0,O e.a.c.c (.nilCheck (t e.a.c.b)) 1 1,O e.a.c.f (.fieldAddr 1 (t e.a.c.c)) 3 2,O e.a.f.a (.load1 (t e.a.c.f)) 7 3,m e.a.f.b e.a.a 4,m e.a.f.c e.a.a 5,O e.a.f.f (.bin .num .add (t e.a.f.c) (k 8)) 32 6,m e.b.a.a e 7,O e.b.a.b (.nilCheck (t e.b.a.a)) 128 8,O e.b.a.c (.fieldAddr 1 (t e.b.a.b)) 384 9,O e.b.a.f (.load1 (t e.b.a.c)) 896 10,O e.b.b.a (.lenSlc (t e.b.a.f)) 1920 11,O e.b.b.b (.minmax false [t e.a.f.f,t e.b.b.a]) 4064 12,O e.b.b.c (.sliceSlc 1 (t e.a.f.a) (some (t e.a.f.b)) (some (t e.b.b.b))) 8191 13,m e.b.b.f e 14,O e.b.c.a (.nilCheck (t e.b.b.f)) 16384 15,O e.b.c.b (.fieldAddr 0 (t e.b.c.a)) 49152 16,O e.b.c.c (.load1 (t e.b.c.b)) 114688 17,m e.b.c.f e.a.a 18,O e.b.f.a (.sliceSlc 1 (t e.b.c.c) (some (t e.b.c.f)) none) 507904 19,O e.b.f.b (.copy 1 (t e.b.b.c) (t e.b.f.a)) 1048575 20]).seq ((reg [o e.f (.move kt) 0]).seq NC.ret)))),51, [.tmp e.f]⟩
theorem tQ:ag Tryz.prog 102=some (.code B4):=by kernel_rfl
noncomputable def B2:NFun:=⟨(reg [o e.c (.box (t e.a) 3) 0]).seq ((reg [m e.f e 0,o e.a.a (.mkFn 162 [t e.c]) 1,o e.a.b (.call (F 161) [t e.f,t e.a.a]) 2,o e.a.c (.un .not (t e.a.b)) 3]).seq (NC.cond (t e.a.c) (regD [m e.a.f e 0,O e.b.a (.nilCheck (t e.a.f)) 1 1,O e.b.b (.fieldAddr 550 (t e.b.a)) 3 2,O e.b.c (.load1 (t e.b.b)) 7 3,l e.b.f e.c 4,⟨none,.delete false (t e.b.c) (t e.b.f),none,31,5⟩]) NC.skip)),13, []⟩
theorem wR:ag Tryz.prog 103=some (.code B2):=by kernel_rfl
noncomputable def zb:NFun:=⟨regD [m e.b e 0,O e.c (.nilCheck (t e.b)) 1 1,O e.f (.fieldAddr 0 (t e.c)) 3 2,O e.a.a (.load1 (t e.f)) 7 3,m e.a.b e 4,O e.a.c (.nilCheck (t e.a.b)) 16 5,O e.a.f (.fieldAddr 1 (t e.a.c)) 48 6,O e.b.a (.load1 (t e.a.f)) 112 7,O e.b.b (.copy 1 (t e.a.a) (t e.b.a)) 255 8],11, []⟩
theorem tF:ag Tryz.prog 104=some (.code zb):=by kernel_rfl
noncomputable def BF:NFun:=⟨(reg [o e.b (.move kn) 0,o e.c (.move kf) 1]).seq ((reg [m e.f e 0,n e.a.a e.f 1,f 3 e.a.b e.a.a 2,q (.store 1 (t e.a.b) (k 2)) 3]).seq ((reg [m e.a.c e 0,o e.a.f (.call (F 113) [t e.a.c,k 11,k 0,ku 0]) 1,m e.b e.a.f 2,o e.c (.move kt) 3]).seq NC.ret)),9, [.tmp e.b,.tmp e.c]⟩
theorem ub:ag Tryz.prog 105=some (.code BF):=by kernel_rfl
noncomputable def qP:NC:=((reg [b e.b.b .lss (t e.b.a) (t e.a.f) 0]).seq ((NC.cond (t e.b.b) NC.skip (NC.exit 0)).seq ((NC.block 1 ((reg [m e.b.c e.b.a 0,o e.b.f (.indexSlc 15 (t e.a.c) (t e.b.a)) 1,o e.c.a (.loadN 15 (t e.b.f)) 2,o e.a.a (.alloc [.int .u32 (.lit 0),.int .i64 (.lit 0),.int .i64 (.lit 0),.int .i64 (.lit 0),.int .i64 (.lit 0),.int .i64 (.lit 0),.int .i64 (.lit 0),.int .i64 (.lit 0),.int .i64 (.lit 0),.int .i64 (.lit 0),.int .i64 (.lit 0),.int .i64 (.lit 0),.int .i64 (.lit 0),.bool false,.bool false] 260) 3,m e.f e.b.c 4,q (.store 15 (t e.a.a) (t e.c.a)) 5]).seq ((reg [o e.c.b (.loadN 15 (t e.a.a)) 0,m e.c.c e.f 1,m e.c.f e 2,o e.f.a (.call (F 165) [t e.c.b,t e.c.c,t e.c.f]) 3,o e.a.b (.alloc [.int .i64 (.lit 0),.int .i64 (.lit 0),.int .i64 (.lit 0),.int .i64 (.lit 0),.int .i64 (.lit 0),.int .i64 (.lit 0),.int .i64 (.lit 0)] 182) 4,q (.store 7 (t e.a.b) (t e.f.a)) 5]).seq ((reg [o e.f.b (.loadN 15 (t e.a.a)) 0,o e.f.c (.loadN 7 (t e.a.b)) 1,o e.f.f (.call (F 166) [t e.f.b,t e.f.c]) 2,m e.a.a.a e.f.f 3,G e.a.a.b (.loadN 15 (t e.a.a)) e.a.a.a true 4,G e.a.a.c (.loadN 7 (t e.a.b)) e.a.a.a true 5,G e.a.a.f (.call (F 167) [t e.a.a.b,t e.a.a.c]) e.a.a.a true 6,G e.a.b.a (.move (t e)) e.a.a.a true 7,G e.a.b.b (.bin .num .eql (t e.a.a.f) (t e.a.b.a)) e.a.a.a true 8,o e.a.b.c (.pick (t e.a.a.a) (t e.a.b.b) kf) 9]).seq (NC.cond (t e.a.b.c) ((reg [o e.a.b.f (.loadN 7 (t e.a.b)) 0,q (.store 7 (t e.b) (t e.a.b.f)) 1,o e.c (.move (k 0)) 2]).seq NC.ret) NC.skip))))).seq (reg [b e.a.c.a .add (t e.b.a) (k 1) 0,m e.b.a e.a.c.a 1]))))
noncomputable def BK:NFun:=⟨(reg [o e.b (.alloc [.int .i64 (.lit 0),.int .i64 (.lit 0),.int .i64 (.lit 0),.int .i64 (.lit 0),.int .i64 (.lit 0),.int .i64 (.lit 0),.int .i64 (.lit 0)] 182) 0,o e.c (.move (k 0)) 1]).seq (((reg [o e.a.c (.call (F 164) []) 0,L e.a.f e.a.c 1,o e.b.a (.move (k 0)) 2]).seq (NC.block 0 qP.loop)).seq ((reg [o e.a.c.b (.build [.int .i64 (.lit 0),.int .i64 (.lit 0),.int .i64 (.lit 0),.int .i64 (.lit 0),.int .i64 (.lit 0),.int .i64 (.lit 0),.int .i64 (.lit 0)] []) 0,q (.store 7 (t e.b) (t e.a.c.b)) 1,o e.c (.move (k 8)) 2]).seq NC.ret)),31, [.cellN e.b 7,.tmp e.c]⟩
theorem pY:ag Tryz.prog 106=some (.code BK):=by kernel_rfl
noncomputable def z7:NFun:=⟨(reg [o e.b (.box (t e) 116) 0,o e.c (.box (t e.a) 182) 1,o e.f (.alloc [.int .u64 (.lit 0),.int .u64 (.lit 0),.int .u64 (.lit 0),.int .u64 (.lit 0),.int .u64 (.lit 0),.int .u64 (.lit 0),.int .u64 (.lit 0),.int .u64 (.lit 0),.int .u64 (.lit 0),.int .u64 (.lit 0),.int .u64 (.lit 0),.int .u64 (.lit 0),.int .u64 (.lit 0),.int .u64 (.lit 0),.int .u64 (.lit 0),.int .u64 (.lit 0),.int .u64 (.lit 0),.int .u64 (.lit 0),.int .u64 (.lit 0),.int .u64 (.lit 0),.int .u64 (.lit 0),.int .u64 (.lit 0),.int .u64 (.lit 0),.int .u64 (.lit 0),.int .u64 (.lit 0),.int .u64 (.lit 0),.int .u64 (.lit 0),.int .u64 (.lit 0),.int .u64 (.lit 0),.int .u64 (.lit 0),.int .u64 (.lit 0),.int .u64 (.lit 0),.int .u64 (.lit 0)] 116) 2,o e.a.a (.move (k 0)) 3,o e.a.b (.move kf) 4]).seq ((NC.block 0 ((reg [o e.a.f (.loadN 7 (t e.c)) 0,o e.b.a (.call (F 168) [t e.a.f]) 1,o e.b.b (.un .not (t e.b.a)) 2,m e.b.c e.b.b 3,G e.b.f (.fieldAddr 0 (t e.c)) e.b.c false 4,G e.c.a (.load1 (t e.b.f)) e.b.c false 5,G e.c.b (.bin .num .gtr (t e.c.a) (k 11)) e.b.c false 6,G e.c.c (.move (t e.c.b)) e.b.c false 7,G e.c.f (.fieldAddr 0 (t e.c)) e.c.c true 8,G e.f.a (.load1 (t e.c.f)) e.c.c true 9,G e.f.b (.bin .num .neq (t e.f.a) (k 21)) e.c.c true 10,G e.f.c (.pick (t e.c.c) (t e.f.b) kf) e.b.c false 11,o e.f.f (.pick (t e.b.c) kt (t e.f.c)) 12,m e.a.c e.f.f 13]).seq (NC.cond (t e.a.c) ((reg [o e.a.a.a (.loadN 33 (t e.b)) 0,q (.store 33 (t e.f) (t e.a.a.a)) 1,o e.a.a (.move (k 0)) 2,o e.a.b (.move kf) 3]).seq NC.ret) ((reg [f 0 e.a.a.c e.c 0,l e.a.a.f e.a.a.c 1,b e.a.b.a .eql (t e.a.a.f) (k 21) 2,m e.a.a.b e.a.b.a 3]).seq (NC.cond (t e.a.a.b) ((reg [o e.a.b.b (.loadN 33 (t e.b)) 0,q (.store 33 (t e.f) (t e.a.b.b)) 1,o e.a.a (.move (k 1)) 2,o e.a.b (.move kt) 3]).seq NC.ret) ((reg [o e.a.b.f (.loadN 33 (t e.b)) 0,o e.a.c.a (.loadN 7 (t e.c)) 1,o e.a.c.b (.call (F 169) [t e.a.b.f,t e.a.c.a]) 2,m e.a.b.c e.a.c.b 3]).seq (NC.cond (t e.a.b.c) ((regD [o e.a.c.c (.loadN 33 (t e.b)) 0,f 6 e.a.c.f e.c 1,O e.a.f.a (.load1 (t e.a.c.f)) 2 2,⟨none,.store 33 (t e.f) (t e.a.c.c),none,1,3⟩,O e.a.a (.move (t e.a.f.a)) 15 4,O e.a.b (.move kt) 31 5]).seq NC.ret) ((reg [f 0 e.a.f.c e.c 0,l e.a.f.f e.a.f.c 1,b e.b.a.a .geq (t e.a.f.f) (k 8) 2,m e.a.f.b e.b.a.a 3]).seq (NC.cond (t e.a.f.b) ((reg [o e.b.a.b (.loadN 33 (t e.b)) 0,q (.store 33 (t e.f) (t e.b.a.b)) 1,o e.a.a (.move (k 1)) 2,o e.a.b (.move kt) 3]).seq NC.ret) ((reg [f 0 e.b.a.f e.c 0,l e.b.b.a e.b.a.f 1,b e.b.b.b .eql (t e.b.b.a) (k 6) 2,m e.b.a.c e.b.b.b 3]).seq (NC.cond (t e.b.a.c) ((regD [o e.b.b.c (.loadN 33 (t e.b)) 0,f 2 e.b.b.f e.c 1,O e.b.c.a (.load1 (t e.b.b.f)) 2 2,o e.b.c.c (.loadN 33 (t e.b)) 4,f 3 e.b.c.f e.c 5,O e.b.f.a (.load1 (t e.b.c.f)) 32 6,O e.b.c.b (.call (F 170) [t e.b.b.c,t e.b.c.a]) 7 3,O e.b.f.c (.fieldAddr 31 (t e.b)) 31 8,O e.b.f.b (.call (F 170) [t e.b.c.c,t e.b.f.a]) 127 7,⟨none,.store 1 (t e.b.f.c) (t e.b.c.b),none,511,9⟩,O e.b.f.f (.fieldAddr 32 (t e.b)) 1023 10,⟨none,.store 1 (t e.b.f.f) (t e.b.f.b),none,2047,11⟩]).seq ((reg [o e.c.a.a (.loadN 33 (t e.b)) 0,q (.store 33 (t e.f) (t e.c.a.a)) 1,o e.a.a (.move (k 1)) 2,o e.a.b (.move kt) 3]).seq NC.ret)) NC.skip))))))))))).seq ((regD [o e.c.a.b (.loadN 33 (t e.b)) 0,f 1 e.c.a.c e.c 1,O e.c.a.f (.load1 (t e.c.a.c)) 2 2,o e.c.b.a (.loadN 33 (t e.b)) 3,o e.c.b.b (.loadN 7 (t e.c)) 4,O e.c.b.c (.call (F 171) [t e.c.b.a,t e.c.b.b]) 24 5,O e.c.b.f (.call (F 160) [t e.c.a.b,t e.c.a.f,t e.c.b.c]) 63 6,⟨none,.store 33 (t e.f) (t e.c.b.f),none,127,7⟩,O e.a.a (.move (k 1)) 255 8,O e.a.b (.move kt) 511 9]).seq NC.ret)),61, [.cellN e.f 33,.tmp e.a.a,.tmp e.a.b]⟩
theorem rQ:ag Tryz.prog 107=some (.code z7):=by kernel_rfl
noncomputable def BX:NFun:=⟨(reg [o e.c (.box (t e.a) 182) 0,o e.f (.move kn) 1,o e.a.a (.move kf) 2]).seq (((reg [f 0 e.a.b e.c 0,l e.a.c e.a.b 1]).seq (NC.block 0 (((reg [b e.b.a .eql (t e.a.c) (k 18) 0,m e.a.f e.b.a 1]).seq (NC.cond (t e.a.f) NC.skip (reg [b e.b.b .eql (t e.a.c) (k 19) 0,m e.a.f e.b.b 1]))).seq (NC.cond (t e.a.f) ((reg [m e.b.c e 0,f 0 e.b.f e.c 1,l e.c.a e.b.f 2,o e.c.b (.call (F 172) [t e.b.c,t e.c.a]) 3,x e.c.c e.c.b 0 4,x e.c.f e.c.b 1 5,m e.f e.c.c 6,m e.a.a e.c.f 7]).seq NC.ret) ((reg [b e.f.b .eql (t e.a.c) (k 22) 0,m e.f.a e.f.b 1]).seq (NC.cond (t e.f.a) ((reg [m e.f.c e 0,n e.f.f e.f.c 1,f 3 e.a.a.a e.f.f 2,q (.store 1 (t e.a.a.a) (k 1)) 3]).seq ((reg [m e.a.a.b e 0,m e.a.a.c e 1,o e.a.a.f (.call (F 113) [t e.a.a.c,k 10,k 0,ku 0]) 2,o e.a.b.a (.call (F 173) [t e.a.a.b,t e.a.a.f]) 3,x e.a.b.b e.a.b.a 0 4,x e.a.b.c e.a.b.a 1 5,m e.f e.a.b.b 6,m e.a.a e.a.b.c 7]).seq NC.ret)) ((reg [b e.a.c.a .eql (t e.a.c) (k 23) 0,m e.a.b.f e.a.c.a 1]).seq (NC.cond (t e.a.b.f) ((reg [m e.a.c.b e 0,m e.a.c.c e 1,m e.a.c.f e 2,n e.a.f.a e.a.c.f 3,f 4 e.a.f.b e.a.f.a 4,o e.a.f.c (.loadN 33 (t e.a.f.b)) 5,o e.a.f.f (.call (F 170) [t e.a.f.c,k 0]) 6,o e.b.a.a (.call (F 113) [t e.a.c.c,k 4,k 0,t e.a.f.f]) 7,o e.b.a.b (.call (F 173) [t e.a.c.b,t e.b.a.a]) 8,x e.b.a.c e.b.a.b 0 9,x e.b.a.f e.b.a.b 1 10,m e.f e.b.a.c 11,m e.a.a e.b.a.f 12]).seq NC.ret) NC.skip)))))))).seq ((reg [m e.b.b.a e 0,o e.b.b.b (.loadN 7 (t e.c)) 1,o e.b.b.c (.call (F 174) [t e.b.b.a,t e.b.b.b]) 2,x e.b.b.f e.b.b.c 0 3,x e.b.c.a e.b.b.c 1 4,m e.f e.b.b.f 5,m e.a.a e.b.c.a 6]).seq NC.ret)),46, [.tmp e.f,.tmp e.a.a]⟩
theorem s6:ag Tryz.prog 108=some (.code BX):=by kernel_rfl
noncomputable def Ac:NFun:=⟨(reg [o e.b (.box (t e) 117) 0,o e.c (.box (t e.a) 3) 1,o e.f (.move kf) 2]).seq (((reg [l e.a.a e.c 0,b e.a.b .lss (t e.a.a) (k 0) 1,m e.a.c e.a.b 2,G e.a.f (.load1 (t e.c)) e.a.c false 3,G e.b.a (.load1 (t e.b)) e.a.c false 4,G e.b.b (.lenSlc (t e.b.a)) e.a.c false 5,G e.b.c (.bin .num .geq (t e.a.f) (t e.b.b)) e.a.c false 6,o e.b.f (.pick (t e.a.c) kt (t e.b.c)) 7,m e.c.a e.b.f 8,G e.c.b (.load1 (t e.b)) e.c.a false 9,G e.c.c (.load1 (t e.c)) e.c.a false 10,G e.c.f (.indexSlc 3 (t e.c.b) (t e.c.c)) e.c.a false 11,G e.f.a (.fieldAddr 2 (t e.c.f)) e.c.a false 12,G e.f.b (.load1 (t e.f.a)) e.c.a false 13,G e.f.c (.move (t e.f.b)) e.c.a false 14,G e.f.f (.load1 (t e.c)) e.f.c true 15,G e.a.a.a (.bin .num .gtr (t e.f.f) (k 0)) e.f.c true 16,G e.a.a.b (.pick (t e.f.c) (t e.a.a.a) kf) e.c.a false 17,o e.a.a.c (.pick (t e.c.a) kt (t e.a.a.b)) 18]).seq (NC.cond (t e.a.a.c) ((reg [o e.f (.move kf) 0]).seq NC.ret) NC.skip)).seq ((reg [l e.a.a.f e.b 0,l e.a.b.a e.c 1,o e.a.b.b (.sliceSlc 3 (t e.a.a.f) none (some (t e.a.b.a))) 2,o e.a.b.c (.mkFn 176 [t e.b,t e.c]) 3,o e.a.b.f (.call (F 175) [t e.a.b.b,t e.a.b.c]) 4,o e.a.c.a (.un .not (t e.a.b.f)) 5,m e.f e.a.c.a 6]).seq NC.ret)),30, [.tmp e.f]⟩
theorem wE:ag Tryz.prog 109=some (.code Ac):=by kernel_rfl
noncomputable def vN:NC:=(reg [o e.a.a (.alloc [.int .i64 (.lit 0),.int .u64 (.lit 0),.bool false] 191) 0,q (.store 3 (t e.a.a) (t e.b.c)) 1])
noncomputable def uD:NC:=(NC.block 1 (reg [l e.b.f e.c 0,o e.c.a (.loadN 3 (t e.a.a)) 1,o e.c.b (.buildSlice [.int .i64 (.lit 0),.int .u64 (.lit 0),.bool false] 3 1 191 [(0,3,t e.c.a)]) 2,o e.c.c (.append 3 24 191 (t e.b.f) (t e.c.b)) 3,q (.store 1 (t e.c) (t e.c.c)) 4]))
noncomputable def za:NFun:=⟨(reg [o e.b (.move kn) 0]).seq ((reg [o e.c (.alloc [.nils] 117) 0]).seq (((reg [m e.a.b e 0,n e.a.c e.a.b 1,f 549 e.a.f e.a.c 2,o e.b.a (.call (F 177) [t e.a.f]) 3]).seq (NC.block 0 (NC.rangeFunc (t e.b.a) [e.b.b,e.b.c] vN uD))).seq ((reg [l e.c.f e.c 0,m e.b e.c.f 1]).seq NC.ret))),17, [.tmp e.b]⟩
theorem sO:ag Tryz.prog 110=some (.code za):=by kernel_rfl
noncomputable def BO:NFun:=⟨(reg [o e.f (.alloc [.int .i64 (.lit 0),.int .u64 (.lit 0),.bool false] 191) 0,o e.a.a (.move kf) 1]).seq ((reg [o e.a.b (.alloc [.int .i64 (.lit 0),.int .u64 (.lit 0),.bool false] 191) 0]).seq (((reg [m e.a.f e.a 0,b e.b.a .lss (t e.a.f) (k 0) 1,m e.b.b e.b.a 2,G e.b.c (.move (t e.a)) e.b.b false 3,G e.b.f (.move (t e)) e.b.b false 4,G e.c.a (.nilCheck (t e.b.f)) e.b.b false 5,G e.c.b (.fieldAddr 0 (t e.c.a)) e.b.b false 6,G e.c.c (.load1 (t e.c.b)) e.b.b false 7,G e.c.f (.lenSlc (t e.c.c)) e.b.b false 8,G e.f.a (.bin .num .geq (t e.b.c) (t e.c.f)) e.b.b false 9,o e.f.b (.pick (t e.b.b) kt (t e.f.a)) 10]).seq (NC.cond (t e.f.b) ((reg [o e.f.c (.loadN 3 (t e.a.b)) 0,q (.store 3 (t e.f) (t e.f.c)) 1,o e.a.a (.move kf) 2]).seq NC.ret) NC.skip)).seq ((reg [m e.f.f e 0,n e.a.a.a e.f.f 1,f 0 e.a.a.b e.a.a.a 2,l e.a.a.c e.a.a.b 3,m e.a.a.f e.a 4,o e.a.b.a (.indexSlc 3 (t e.a.a.c) (t e.a.a.f)) 5,o e.a.b.b (.loadN 3 (t e.a.b.a)) 6,o e.a.c (.alloc [.int .i64 (.lit 0),.int .u64 (.lit 0),.bool false] 191) 7,q (.store 3 (t e.a.c) (t e.a.b.b)) 8]).seq ((reg [m e.a.b.c e 0,m e.a.b.f e 1,n e.a.c.a e.a.b.f 2,f 0 e.a.c.b e.a.c.a 3,l e.a.c.c e.a.c.b 4,m e.a.c.f e.a 5,m e.a.f.a e.a 6,b e.a.f.b .add (t e.a.f.a) (k 1) 7,o e.a.f.c (.call (F 178) [t e.a.c.c,t e.a.c.f,t e.a.f.b]) 8,n e.a.f.f e.a.b.c 9,f 0 e.b.a.a e.a.f.f 10,q (.store 1 (t e.b.a.a) (t e.a.f.c)) 11]).seq ((reg [o e.b.a.b (.loadN 3 (t e.a.c)) 0,q (.store 3 (t e.f) (t e.b.a.b)) 1,o e.a.a (.move kt) 2]).seq NC.ret))))),39, [.cellN e.f 3,.tmp e.a.a]⟩
theorem vU:ag Tryz.prog 111=some (.code BO):=by kernel_rfl
noncomputable def An:NFun:=⟨(reg [o e.a.b (.move kf) 0]).seq ((reg [m e.b.b e 0,m e.b.c e.a 1,o e.b.f (.call (F 179) [t e.b.b,t e.b.c]) 2,m e.b.a e.b.f 3,x e.c.a e.b.a 0 4,x e.c.b e.b.a 1 5,m e.a.c e.c.a 6,m e.a.f e.c.b 7]).seq (((reg [m e.c.c e.a.f 0]).seq (NC.cond (t e.c.c) ((reg [m e.c.f e 0,n e.f.a e.c.f 1,f 0 e.f.b e.f.a 2,l e.f.c e.f.b 3,m e.f.f e.a.c 4,m e.a.a.a e.b 5,o e.a.a.b (.indexSlc 1 (t e.f.c) (t e.f.f)) 6,q (.store 1 (t e.a.a.b) (t e.a.a.a)) 7]).seq (reg [m e.a.a.c e 0,n e.a.a.f e.a.a.c 1,f 2 e.a.b.a e.a.a.f 2,l e.a.b.b e.a.b.a 3,m e.a.b.c e.a.c 4,o e.a.b.f (.indexSlc 1 (t e.a.b.b) (t e.a.b.c)) 5,l e.a.c.a e.a.b.f 6,b e.a.c.b .add (t e.a.c.a) (k 1) 7,o e.a.c.c (.indexSlc 1 (t e.a.b.b) (t e.a.b.c)) 8,q (.store 1 (t e.a.c.c) (t e.a.c.b)) 9])) NC.skip)).seq ((reg [m e.a.c.f e.a.f 0,m e.a.b e.a.c.f 1]).seq NC.ret))),33, [.tmp e.a.b]⟩
theorem su:ag Tryz.prog 112=some (.code An):=by kernel_rfl
noncomputable def zZ:NFun:=⟨(reg [o e.a.f (.move kn) 0]).seq ((reg [m e.b.a e.a 0,m e.b.b e 1,n e.b.c e.b.b 2,f 1 e.b.f e.b.c 3,l e.c.a e.b.f 4,m e.c.b e.b 5,m e.c.c e.c 6,o e.c.f (.build [.int .i64 (.lit 0),.int .i64 (.lit 0),.int .i64 (.lit 0),.int .u64 (.lit 0)] [(0,1,t e.b.a),(1,1,t e.c.a),(2,1,t e.c.b),(3,1,t e.c.c)]) 7,o e.f.a (.buildSlice [.int .i64 (.lit 0),.int .i64 (.lit 0),.int .i64 (.lit 0),.int .u64 (.lit 0)] 4 1 107 [(0,4,t e.c.f)]) 8,m e.a.f e.f.a 9]).seq NC.ret),18, [.tmp e.a.f]⟩
theorem qY:ag Tryz.prog 113=some (.code zZ):=by kernel_rfl
noncomputable def Ag:NFun:=⟨(reg [o e.b (.move kn) 0]).seq (((reg [m e.c e 0,o e.f (.bin .slc .eql (t e.c) kn) 1]).seq (NC.cond (t e.f) ((reg [o e.b (.move kn) 0]).seq NC.ret) NC.skip)).seq ((reg [o e.a.a (.buildSlice [] 1 0 71 []) 0,m e.a.b e 1,o e.a.c (.append 1 8 71 (t e.a.a) (t e.a.b)) 2,m e.b e.a.c 3]).seq NC.ret)),8, [.tmp e.b]⟩
theorem qN:ag Tryz.prog 122=some (.code Ag):=by kernel_rfl
noncomputable def Bu:NFun:=⟨(reg [o e.b (.move (k 0)) 0]).seq ((reg [m e.c e 0,n e.f e.c 1,f 3 e.a.a e.f 2,l e.a.b e.a.a 3,m e.b e.a.b 4]).seq NC.ret),7, [.tmp e.b]⟩
theorem sW:ag Tryz.prog 124=some (.code Bu):=by kernel_rfl
noncomputable def uw:NC:=(reg [o e.a.f (.alloc [.int .i64 (.lit 0),.str [],.int .u64 (.lit 0),.int .i64 (.lit 0)] 139) 0,q (.store 4 (t e.a.f) (t e.c.c)) 1])
noncomputable def pM:NC:=(NC.block 1 (reg [l e.c.f e.a.c 0,o e.f.a (.loadN 4 (t e.a.f)) 1,o e.f.b (.buildSlice [.int .i64 (.lit 0),.str [],.int .u64 (.lit 0),.int .i64 (.lit 0)] 4 1 139 [(0,4,t e.f.a)]) 2,o e.f.c (.append 4 40 139 (t e.c.f) (t e.f.b)) 3,q (.store 1 (t e.a.c) (t e.f.c)) 4]))
noncomputable def zS:NFun:=⟨(reg [o e.b (.move kn) 0,o e.c (.move (k 0)) 1,o e.f (.move (k 0)) 2]).seq (((reg [m e.b.a e 0,L e.b.b e.b.a 1,b e.b.c .gtr (t e.b.b) (k 16384) 2]).seq (NC.cond (t e.b.c) ((reg [o e.b (.move kn) 0,o e.c (.move (k 0)) 1,o e.f (.move (k 3)) 2]).seq NC.ret) NC.skip)).seq ((reg [o e.a.a (.alloc [.int .i64 (.lit 0)] 3) 0,o e.a.b (.alloc [.bool false] 4) 1,q (.store 1 (t e.a.a) (k 0)) 2,q (.store 1 (t e.a.b) kf) 3]).seq ((reg [o e.a.c (.alloc [.nils] 132) 0]).seq (((reg [m e.b.f e 0,o e.c.a (.bytesToStr (t e.b.f)) 1,o e.c.b (.call (F 194) [t e.c.a,t e.a.a,t e.a.b]) 2]).seq (NC.block 0 (NC.rangeFunc (t e.c.b) [e.c.c] uw pM))).seq (((reg [l e.f.f e.a.b 0]).seq (NC.cond (t e.f.f) ((regD [l e.a.a.a e.a.a 0,o e.b (.move kn) 1,O e.c (.move (t e.a.a.a)) 3 2,O e.f (.move (k 2)) 7 3]).seq NC.ret) NC.skip)).seq ((regD [l e.a.a.b e.a.c 0,l e.a.a.c e.a.a 1,O e.b (.move (t e.a.a.b)) 1 2,O e.c (.move (t e.a.a.c)) 7 3,O e.f (.move (k 0)) 15 4]).seq NC.ret)))))),24, [.tmp e.b,.tmp e.c,.tmp e.f]⟩
theorem rJ:ag Tryz.prog 125=some (.code zS):=by kernel_rfl
noncomputable def BH:NFun:=⟨(reg [o e.a.b (.recover) 0,m e.f e.a.b 1]).seq ((reg [m e.a.c e.f 0,o e.a.f (.bin .ifc .neq (t e.a.c) (.const .nili)) 1]).seq (NC.cond (t e.a.f) ((reg [m e.b.a e.f 0,o e.b.b (.call (F 127) [t e.b.a]) 1,o e.a.a (.alloc [.int .i64 (.lit 0),.int .i64 (.lit 0)] 205) 2,q (.store 2 (t e.a.a) (t e.b.b)) 3]).seq (regD [o e.b.c (.build [.nils,.nils,.nils] []) 0,l e.b.f e 1,f 1 e.c.a e.a.a 2,O e.c.b (.load1 (t e.c.a)) 4 3,l e.c.c e 4,O e.c.f (.lenSlc (t e.c.c)) 16 5,O e.f.a (.bin .num .sub (t e.c.f) (k 1)) 48 6,O e.f.b (.minmax false [t e.c.b,t e.f.a]) 124 7,O e.f.c (.indexSlc 4 (t e.b.f) (t e.f.b)) 254 8,O e.f.f (.fieldAddr 3 (t e.f.c)) 510 9,O e.a.a.a (.load1 (t e.f.f)) 1022 10,f 0 e.a.a.b e.a.a 11,O e.a.a.c (.load1 (t e.a.a.b)) 2048 12,⟨none,.store 3 (t e.a) (t e.b.c),none,2047,13⟩,⟨none,.store 1 (t e.b) (t e.a.a.a),none,10239,14⟩,⟨none,.store 1 (t e.c) (t e.a.a.c),none,32767,15⟩])) NC.skip)),24, []⟩
theorem wn:ag Tryz.prog 126=some (.code BH):=by kernel_rfl
noncomputable def Aw:NFun:=⟨(reg [o e.b (.alloc [.int .i64 (.lit 0),.int .i64 (.lit 0)] 205) 0]).seq ((reg [m e.a.b e 0,o e.a.c (.typeAssert 205 (.agg [.int .i64 (.lit 0),.int .i64 (.lit 0)]) (t e.a.b)) 1,m e.a.a e.a.c 2,x e.a.f e.a.a 0 3,x e.b.a e.a.a 1 4,o e.c (.alloc [.int .i64 (.lit 0),.int .i64 (.lit 0)] 205) 5,q (.store 2 (t e.c) (t e.a.f)) 6,m e.f e.b.a 7]).seq (((reg [m e.b.b e.f 0,o e.b.c (.un .not (t e.b.b)) 1]).seq (NC.cond (t e.b.c) (reg [m e.b.f e 0,q (.panic (t e.b.f)) 1]) NC.skip)).seq ((reg [o e.c.a (.loadN 2 (t e.c)) 0,q (.store 2 (t e.b) (t e.c.a)) 1]).seq NC.ret))),14, [.cellN e.b 2]⟩
theorem ua:ag Tryz.prog 127=some (.code Aw):=by kernel_rfl
noncomputable def uH:NC:=(((reg [m e.a.b e 0,o e.a.c (.call (F 195) [t e.a.b]) 1,o e.a.f (.field1 0 (t e.a.c)) 2,b e.b.a .neq (t e.a.f) (k 5) 3]).seq (NC.cond (t e.b.a) NC.skip (NC.exit 0))).seq (NC.block 1 (NC.block 2 ((reg [m e.c.a e 0,o e.c.b (.call (F 196) [t e.c.a,k 4,.const (.str [99,101,108,108])]) 1,m e.b.f e.c.b 2]).seq (NC.cond (t e.b.f) (regD [f 0 e.c.c e.c 0,O e.c.f (.load1 (t e.c.c)) 1 1,m e.f.a e 2,O e.f.b (.call (F 197) [t e.f.a]) 4 3,O e.f.c (.buildSlice [.str [],.int .i64 (.lit 0)] 2 1 142 [(0,2,t e.f.b)]) 12 4,O e.f.f (.append 2 24 142 (t e.c.f) (t e.f.c)) 31 5,O e.a.a.a (.fieldAddr 0 (t e.c)) 63 6,⟨none,.store 1 (t e.a.a.a) (t e.f.f),none,127,7⟩]) ((reg [m e.a.a.c e 0,o e.a.a.f (.call (F 196) [t e.a.a.c,k 4,.const (.str [116,104,114,101,97,100])]) 1,m e.a.a.b e.a.a.f 2]).seq (NC.cond (t e.a.a.b) ((reg [m e.a.b.a e 0,o e.a.b.b (.call (F 198) [t e.a.b.a,k 1]) 1,o e.a.b.c (.field1 1 (t e.a.b.b)) 2,m e.a.a e.a.b.c 3]).seq (regD [f 1 e.a.b.f e.c 0,O e.a.c.a (.load1 (t e.a.b.f)) 1 1,m e.a.c.b e.a.a 2,m e.a.c.c e 3,O e.a.c.f (.call (F 199) [t e.a.c.c,k 0]) 8 4,O e.a.f.a (.build [.str [],.nils] [(0,1,t e.a.c.b),(1,1,t e.a.c.f)]) 28 5,O e.a.f.b (.buildSlice [.str [],.nils] 2 1 145 [(0,2,t e.a.f.a)]) 60 6,O e.a.f.c (.append 2 40 145 (t e.a.c.a) (t e.a.f.b)) 127 7,O e.a.f.f (.fieldAddr 1 (t e.c)) 255 8,⟨none,.store 1 (t e.a.f.f) (t e.a.f.c),none,511,9⟩])) ((reg [m e.b.a.b e.f 0,m e.b.a.c e.b.a.b 1,G e.b.a.f (.move (t e)) e.b.a.c true 2,G e.b.b.a (.call (F 200) [t e.b.a.f,k 4,.const (.str [114,101,99,111,118,101,114])]) e.b.a.c true 3,o e.b.b.b (.pick (t e.b.a.c) (t e.b.b.a) kf) 4,m e.b.a.a e.b.b.b 5]).seq (NC.cond (t e.b.a.a) (reg [m e.b.b.c e 0,o e.b.b.f (.call (F 201) [t e.b.b.c,k 5]) 1]) ((reg [m e.b.c.b e 0,o e.b.c.c (.call (F 196) [t e.b.c.b,k 4,.const (.str [114,101,99,111,118,101,114])]) 1,m e.b.c.a e.b.c.c 2]).seq (NC.cond (t e.b.c.a) ((reg [o e.f (.move kt) 0]).seq (reg [m e.b.c.f e 0,o e.b.f.a (.call (F 199) [t e.b.c.f,k 0]) 1,f 2 e.b.f.b e.c 2,q (.store 1 (t e.b.f.b) (t e.b.f.a)) 3])) (reg [m e.b.b e 0,o e.b.c (.call (F 201) [t e.b.b,k 2]) 1]))))))))))))
noncomputable def yR:NFun:=⟨(reg [o e.b (.alloc [.nils,.nils,.nils] 60) 0]).seq ((reg [o e.c (.alloc [.nils,.nils,.nils] 60) 0]).seq ((reg [o e.f (.move kf) 0]).seq ((NC.block 0 uH.loop).seq ((reg [o e.b.f.c (.loadN 3 (t e.c)) 0,q (.store 3 (t e.b) (t e.b.f.c)) 1]).seq NC.ret)))),52, [.cellN e.b 3]⟩
theorem qm:ag Tryz.prog 128=some (.code yR):=by kernel_rfl
noncomputable def BZ:NFun:=⟨(reg [o e.a (.box (t e) 60) 0,o e.b (.move (k 0)) 1]).seq (((reg [f 0 e.f e.a 0,l e.a.a e.f 1,L e.a.b e.a.a 2,b e.a.c .gtr (t e.a.b) (k 16) 3,m e.a.f e.a.c 4,G e.b.a (.fieldAddr 1 (t e.a)) e.a.f false 5,G e.b.b (.load1 (t e.b.a)) e.a.f false 6,G e.b.c (.lenSlc (t e.b.b)) e.a.f false 7,G e.b.f (.bin .num .eql (t e.b.c) (k 0)) e.a.f false 8,o e.c.a (.pick (t e.a.f) kt (t e.b.f)) 9,m e.c.b e.c.a 10,G e.c.c (.fieldAddr 1 (t e.a)) e.c.b false 11,G e.c.f (.load1 (t e.c.c)) e.c.b false 12,G e.f.a (.lenSlc (t e.c.f)) e.c.b false 13,G e.f.b (.bin .num .gtr (t e.f.a) (k 4)) e.c.b false 14,o e.f.c (.pick (t e.c.b) kt (t e.f.b)) 15]).seq (NC.cond (t e.f.c) ((reg [o e.b (.move (k 3)) 0]).seq NC.ret) NC.skip)).seq (((reg [f 0 e.f.f e.a 0,l e.a.a.a e.f.f 1,o e.a.a.b (.call (F 202) [t e.a.a.a]) 2,m e.c e.a.a.b 3]).seq ((reg [m e.a.a.c e.c 0,b e.a.a.f .neq (t e.a.a.c) (k 0) 1]).seq (NC.cond (t e.a.a.f) ((reg [m e.a.b.a e.c 0,m e.b e.a.b.a 1]).seq NC.ret) NC.skip))).seq ((reg [f 1 e.a.b.b e.a 0,l e.a.b.c e.a.b.b 1,o e.a.b.f (.call (F 203) [t e.a.b.c]) 2,m e.b e.a.b.f 3]).seq NC.ret))),29, [.tmp e.b]⟩
theorem qo:ag Tryz.prog 129=some (.code BZ):=by kernel_rfl
noncomputable def wt:NC:=(reg [o e.a.c (.alloc [.int .i64 (.lit 0),.int .i64 (.lit 0),.str [],.str [],.int .i64 (.lit 0),.int .u64 (.lit 0),.int .u8 (.lit 0),.str [],.nils,.int .i64 (.lit 0),.int .u64 (.lit 0),.int .u8 (.lit 0),.str [],.nils,.int .i64 (.lit 0),.int .u64 (.lit 0),.int .u8 (.lit 0),.str [],.nils,.nils,.nils] 229) 0,q (.store 21 (t e.a.c) (t e.b.c)) 1])
noncomputable def sP:NC:=(NC.block 1 ((reg [o e.b.f (.loadN 21 (t e.a.c)) 0,o e.c.a (.call (F 205) [t e.b.f]) 1,m e.a.f e.c.a 2]).seq (((reg [o e.c.b (.loadN 21 (t e.a.c)) 0,o e.c.c (.buildSlice [.int .i64 (.lit 0),.int .i64 (.lit 0),.int .i64 (.lit 0)] 1 3 3 [(0,1,k 1),(1,1,k 2),(2,1,k 3)]) 1,o e.c.f (.call (F 206) [t e.c.b,t e.c.c]) 2,m e.f.a e.c.f 3,G e.f.b (.load1 (t e.c)) e.f.a true 4,G e.f.c (.fieldAddr 3 (t e.a.c)) e.f.a true 5,G e.f.f (.load1 (t e.f.c)) e.f.a true 6,G e.a.a.a (.lookup true (.bool false) false (t e.f.b) (t e.f.f)) e.f.a true 7,G e.a.a.b (.un .not (t e.a.a.a)) e.f.a true 8,o e.a.a.c (.pick (t e.f.a) (t e.a.a.b) kf) 9]).seq (NC.cond (t e.a.a.c) ((reg [f 1 e.a.a.f e.a.c 0,l e.a.b.a e.a.a.f 1,q (.store 1 (t e.f) (t e.a.b.a)) 2,q (.store 1 (t e.a.a) (k 4)) 3]).seq NC.ret) NC.skip)).seq (((reg [m e.a.b.b e.a.f 0,o e.a.b.c (.mkFn 208 [t e.c]) 1,o e.a.b.f (.call (F 207) [t e.a.b.b,t e.a.b.c]) 2]).seq (NC.cond (t e.a.b.f) ((reg [f 1 e.a.c.a e.a.c 0,l e.a.c.b e.a.c.a 1,q (.store 1 (t e.f) (t e.a.c.b)) 2,q (.store 1 (t e.a.a) (k 6)) 3]).seq NC.ret) NC.skip)).seq ((reg [l e.a.c.c e.a.b 0,m e.a.c.f e.a.f 1,o e.a.f.a (.call (F 209) [t e.a.c.c,t e.a.c.f]) 2,q (.store 1 (t e.a.b) (t e.a.f.a)) 3]).seq ((reg [l e.a.f.b e.a.b 0,L e.a.f.c e.a.f.b 1,b e.a.f.f .gtr (t e.a.f.c) (k 12) 2]).seq (NC.cond (t e.a.f.f) ((reg [f 1 e.b.a.a e.a.c 0,l e.b.a.b e.b.a.a 1,q (.store 1 (t e.f) (t e.b.a.b)) 2,q (.store 1 (t e.a.a) (k 3)) 3]).seq NC.ret) NC.skip)))))))
noncomputable def Cg:NFun:=⟨(reg [o e.c (.box (t e.a) 212) 0,o e.f (.alloc [.int .i64 (.lit 0)] 3) 1,o e.a.a (.alloc [.int .i64 (.lit 0)] 49) 2]).seq ((reg [o e.a.b (.alloc [.nils] 68) 0]).seq (((reg [m e.b.a e 0,o e.b.b (.call (F 204) [t e.b.a]) 1]).seq (NC.block 0 (NC.rangeFunc (t e.b.b) [e.b.c] wt sP))).seq ((reg [q (.store 1 (t e.f) (k 0)) 0,q (.store 1 (t e.a.a) (k 0)) 1]).seq NC.ret))),39, [.cell1 e.f,.cell1 e.a.a]⟩
theorem u5:ag Tryz.prog 130=some (.code Cg):=by kernel_rfl
noncomputable def AF:NFun:=⟨(reg [o e.f (.alloc [.int .i64 (.lit 0),.int .i64 (.lit 0),.nils] 81) 0]).seq ((reg [m e.a.b e.a 0,m e.a.c e 1,o e.a.f (.call (F 210) [t e.a.c]) 2,o e.b.a (.build [.nils,.nils,.int .i64 (.lit 0),.int .i64 (.lit 0),.nils,.int .i64 (.lit 0)] [(0,1,t e.a.b),(1,1,t e.a.f)]) 3,o e.b.b (.box (t e.b.a) 314) 4,m e.a.a e.b.b 5]).seq ((reg [m e.b.c e.a.a 0,m e.b.f e.a.a 1,n e.c.a e.b.f 2,f 1 e.c.b e.c.a 3,l e.c.c e.c.b 4,L e.c.f e.c.c 5,n e.f.a e.b.c 6,f 2 e.f.b e.f.a 7,f 1 e.f.c e.f.b 8,q (.store 1 (t e.f.c) (t e.c.f)) 9]).seq ((reg [m e.f.f e.a.a 0,m e.a.a.a e.a.a 1,n e.a.a.b e.a.a.a 2,f 2 e.a.a.c e.a.a.b 3,f 1 e.a.a.f e.a.a.c 4,l e.a.b.a e.a.a.f 5,n e.a.b.b e.f.f 6,f 2 e.a.b.c e.a.b.b 7,f 0 e.a.b.f e.a.b.c 8,q (.store 1 (t e.a.b.f) (t e.a.b.a)) 9]).seq ((reg [m e.a.c.a e.a.a 0,m e.a.c.b e 1,o e.a.c.c (.call (F 211) [t e.a.c.a,t e.a.c.b]) 2]).seq ((reg [m e.a.c.f e.a.a 0,o e.a.f.a (.build [.int .i64 (.lit 0),.int .i64 (.lit 0),.int .i64 (.lit 0),.int .i64 (.lit 0),.int .i64 (.lit 0),.int .i64 (.lit 0),.int .i64 (.lit 0),.int .u64 (.lit 0),.int .u8 (.lit 0)] [(0,1,k 12)]) 1,o e.a.f.b (.call (F 212) [t e.a.c.f,t e.a.f.a]) 2]).seq ((reg [m e.a.f.c e.a.a 0,n e.a.f.f e.a.f.c 1,f 2 e.b.a.a e.a.f.f 2,o e.b.a.b (.loadN 3 (t e.b.a.a)) 3,q (.store 3 (t e.f) (t e.b.a.b)) 4]).seq NC.ret)))))),39, [.cellN e.f 3]⟩
theorem rS:ag Tryz.prog 131=some (.code AF):=by kernel_rfl
noncomputable def qI:NC:=((reg [b e.b.b .lss (t e.b.a) (t e.a.f) 0]).seq ((NC.cond (t e.b.b) NC.skip (NC.exit 0)).seq ((NC.block 1 ((reg [o e.b.c (.indexSlc 9 (t e.a.c) (t e.b.a)) 0,o e.b.f (.loadN 9 (t e.b.c)) 1,o e.a.a (.alloc [.int .i64 (.lit 0),.int .i64 (.lit 0),.int .i64 (.lit 0),.int .i64 (.lit 0),.int .i64 (.lit 0),.int .i64 (.lit 0),.int .i64 (.lit 0),.int .u64 (.lit 0),.int .u8 (.lit 0)] 236) 2,q (.store 9 (t e.a.a) (t e.b.f)) 3]).seq ((reg [m e.c.a e.c 0,o e.c.b (.loadN 9 (t e.a.a)) 1,o e.c.c (.buildSlice [.int .i64 (.lit 0),.int .i64 (.lit 0),.int .i64 (.lit 0),.int .i64 (.lit 0),.int .i64 (.lit 0),.int .i64 (.lit 0),.int .i64 (.lit 0),.int .u64 (.lit 0),.int .u8 (.lit 0)] 9 1 236 [(0,9,t e.c.b)]) 2,o e.c.f (.append 9 72 236 (t e.c.a) (t e.c.c)) 3,m e.c e.c.f 4]).seq ((reg [o e.f.a (.loadN 9 (t e.a.a)) 0,o e.f.b (.call (F 213) [t e.f.a]) 1]).seq (NC.cond (t e.f.b) (reg [m e.f.c e.c 0,f 2 e.f.f e.a.a 1,l e.a.a.a e.f.f 2,f 6 e.a.a.b e.a.a 3,l e.a.a.c e.a.a.b 4,o e.a.a.f (.build [.int .i64 (.lit 0),.int .i64 (.lit 0),.int .i64 (.lit 0),.int .i64 (.lit 0),.int .i64 (.lit 0),.int .i64 (.lit 0),.int .i64 (.lit 0),.int .u64 (.lit 0),.int .u8 (.lit 0)] [(0,1,k 6),(2,1,t e.a.a.a),(6,1,t e.a.a.c)]) 5,o e.a.b.a (.build [.int .i64 (.lit 0),.int .i64 (.lit 0),.int .i64 (.lit 0),.int .i64 (.lit 0),.int .i64 (.lit 0),.int .i64 (.lit 0),.int .i64 (.lit 0),.int .u64 (.lit 0),.int .u8 (.lit 0)] [(0,1,k 7)]) 6,o e.a.b.b (.buildSlice [.int .i64 (.lit 0),.int .i64 (.lit 0),.int .i64 (.lit 0),.int .i64 (.lit 0),.int .i64 (.lit 0),.int .i64 (.lit 0),.int .i64 (.lit 0),.int .u64 (.lit 0),.int .u8 (.lit 0),.int .i64 (.lit 0),.int .i64 (.lit 0),.int .i64 (.lit 0),.int .i64 (.lit 0),.int .i64 (.lit 0),.int .i64 (.lit 0),.int .i64 (.lit 0),.int .u64 (.lit 0),.int .u8 (.lit 0)] 9 2 236 [(0,9,t e.a.a.f),(9,9,t e.a.b.a)]) 7,o e.a.b.c (.append 9 72 236 (t e.f.c) (t e.a.b.b)) 8,m e.c e.a.b.c 9]) NC.skip))))).seq (reg [b e.a.b.f .add (t e.b.a) (k 1) 0,m e.b.a e.a.b.f 1]))))
noncomputable def zm:NFun:=⟨(reg [o e.a (.box (t e) 81) 0,o e.b (.alloc [.int .i64 (.lit 0),.int .i64 (.lit 0),.nils] 81) 1]).seq ((reg [o e.c (.move kn) 0]).seq (((reg [f 2 e.a.b e.a 0,l e.a.c e.a.b 1,L e.a.f e.a.c 2,o e.b.a (.move (k 0)) 3]).seq (NC.block 0 qI.loop)).seq ((reg [m e.a.c.a e.c 0,f 2 e.a.c.b e.a 1,q (.store 1 (t e.a.c.b) (t e.a.c.a)) 2]).seq ((reg [o e.a.c.c (.loadN 3 (t e.a)) 0,q (.store 3 (t e.b) (t e.a.c.c)) 1]).seq NC.ret)))),32, [.cellN e.b 3]⟩
theorem pN:ag Tryz.prog 132=some (.code zm):=by kernel_rfl
noncomputable def qv:NC:=((reg [b e.f.c .lss (t e.f.b) (t e.f.a) 0]).seq ((NC.cond (t e.f.c) NC.skip (NC.exit 2)).seq ((NC.block 3 ((reg [o e.f.f (.indexSlc 3 (t e.c.f) (t e.f.b)) 0,o e.a.a.a (.loadN 3 (t e.f.f)) 1,o e.b.a (.alloc [.int .i64 (.lit 0),.int .i64 (.lit 0),.nils] 81) 2,q (.store 3 (t e.b.a) (t e.a.a.a)) 3]).seq ((reg [o e.a.a.b (.loadN 3 (t e.b.a)) 0,m e.a.a.c e.a.b 1,o e.a.a.f (.call (F 214) [t e.a.a.b,t e.a.a.c]) 2]).seq (NC.cond (t e.a.a.f) (reg [m e.a.b.a e.a.c 0,b e.a.b.b .add (t e.a.b.a) (k 1) 1,m e.a.c e.a.b.b 2]) NC.skip)))).seq (reg [b e.a.b.c .add (t e.f.b) (k 1) 0,m e.f.b e.a.b.c 1]))))
noncomputable def tK:NC:=((reg [b e.c.b .lss (t e.c.a) (t e.b.f) 0]).seq ((NC.cond (t e.c.b) NC.skip (NC.exit 0)).seq ((NC.block 1 ((reg [m e.c.c e.c.a 0,m e.a.b e.c.c 1]).seq ((reg [o e.a.c (.move (k 0)) 0]).seq (((reg [m e.c.f e 0,L e.f.a e.c.f 1,o e.f.b (.move (k 0)) 2]).seq (NC.block 2 qv.loop)).seq (reg [m e.a.b.f e.a.a 0,m e.a.c.a e.a.c 1,b e.a.c.b .leq (t e.a.c.a) (k 1) 2,o e.a.c.c (.buildSlice [.bool false] 1 1 4 [(0,1,t e.a.c.b)]) 3,o e.a.c.f (.append 1 1 4 (t e.a.b.f) (t e.a.c.c)) 4,m e.a.a e.a.c.f 5]))))).seq (reg [b e.a.f.a .add (t e.c.a) (k 1) 0,m e.c.a e.a.f.a 1]))))
noncomputable def Ab:NFun:=⟨(reg [o e.f (.move kn) 0]).seq ((reg [o e.a.a (.move kn) 0]).seq (((reg [m e.b.b e.a 0,o e.b.c (.minmax false [t e.b.b,k 16]) 1,o e.b.f (.minmax true [k 0,t e.b.c]) 2,o e.c.a (.move (k 0)) 3]).seq (NC.block 0 tK.loop)).seq ((reg [m e.a.f.b e.a.a 0,m e.f e.a.f.b 1]).seq NC.ret))),35, [.tmp e.f]⟩
theorem wG:ag Tryz.prog 133=some (.code Ab):=by kernel_rfl
noncomputable def sv:NC:=(((reg [m e.a.f e.a.b 0,f 2 e.b.a e.b 1,l e.b.b e.b.a 2,L e.b.c e.b.b 3,b e.b.f .lss (t e.a.f) (t e.b.c) 4]).seq (NC.cond (t e.b.f) NC.skip (NC.exit 0))).seq ((NC.block 1 ((reg [f 2 e.c.c e.b 0,l e.c.f e.c.c 1,m e.f.a e.a.b 2,o e.f.b (.indexSlc 9 (t e.c.f) (t e.f.a)) 3,o e.f.c (.loadN 9 (t e.f.b)) 4,o e.a.c (.alloc [.int .i64 (.lit 0),.int .i64 (.lit 0),.int .i64 (.lit 0),.int .i64 (.lit 0),.int .i64 (.lit 0),.int .i64 (.lit 0),.int .i64 (.lit 0),.int .u64 (.lit 0),.int .u8 (.lit 0)] 236) 5,q (.store 9 (t e.a.c) (t e.f.c)) 6]).seq ((reg [m e.f.f e.a.a 0,o e.a.a.a (.loadN 9 (t e.a.c)) 1,o e.a.a.b (.buildSlice [.int .i64 (.lit 0),.int .i64 (.lit 0),.int .i64 (.lit 0),.int .i64 (.lit 0),.int .i64 (.lit 0),.int .i64 (.lit 0),.int .i64 (.lit 0),.int .u64 (.lit 0),.int .u8 (.lit 0)] 9 1 236 [(0,9,t e.a.a.a)]) 2,o e.a.a.c (.append 9 72 236 (t e.f.f) (t e.a.a.b)) 3,m e.a.a e.a.a.c 4]).seq ((reg [f 0 e.a.a.f e.a.c 0,l e.a.b.a e.a.a.f 1,b e.a.b.b .eql (t e.a.b.a) (k 3) 2,m e.a.b.c e.a.b.b 3,G e.a.b.f (.fieldAddr 6 (t e.a.c)) e.a.b.c true 4,G e.a.c.a (.load1 (t e.a.b.f)) e.a.b.c true 5,G e.a.c.b (.bin .num .geq (t e.a.c.a) (k 0)) e.a.b.c true 6,o e.a.c.c (.pick (t e.a.b.c) (t e.a.c.b) kf) 7,m e.a.c.f e.a.c.c 8,G e.a.f.a (.fieldAddr 6 (t e.a.c)) e.a.c.f true 9,G e.a.f.b (.load1 (t e.a.f.a)) e.a.c.f true 10,G e.a.f.c (.move (t e.a)) e.a.c.f true 11,G e.a.f.f (.lenSlc (t e.a.f.c)) e.a.c.f true 12,G e.b.a.a (.bin .num .lss (t e.a.f.b) (t e.a.f.f)) e.a.c.f true 13,o e.b.a.b (.pick (t e.a.c.f) (t e.b.a.a) kf) 14,m e.b.a.c e.b.a.b 15,G e.b.a.f (.move (t e.a)) e.b.a.c true 16,G e.b.b.a (.fieldAddr 6 (t e.a.c)) e.b.a.c true 17,G e.b.b.b (.load1 (t e.b.b.a)) e.b.a.c true 18,G e.b.b.c (.indexSlc 1 (t e.b.a.f) (t e.b.b.b)) e.b.a.c true 19,G e.b.b.f (.load1 (t e.b.b.c)) e.b.a.c true 20,o e.b.c.a (.pick (t e.b.a.c) (t e.b.b.f) kf) 21,m e.b.c.b e.b.c.a 22,G e.b.c.c (.fieldAddr 2 (t e.b)) e.b.c.b true 23,G e.b.c.f (.load1 (t e.b.c.c)) e.b.c.b true 24,G e.b.f.a (.move (t e.a.b)) e.b.c.b true 25,G e.b.f.b (.call (F 215) [t e.b.c.f,t e.b.f.a]) e.b.c.b true 26,o e.b.f.c (.pick (t e.b.c.b) (t e.b.f.b) kf) 27]).seq (NC.cond (t e.b.f.c) (reg [m e.b.f.f e.a.b 0,b e.c.a.a .add (t e.b.f.f) (k 2) 1,m e.a.b e.c.a.a 2]) NC.skip))))).seq (reg [m e.c.a e.a.b 0,b e.c.b .add (t e.c.a) (k 1) 1,m e.a.b e.c.b 2])))
noncomputable def zx:NFun:=⟨(reg [o e.b (.box (t e) 81) 0,o e.f (.alloc [.int .i64 (.lit 0),.int .i64 (.lit 0),.nils] 81) 1]).seq ((reg [o e.a.a (.move kn) 0]).seq (((reg [o e.a.b (.move (k 0)) 0]).seq (NC.block 0 sv.loop)).seq ((reg [m e.c.a.b e.a.a 0,f 2 e.c.a.c e.b 1,q (.store 1 (t e.c.a.c) (t e.c.a.b)) 2]).seq ((reg [o e.c.a.f (.loadN 3 (t e.b)) 0,q (.store 3 (t e.f) (t e.c.a.f)) 1]).seq NC.ret)))),57, [.cellN e.f 3]⟩
theorem qf:ag Tryz.prog 134=some (.code zx):=by kernel_rfl
noncomputable def Ca:NFun:=⟨(reg [o e.b (.box (t e) 81) 0,o e.f (.move kn) 1,o e.a.a (.move (k 0)) 2]).seq ((regD [o e.b.b (.loadN 3 (t e.b)) 0,o e.b.c (.loadN 3 (t e.b)) 1,m e.c.a e.a 3,O e.b.f (.call (F 218) [t e.b.c]) 2 2,O e.c.b (.call (F 217) [t e.b.f,t e.c.a]) 14 4,O e.c.c (.call (F 216) [t e.b.b,t e.c.b]) 31 5,O e.b.a (.move (t e.c.c)) 63 6,O e.c.f (.extract (t e.b.a) 0) 127 7,O e.f.a (.extract (t e.b.a) 1) 127 8,O e.a.b (.move (t e.c.f)) 255 9,O e.a.c (.move (t e.f.a)) 1023 10]).seq ((reg [m e.f.c e.a.b 0,m e.f.f e.a.c 1,o e.a.a.a (.call (F 219) [t e.f.c,t e.f.f]) 2,m e.f.b e.a.a.a 3,x e.a.a.b e.f.b 0 4,x e.a.a.c e.f.b 1 5,m e.a.b e.a.a.b 6,m e.a.f e.a.a.c 7]).seq (((reg [m e.a.a.f e.a.f 0,b e.a.b.a .neq (t e.a.a.f) (k 0) 1,m e.a.b.b e.a.b.a 2,G e.a.b.c (.move (t e.a.b)) e.a.b.b false 3,G e.a.b.f (.lenSlc (t e.a.b.c)) e.a.b.b false 4,G e.a.c.a (.bin .num .gtr (t e.a.b.f) (k 4000)) e.a.b.b false 5,o e.a.c.b (.pick (t e.a.b.b) kt (t e.a.c.a)) 6]).seq (NC.cond (t e.a.c.b) ((reg [o e.f (.move kn) 0,o e.a.a (.move (k 3)) 1]).seq NC.ret) NC.skip)).seq ((reg [m e.a.c.c e.a.b 0,o e.a.c.f (.call (F 220) [t e.a.c.c]) 1,x e.a.f.a e.a.c.f 0 2,x e.a.f.b e.a.c.f 1 3,m e.f e.a.f.a 4,m e.a.a e.a.f.b 5]).seq NC.ret)))),35, [.tmp e.f,.tmp e.a.a]⟩
theorem vi:ag Tryz.prog 135=some (.code Ca):=by kernel_rfl
noncomputable def s5:NC:=((reg [b e.f.b .lss (t e.f.a) (t e.c.f) 0]).seq ((NC.cond (t e.f.b) NC.skip (NC.exit 0)).seq ((NC.block 1 ((reg [o e.f.c (.indexSlc 1 (t e.c.c) (t e.f.a)) 0,l e.f.f e.f.c 1,m e.b.b e.f.f 2]).seq ((reg [f 2 e.a.a.a e.a.f 0,l e.a.a.b e.a.a.a 1,f 3 e.a.a.c e.a.f 2,l e.a.a.f e.a.a.c 3,L e.a.b.a e.a.a.f 4,o e.a.b.b (.buildSlice [.int .i64 (.lit 0)] 1 1 3 [(0,1,t e.a.b.a)]) 5,o e.a.b.c (.append 1 8 3 (t e.a.a.b) (t e.a.b.b)) 6,f 2 e.a.b.f e.a.f 7,q (.store 1 (t e.a.b.f) (t e.a.b.c)) 8]).seq (reg [f 3 e.a.c.a e.a.f 0,l e.a.c.b e.a.c.a 1,m e.a.c.c e.b.b 2,o e.a.c.f (.append 1 4 75 (t e.a.c.b) (t e.a.c.c)) 3,f 3 e.a.f.a e.a.f 4,q (.store 1 (t e.a.f.a) (t e.a.c.f)) 5])))).seq (reg [b e.a.f.b .add (t e.f.a) (k 1) 0,m e.f.a e.a.f.b 1]))))
noncomputable def A4:NFun:=⟨(reg [o e.a.b (.alloc [.int .i64 (.lit 0),.int .i64 (.lit 0),.nils,.nils] 28) 0,o e.a.c (.move (k 0)) 1]).seq ((reg [m e.b.c e.b 0,m e.b.f e 1,o e.c.a (.call (F 52) [t e.b.f]) 2,o e.c.b (.build [.int .i64 (.lit 0),.int .i64 (.lit 0),.nils,.nils] [(0,1,t e.b.c),(3,1,t e.c.a)]) 3,o e.a.f (.alloc [.int .i64 (.lit 0),.int .i64 (.lit 0),.nils,.nils] 28) 4,q (.store 4 (t e.a.f) (t e.c.b)) 5]).seq (((reg [m e.c.c e.a 0,L e.c.f e.c.c 1,o e.f.a (.move (k 0)) 2]).seq (NC.block 0 s5.loop)).seq (((reg [o e.a.f.c (.loadN 4 (t e.a.f)) 0,o e.a.f.f (.call (F 221) [t e.a.f.c]) 1,o e.b.a.a (.un .not (t e.a.f.f)) 2]).seq (NC.cond (t e.b.a.a) ((reg [o e.b.a.b (.build [.int .i64 (.lit 0),.int .i64 (.lit 0),.nils,.nils] []) 0,q (.store 4 (t e.a.b) (t e.b.a.b)) 1,o e.a.c (.move (k 1)) 2]).seq NC.ret) NC.skip)).seq ((reg [o e.b.a.c (.loadN 4 (t e.a.f)) 0,q (.store 4 (t e.a.b) (t e.b.a.c)) 1,o e.a.c (.move (k 0)) 2]).seq NC.ret)))),40, [.cellN e.a.b 4,.tmp e.a.c]⟩
theorem wh:ag Tryz.prog 136=some (.code A4):=by kernel_rfl
noncomputable def AX:NFun:=⟨(reg [o e.c (.box (t e) 116) 0,o e.a.b (.alloc [.int .u64 (.lit 0),.int .u64 (.lit 0),.int .u64 (.lit 0),.int .u64 (.lit 0),.int .u64 (.lit 0),.int .u64 (.lit 0),.int .u64 (.lit 0),.int .u64 (.lit 0),.int .u64 (.lit 0),.int .u64 (.lit 0),.int .u64 (.lit 0),.int .u64 (.lit 0),.int .u64 (.lit 0),.int .u64 (.lit 0),.int .u64 (.lit 0),.int .u64 (.lit 0),.int .u64 (.lit 0),.int .u64 (.lit 0),.int .u64 (.lit 0),.int .u64 (.lit 0),.int .u64 (.lit 0),.int .u64 (.lit 0),.int .u64 (.lit 0),.int .u64 (.lit 0),.int .u64 (.lit 0),.int .u64 (.lit 0),.int .u64 (.lit 0),.int .u64 (.lit 0),.int .u64 (.lit 0),.int .u64 (.lit 0),.int .u64 (.lit 0),.int .u64 (.lit 0),.int .u64 (.lit 0)] 116) 1]).seq (((reg [m e.a.c e.a 0,b e.a.f .geq (t e.a.c) (k 0) 1,m e.b.a e.a.f 2,G e.b.b (.move (t e.a)) e.b.a true 3,G e.b.c (.bin .num .lss (t e.b.b) (k 31)) e.b.a true 4,o e.b.f (.pick (t e.b.a) (t e.b.c) kf) 5]).seq (NC.cond (t e.b.f) (reg [m e.c.a e.a 0,m e.c.b e.b 1,f 0 e.c.c e.c 2,o e.c.f (.indexArr 1 31 (t e.c.c) (t e.c.a)) 3,q (.store 1 (t e.c.f) (t e.c.b)) 4]) NC.skip)).seq ((reg [o e.f.a (.loadN 33 (t e.c)) 0,q (.store 33 (t e.a.b) (t e.f.a)) 1]).seq NC.ret)),18, [.cellN e.a.b 33]⟩
theorem sb:ag Tryz.prog 160=some (.code AX):=by kernel_rfl
noncomputable def uB:NC:=(reg [o e.a.b (.alloc [.int .i64 (.lit 0),.int .u64 (.lit 0),.bool false] 191) 0,q (.store 3 (t e.a.b) (t e.b.f)) 1])
noncomputable def vV:NC:=(NC.block 1 ((reg [l e.c.a e.c 0,o e.c.b (.loadN 3 (t e.a.b)) 1,o e.c.c (.call (t e.c.a) [t e.c.b]) 2]).seq (NC.cond (t e.c.c) ((reg [q (.store 1 (t e.f) kt) 0]).seq NC.ret) NC.skip)))
noncomputable def B0:NFun:=⟨(reg [o e.c (.box (t e.a) 254) 0,o e.f (.alloc [.bool false] 4) 1]).seq (((reg [m e.a.c e 0,n e.a.f e.a.c 1,f 549 e.b.a e.a.f 2,o e.b.b (.call (F 177) [t e.b.a]) 3]).seq (NC.block 0 (NC.rangeFunc (t e.b.b) [e.b.c,e.b.f] uB vV))).seq ((reg [q (.store 1 (t e.f) kf) 0]).seq NC.ret)),16, [.cell1 e.f]⟩
theorem vE:ag Tryz.prog 161=some (.code B0):=by kernel_rfl
noncomputable def At:NFun:=⟨(reg [o e.b (.box (t e) 191) 0,o e.c (.move kf) 1]).seq ((regD [f 0 e.f e.b 0,O e.a.a (.load1 (t e.f)) 1 1,l e.a.c e.a 3,O e.a.b (.call (F 163) [t e.a.a]) 3 2,O e.a.f (.bin .num .eql (t e.a.b) (t e.a.c)) 15 4,O e.c (.move (t e.a.f)) 31 5]).seq NC.ret),9, [.tmp e.c]⟩
theorem wI:ag Tryz.prog 162=some (.code At):=by kernel_rfl
noncomputable def zH:NFun:=⟨(reg [o e.b (.move (k 0)) 0]).seq (((reg [m e.c e 0,b e.f .lss (t e.c) (k 4096) 1]).seq (NC.cond (t e.f) ((reg [o e.b (.move (k (-1))) 0]).seq NC.ret) NC.skip)).seq ((reg [m e.a.a e 0,b e.a.b .sub (t e.a.a) (k 4096) 1,b e.a.c .quo (t e.a.b) (k 64) 2,m e.b e.a.c 3]).seq NC.ret)),8, [.tmp e.b]⟩
theorem tg:ag Tryz.prog 163=some (.code zH):=by kernel_rfl
noncomputable def zu:NFun:=⟨(reg [o e (.move kn) 0]).seq ((reg [o e.b.b (.call (F 241) [k 0]) 0,o e.b.c (.call (F 241) [k 5]) 1,o e.b.f (.call (F 241) [k 16]) 2,o e.a (.alloc [.int .i64 (.lit 0),.int .i64 (.lit 0)] 258) 3,o e.b (.alloc [.int .i64 (.lit 0),.int .i64 (.lit 0)] 258) 4,o e.c (.alloc [.int .i64 (.lit 0),.int .i64 (.lit 0)] 258) 5,q (.store 2 (t e.a) (t e.b.b)) 6,q (.store 2 (t e.b) (t e.b.c)) 7,q (.store 2 (t e.c) (t e.b.f)) 8]).seq ((reg [o e.c.a (.mkFn 242 [t e.a]) 0,m e.f e.c.a 1]).seq ((reg [o e.c.b (.mkFn 243 [t e.a,t e.b,t e.c]) 0,m e.a.a e.c.b 1]).seq ((reg [o e.a.b (.move (F 244)) 0]).seq ((reg [o e.c.c (.mkFn 245 [t e.a,t e.b]) 0,m e.a.c e.c.c 1]).seq ((reg [o e.c.f (.mkFn 246 [t e.a,t e.b]) 0,m e.a.f e.c.f 1]).seq ((reg [o e.b.a (.move (F 247)) 0]).seq ((regD [m e.f.a e.f 0,m e.f.c e.f 2,m e.a.a.a e.a.a 4,m e.a.a.c e.a.a 6,m e.a.b.a e.a.a 8,m e.a.b.c e.a.a 10,o e.a.c.a (.loadN 2 (t e.b)) 12,o e.a.c.b (.loadN 2 (t e.c)) 13,O e.a.c.c (.build [.int .u32 (.lit 0),.int .i64 (.lit 0),.int .i64 (.lit 0),.int .i64 (.lit 0),.int .i64 (.lit 0),.int .i64 (.lit 0),.int .i64 (.lit 0),.int .i64 (.lit 0),.int .i64 (.lit 0),.int .i64 (.lit 0),.int .i64 (.lit 0),.int .i64 (.lit 0),.int .i64 (.lit 0),.bool false,.bool false] [(0,1,.const (.int .u32 (.lit 3942645791))),(3,2,t e.a.c.a),(5,2,t e.a.c.b)]) 12288 14,o e.a.c.f (.loadN 2 (t e.a)) 15,o e.a.f.a (.build [.int .i64 (.lit 0),.int .i64 (.lit 0)] [(0,1,k 12),(1,1,k 4)]) 16,O e.a.f.b (.build [.int .u32 (.lit 0),.int .i64 (.lit 0),.int .i64 (.lit 0),.int .i64 (.lit 0),.int .i64 (.lit 0),.int .i64 (.lit 0),.int .i64 (.lit 0),.int .i64 (.lit 0),.int .i64 (.lit 0),.int .i64 (.lit 0),.int .i64 (.lit 0),.int .i64 (.lit 0),.int .i64 (.lit 0),.bool false,.bool false] [(0,1,.const (.int .u32 (.lit 2594113504))),(1,2,t e.a.c.f),(11,2,t e.a.f.a),(14,1,.const (.bool true))]) 98304 17,o e.a.f.c (.build [.int .i64 (.lit 0),.int .i64 (.lit 0)] [(0,1,k 0),(1,1,k 26)]) 18,O e.a.f.f (.build [.int .u32 (.lit 0),.int .i64 (.lit 0),.int .i64 (.lit 0),.int .i64 (.lit 0),.int .i64 (.lit 0),.int .i64 (.lit 0),.int .i64 (.lit 0),.int .i64 (.lit 0),.int .i64 (.lit 0),.int .i64 (.lit 0),.int .i64 (.lit 0),.int .i64 (.lit 0),.int .i64 (.lit 0),.bool false,.bool false] [(0,1,.const (.int .u32 (.lit 335544320))),(9,2,t e.a.f.c),(13,1,.const (.bool true))]) 262144 19,o e.b.a.a (.build [.int .i64 (.lit 0),.int .i64 (.lit 0)] [(0,1,k 5),(1,1,k 19)]) 20,o e.b.a.b (.build [.int .i64 (.lit 0),.int .i64 (.lit 0)] [(0,1,k 0),(1,1,k 4)]) 21,O e.b.a.c (.build [.int .u32 (.lit 0),.int .i64 (.lit 0),.int .i64 (.lit 0),.int .i64 (.lit 0),.int .i64 (.lit 0),.int .i64 (.lit 0),.int .i64 (.lit 0),.int .i64 (.lit 0),.int .i64 (.lit 0),.int .i64 (.lit 0),.int .i64 (.lit 0),.int .i64 (.lit 0),.int .i64 (.lit 0),.bool false,.bool false] [(0,1,.const (.int .u32 (.lit 1409286144))),(9,2,t e.b.a.a),(13,1,.const (.bool true)),(11,2,t e.b.a.b)]) 3145728 22,m e.b.a.f e.a.b 23,m e.b.b.b e.a.b 25,m e.b.b.f e.a.c 27,m e.b.c.b e.a.c 29,m e.b.c.f e.a.f 31,m e.b.f.b e.a.f 33,m e.b.f.f e.a.f 35,o e.c.a.b (.loadN 2 (t e.a)) 37,o e.c.a.c (.loadN 2 (t e.b)) 38,m e.c.b.b e.b.a 41,m e.c.b.f e.b.a 43,m e.c.c.f e.b.a 47,m e.c.f.b e.b.a 49,m e.c.f.f e.b.a 51,O e.f.b (.call (t e.f.a) [.const (.int .u32 (.lit 3531603968))]) 1 1,O e.f.f (.call (t e.f.c) [.const (.int .u32 (.lit 4068474880))]) 7 3,O e.a.a.b (.call (t e.a.a.a) [.const (.int .u32 (.lit 2332033024))]) 31 5,O e.a.a.f (.call (t e.a.a.c) [.const (.int .u32 (.lit 3405774848))]) 127 7,O e.a.b.b (.call (t e.a.b.a) [.const (.int .u32 (.lit 2600500224))]) 511 9,O e.a.b.f (.call (t e.a.b.c) [.const (.int .u32 (.lit 2315255808))]) 2047 11,O e.b.b.a (.call (t e.b.a.f) [.const (.int .u32 (.lit 3019898880))]) 8392703 24,O e.b.b.c (.call (t e.b.b.b) [.const (.int .u32 (.lit 3036676096))]) 58724351 26,O e.b.c.a (.call (t e.b.b.f) [.const (.int .u32 (.lit 4181721088))]) 260050943 28,O e.b.c.c (.call (t e.b.c.b) [.const (.int .u32 (.lit 4177526784))]) 1065357311 30,O e.b.f.a (.call (t e.b.c.f) [.const (.int .u32 (.lit 3370122240))]) 4286582783 32,O e.b.f.c (.call (t e.b.f.b) [.const (.int .u32 (.lit 3365927936))]) 17171484671 34,O e.c.a.a (.call (t e.b.f.f) [.const (.int .u32 (.lit 3361700864))]) 68711092223 36,O e.c.a.f (.call (F 241) [k 16]) 137430568959 39,O e.c.b.a (.build [.int .u32 (.lit 0),.int .i64 (.lit 0),.int .i64 (.lit 0),.int .i64 (.lit 0),.int .i64 (.lit 0),.int .i64 (.lit 0),.int .i64 (.lit 0),.int .i64 (.lit 0),.int .i64 (.lit 0),.int .i64 (.lit 0),.int .i64 (.lit 0),.int .i64 (.lit 0),.int .i64 (.lit 0),.bool false,.bool false] [(0,1,.const (.int .u32 (.lit 3355474944))),(1,2,t e.c.a.b),(3,2,t e.c.a.c),(7,2,t e.c.a.f)]) 1099503243263 40,O e.c.b.c (.call (t e.c.b.b) [.const (.int .u32 (.lit 3573758911))]) 2886209638399 42,O e.c.c.a (.call (t e.c.b.f) [.const (.int .u32 (.lit 3573758879))]) 16080349171711 44,O e.c.c.b (.call (F 241) [k 0]) 33672535216127 45,O e.c.c.c (.build [.int .u32 (.lit 0),.int .i64 (.lit 0),.int .i64 (.lit 0),.int .i64 (.lit 0),.int .i64 (.lit 0),.int .i64 (.lit 0),.int .i64 (.lit 0),.int .i64 (.lit 0),.int .i64 (.lit 0),.int .i64 (.lit 0),.int .i64 (.lit 0),.int .i64 (.lit 0),.int .i64 (.lit 0),.bool false,.bool false] [(0,1,.const (.int .u32 (.lit 3574299680))),(3,2,t e.c.c.b)]) 68856907304959 46,O e.c.f.a (.call (t e.c.c.f) [.const (.int .u32 (.lit 3573751839))]) 209594395660287 48,O e.c.f.c (.call (t e.c.f.b) [.const (.int .u32 (.lit 3560964096))]) 1054019325792255 50,O e.f.a.a (.call (t e.c.f.f) [.const (.int .u32 (.lit 3556769793))]) 4431719046320127 52,O e.f.a.b (.buildSlice [.int .u32 (.lit 0),.int .i64 (.lit 0),.int .i64 (.lit 0),.int .i64 (.lit 0),.int .i64 (.lit 0),.int .i64 (.lit 0),.int .i64 (.lit 0),.int .i64 (.lit 0),.int .i64 (.lit 0),.int .i64 (.lit 0),.int .i64 (.lit 0),.int .i64 (.lit 0),.int .i64 (.lit 0),.bool false,.bool false,.int .u32 (.lit 0),.int .i64 (.lit 0),.int .i64 (.lit 0),.int .i64 (.lit 0),.int .i64 (.lit 0),.int .i64 (.lit 0),.int .i64 (.lit 0),.int .i64 (.lit 0),.int .i64 (.lit 0),.int .i64 (.lit 0),.int .i64 (.lit 0),.int .i64 (.lit 0),.int .i64 (.lit 0),.bool false,.bool false,.int .u32 (.lit 0),.int .i64 (.lit 0),.int .i64 (.lit 0),.int .i64 (.lit 0),.int .i64 (.lit 0),.int .i64 (.lit 0),.int .i64 (.lit 0),.int .i64 (.lit 0),.int .i64 (.lit 0),.int .i64 (.lit 0),.int .i64 (.lit 0),.int .i64 (.lit 0),.int .i64 (.lit 0),.bool false,.bool false,.int .u32 (.lit 0),.int .i64 (.lit 0),.int .i64 (.lit 0),.int .i64 (.lit 0),.int .i64 (.lit 0),.int .i64 (.lit 0),.int .i64 (.lit 0),.int .i64 (.lit 0),.int .i64 (.lit 0),.int .i64 (.lit 0),.int .i64 (.lit 0),.int .i64 (.lit 0),.int .i64 (.lit 0),.bool false,.bool false,.int .u32 (.lit 0),.int .i64 (.lit 0),.int .i64 (.lit 0),.int .i64 (.lit 0),.int .i64 (.lit 0),.int .i64 (.lit 0),.int .i64 (.lit 0),.int .i64 (.lit 0),.int .i64 (.lit 0),.int .i64 (.lit 0),.int .i64 (.lit 0),.int .i64 (.lit 0),.int .i64 (.lit 0),.bool false,.bool false,.int .u32 (.lit 0),.int .i64 (.lit 0),.int .i64 (.lit 0),.int .i64 (.lit 0),.int .i64 (.lit 0),.int .i64 (.lit 0),.int .i64 (.lit 0),.int .i64 (.lit 0),.int .i64 (.lit 0),.int .i64 (.lit 0),.int .i64 (.lit 0),.int .i64 (.lit 0),.int .i64 (.lit 0),.bool false,.bool false,.int .u32 (.lit 0),.int .i64 (.lit 0),.int .i64 (.lit 0),.int .i64 (.lit 0),.int .i64 (.lit 0),.int .i64 (.lit 0),.int .i64 (.lit 0),.int .i64 (.lit 0),.int .i64 (.lit 0),.int .i64 (.lit 0),.int .i64 (.lit 0),.int .i64 (.lit 0),.int .i64 (.lit 0),.bool false,.bool false,.int .u32 (.lit 0),.int .i64 (.lit 0),.int .i64 (.lit 0),.int .i64 (.lit 0),.int .i64 (.lit 0),.int .i64 (.lit 0),.int .i64 (.lit 0),.int .i64 (.lit 0),.int .i64 (.lit 0),.int .i64 (.lit 0),.int .i64 (.lit 0),.int .i64 (.lit 0),.int .i64 (.lit 0),.bool false,.bool false,.int .u32 (.lit 0),.int .i64 (.lit 0),.int .i64 (.lit 0),.int .i64 (.lit 0),.int .i64 (.lit 0),.int .i64 (.lit 0),.int .i64 (.lit 0),.int .i64 (.lit 0),.int .i64 (.lit 0),.int .i64 (.lit 0),.int .i64 (.lit 0),.int .i64 (.lit 0),.int .i64 (.lit 0),.bool false,.bool false,.int .u32 (.lit 0),.int .i64 (.lit 0),.int .i64 (.lit 0),.int .i64 (.lit 0),.int .i64 (.lit 0),.int .i64 (.lit 0),.int .i64 (.lit 0),.int .i64 (.lit 0),.int .i64 (.lit 0),.int .i64 (.lit 0),.int .i64 (.lit 0),.int .i64 (.lit 0),.int .i64 (.lit 0),.bool false,.bool false,.int .u32 (.lit 0),.int .i64 (.lit 0),.int .i64 (.lit 0),.int .i64 (.lit 0),.int .i64 (.lit 0),.int .i64 (.lit 0),.int .i64 (.lit 0),.int .i64 (.lit 0),.int .i64 (.lit 0),.int .i64 (.lit 0),.int .i64 (.lit 0),.int .i64 (.lit 0),.int .i64 (.lit 0),.bool false,.bool false,.int .u32 (.lit 0),.int .i64 (.lit 0),.int .i64 (.lit 0),.int .i64 (.lit 0),.int .i64 (.lit 0),.int .i64 (.lit 0),.int .i64 (.lit 0),.int .i64 (.lit 0),.int .i64 (.lit 0),.int .i64 (.lit 0),.int .i64 (.lit 0),.int .i64 (.lit 0),.int .i64 (.lit 0),.bool false,.bool false,.int .u32 (.lit 0),.int .i64 (.lit 0),.int .i64 (.lit 0),.int .i64 (.lit 0),.int .i64 (.lit 0),.int .i64 (.lit 0),.int .i64 (.lit 0),.int .i64 (.lit 0),.int .i64 (.lit 0),.int .i64 (.lit 0),.int .i64 (.lit 0),.int .i64 (.lit 0),.int .i64 (.lit 0),.bool false,.bool false,.int .u32 (.lit 0),.int .i64 (.lit 0),.int .i64 (.lit 0),.int .i64 (.lit 0),.int .i64 (.lit 0),.int .i64 (.lit 0),.int .i64 (.lit 0),.int .i64 (.lit 0),.int .i64 (.lit 0),.int .i64 (.lit 0),.int .i64 (.lit 0),.int .i64 (.lit 0),.int .i64 (.lit 0),.bool false,.bool false,.int .u32 (.lit 0),.int .i64 (.lit 0),.int .i64 (.lit 0),.int .i64 (.lit 0),.int .i64 (.lit 0),.int .i64 (.lit 0),.int .i64 (.lit 0),.int .i64 (.lit 0),.int .i64 (.lit 0),.int .i64 (.lit 0),.int .i64 (.lit 0),.int .i64 (.lit 0),.int .i64 (.lit 0),.bool false,.bool false,.int .u32 (.lit 0),.int .i64 (.lit 0),.int .i64 (.lit 0),.int .i64 (.lit 0),.int .i64 (.lit 0),.int .i64 (.lit 0),.int .i64 (.lit 0),.int .i64 (.lit 0),.int .i64 (.lit 0),.int .i64 (.lit 0),.int .i64 (.lit 0),.int .i64 (.lit 0),.int .i64 (.lit 0),.bool false,.bool false,.int .u32 (.lit 0),.int .i64 (.lit 0),.int .i64 (.lit 0),.int .i64 (.lit 0),.int .i64 (.lit 0),.int .i64 (.lit 0),.int .i64 (.lit 0),.int .i64 (.lit 0),.int .i64 (.lit 0),.int .i64 (.lit 0),.int .i64 (.lit 0),.int .i64 (.lit 0),.int .i64 (.lit 0),.bool false,.bool false,.int .u32 (.lit 0),.int .i64 (.lit 0),.int .i64 (.lit 0),.int .i64 (.lit 0),.int .i64 (.lit 0),.int .i64 (.lit 0),.int .i64 (.lit 0),.int .i64 (.lit 0),.int .i64 (.lit 0),.int .i64 (.lit 0),.int .i64 (.lit 0),.int .i64 (.lit 0),.int .i64 (.lit 0),.bool false,.bool false,.int .u32 (.lit 0),.int .i64 (.lit 0),.int .i64 (.lit 0),.int .i64 (.lit 0),.int .i64 (.lit 0),.int .i64 (.lit 0),.int .i64 (.lit 0),.int .i64 (.lit 0),.int .i64 (.lit 0),.int .i64 (.lit 0),.int .i64 (.lit 0),.int .i64 (.lit 0),.int .i64 (.lit 0),.bool false,.bool false,.int .u32 (.lit 0),.int .i64 (.lit 0),.int .i64 (.lit 0),.int .i64 (.lit 0),.int .i64 (.lit 0),.int .i64 (.lit 0),.int .i64 (.lit 0),.int .i64 (.lit 0),.int .i64 (.lit 0),.int .i64 (.lit 0),.int .i64 (.lit 0),.int .i64 (.lit 0),.int .i64 (.lit 0),.bool false,.bool false,.int .u32 (.lit 0),.int .i64 (.lit 0),.int .i64 (.lit 0),.int .i64 (.lit 0),.int .i64 (.lit 0),.int .i64 (.lit 0),.int .i64 (.lit 0),.int .i64 (.lit 0),.int .i64 (.lit 0),.int .i64 (.lit 0),.int .i64 (.lit 0),.int .i64 (.lit 0),.int .i64 (.lit 0),.bool false,.bool false,.int .u32 (.lit 0),.int .i64 (.lit 0),.int .i64 (.lit 0),.int .i64 (.lit 0),.int .i64 (.lit 0),.int .i64 (.lit 0),.int .i64 (.lit 0),.int .i64 (.lit 0),.int .i64 (.lit 0),.int .i64 (.lit 0),.int .i64 (.lit 0),.int .i64 (.lit 0),.int .i64 (.lit 0),.bool false,.bool false,.int .u32 (.lit 0),.int .i64 (.lit 0),.int .i64 (.lit 0),.int .i64 (.lit 0),.int .i64 (.lit 0),.int .i64 (.lit 0),.int .i64 (.lit 0),.int .i64 (.lit 0),.int .i64 (.lit 0),.int .i64 (.lit 0),.int .i64 (.lit 0),.int .i64 (.lit 0),.int .i64 (.lit 0),.bool false,.bool false,.int .u32 (.lit 0),.int .i64 (.lit 0),.int .i64 (.lit 0),.int .i64 (.lit 0),.int .i64 (.lit 0),.int .i64 (.lit 0),.int .i64 (.lit 0),.int .i64 (.lit 0),.int .i64 (.lit 0),.int .i64 (.lit 0),.int .i64 (.lit 0),.int .i64 (.lit 0),.int .i64 (.lit 0),.bool false,.bool false] 15 24 260 [(0,15,t e.f.b),(15,15,t e.f.f),(30,15,t e.a.a.b),(45,15,t e.a.a.f),(60,15,t e.a.b.b),(75,15,t e.a.b.f),(90,15,t e.a.c.c),(105,15,t e.a.f.b),(120,15,t e.a.f.f),(135,15,t e.b.a.c),(150,15,t e.b.b.a),(165,15,t e.b.b.c),(180,15,t e.b.c.a),(195,15,t e.b.c.c),(210,15,t e.b.f.a),(225,15,t e.b.f.c),(240,15,t e.c.a.a),(255,15,t e.c.b.a),(270,15,t e.c.b.c),(285,15,t e.c.c.a),(300,15,t e.c.c.c),(315,15,t e.c.f.a),(330,15,t e.c.f.c),(345,15,t e.f.a.a)]) 9007199254740991 53,O e (.move (t e.f.a.b)) 18014398509481983 54]).seq NC.ret)))))))),71, [.tmp e]⟩
theorem sN:ag Tryz.prog 164=some (.code zu):=by kernel_rfl
noncomputable def AQ:NFun:=⟨(reg [o e.c (.box (t e) 260) 0,o e.a.a (.box (t e.b) 75) 1,o e.a.b (.alloc [.int .i64 (.lit 0),.int .i64 (.lit 0),.int .i64 (.lit 0),.int .i64 (.lit 0),.int .i64 (.lit 0),.int .i64 (.lit 0),.int .i64 (.lit 0)] 182) 2]).seq ((reg [o e.b.a (.mkFn 248 [t e.a.a]) 0,m e.a.c e.b.a 1]).seq ((regD [m e.b.b e.a 0,m e.b.c e.a.c 1,f 1 e.b.f e.c 2,O e.c.a (.loadN 2 (t e.b.f)) 4 3,m e.c.c e.a.c 5,f 3 e.c.f e.c 6,O e.f.a (.loadN 2 (t e.c.f)) 64 7,m e.f.c e.a.c 9,f 5 e.f.f e.c 10,O e.a.a.a (.loadN 2 (t e.f.f)) 1024 11,m e.a.a.c e.a.c 13,f 7 e.a.a.f e.c 14,O e.a.b.a (.loadN 2 (t e.a.a.f)) 16384 15,m e.a.b.c e.a.c 17,f 9 e.a.b.f e.c 18,O e.a.c.a (.loadN 2 (t e.a.b.f)) 262144 19,m e.a.c.c e.a.c 21,f 11 e.a.c.f e.c 22,O e.a.f.a (.loadN 2 (t e.a.c.f)) 4194304 23,o e.a.f (.alloc [.int .i64 (.lit 0),.int .i64 (.lit 0),.int .i64 (.lit 0),.int .i64 (.lit 0),.int .i64 (.lit 0),.int .i64 (.lit 0),.int .i64 (.lit 0)] 182) 26,O e.c.b (.call (t e.b.c) [t e.c.a]) 14 4,O e.f.b (.call (t e.c.c) [t e.f.a]) 254 8,O e.a.a.b (.call (t e.f.c) [t e.a.a.a]) 4094 12,O e.a.b.b (.call (t e.a.a.c) [t e.a.b.a]) 65534 16,O e.a.c.b (.call (t e.a.b.c) [t e.a.c.a]) 1048574 20,O e.a.f.b (.call (t e.a.c.c) [t e.a.f.a]) 16777214 24,O e.a.f.c (.build [.int .i64 (.lit 0),.int .i64 (.lit 0),.int .i64 (.lit 0),.int .i64 (.lit 0),.int .i64 (.lit 0),.int .i64 (.lit 0),.int .i64 (.lit 0)] [(0,1,t e.b.b),(1,1,t e.c.b),(2,1,t e.f.b),(3,1,t e.a.a.b),(4,1,t e.a.b.b),(6,1,t e.a.c.b),(5,1,t e.a.f.b)]) 33554431 25,⟨none,.store 7 (t e.a.f) (t e.a.f.c),none,134217727,27⟩]).seq (((reg [f 13 e.a.f.f e.c 0,l e.b.a.a e.a.f.f 1]).seq (NC.cond (t e.b.a.a) (reg [l e.b.a.b e.a.a 0,f 9 e.b.a.c e.c 1,f 0 e.b.a.f e.b.a.c 2,l e.b.b.a e.b.a.f 3,f 9 e.b.b.b e.c 4,f 1 e.b.b.c e.b.b.b 5,l e.b.b.f e.b.b.c 6,o e.b.c.a (.call (F 250) [t e.b.a.b,t e.b.b.a,t e.b.b.f]) 7,f 6 e.b.c.b e.a.f 8,q (.store 1 (t e.b.c.b) (t e.b.c.a)) 9]) NC.skip)).seq (((reg [f 14 e.b.c.c e.c 0,l e.b.c.f e.b.c.c 1]).seq (NC.cond (t e.b.c.f) (reg [f 5 e.b.f.a e.a.f 0,l e.b.f.b e.b.f.a 1,b e.b.f.c .xor (t e.b.f.b) (k 1) 2,f 5 e.b.f.f e.a.f 3,q (.store 1 (t e.b.f.f) (t e.b.f.c)) 4]) NC.skip)).seq ((reg [o e.c.a.a (.loadN 7 (t e.a.f)) 0,q (.store 7 (t e.a.b) (t e.c.a.a)) 1]).seq NC.ret))))),54, [.cellN e.a.b 7]⟩
theorem tv:ag Tryz.prog 165=some (.code AQ):=by kernel_rfl
noncomputable def Ai:NFun:=⟨(reg [o e.b (.box (t e) 260) 0,o e.c (.box (t e.a) 182) 1,o e.f (.move kf) 2]).seq ((reg [f 6 e.a.c e.c 0,l e.a.f e.a.c 1,f 9 e.b.a e.b 2,f 1 e.b.b e.b.a 3,l e.b.c e.b.b 4,o e.b.f (.call (F 251) [t e.a.f,t e.b.c]) 5,m e.a.a e.b.f 6]).seq (((reg [f 13 e.c.a e.b 0,l e.c.b e.c.a 1]).seq (NC.cond (t e.c.b) (reg [f 6 e.c.c e.c 0,l e.c.f e.c.c 1,f 9 e.f.a e.b 2,f 1 e.f.b e.f.a 3,l e.f.c e.f.b 4,o e.f.f (.call (F 252) [t e.c.f,t e.f.c]) 5,m e.a.a e.f.f 6]) NC.skip)).seq ((reg [f 1 e.a.a.a e.c 0,l e.a.a.b e.a.a.a 1,f 1 e.a.a.c e.b 2,f 1 e.a.a.f e.a.a.c 3,l e.a.b.a e.a.a.f 4,o e.a.b.b (.call (F 251) [t e.a.a.b,t e.a.b.a]) 5,m e.a.b.c e.a.b.b 6,G e.a.b.f (.fieldAddr 2 (t e.c)) e.a.b.c true 7,G e.a.c.a (.load1 (t e.a.b.f)) e.a.b.c true 8,G e.a.c.b (.fieldAddr 3 (t e.b)) e.a.b.c true 9,G e.a.c.c (.fieldAddr 1 (t e.a.c.b)) e.a.b.c true 10,G e.a.c.f (.load1 (t e.a.c.c)) e.a.b.c true 11,G e.a.f.a (.call (F 251) [t e.a.c.a,t e.a.c.f]) e.a.b.c true 12,o e.a.f.b (.pick (t e.a.b.c) (t e.a.f.a) kf) 13,m e.a.f.c e.a.f.b 14,G e.a.f.f (.fieldAddr 3 (t e.c)) e.a.f.c true 15,G e.b.a.a (.load1 (t e.a.f.f)) e.a.f.c true 16,G e.b.a.b (.fieldAddr 5 (t e.b)) e.a.f.c true 17,G e.b.a.c (.fieldAddr 1 (t e.b.a.b)) e.a.f.c true 18,G e.b.a.f (.load1 (t e.b.a.c)) e.a.f.c true 19,G e.b.b.a (.call (F 251) [t e.b.a.a,t e.b.a.f]) e.a.f.c true 20,o e.b.b.b (.pick (t e.a.f.c) (t e.b.b.a) kf) 21,m e.b.b.c e.b.b.b 22,G e.b.b.f (.fieldAddr 4 (t e.c)) e.b.b.c true 23,G e.b.c.a (.load1 (t e.b.b.f)) e.b.b.c true 24,G e.b.c.b (.fieldAddr 7 (t e.b)) e.b.b.c true 25,G e.b.c.c (.fieldAddr 1 (t e.b.c.b)) e.b.b.c true 26,G e.b.c.f (.load1 (t e.b.c.c)) e.b.b.c true 27,G e.b.f.a (.call (F 251) [t e.b.c.a,t e.b.c.f]) e.b.b.c true 28,o e.b.f.b (.pick (t e.b.b.c) (t e.b.f.a) kf) 29,m e.a.b e.b.f.b 30]).seq ((reg [m e.b.f.c e.a.a 0,m e.b.f.f e.b.f.c 1,G e.c.a.a (.move (t e.a.b)) e.b.f.f true 2,o e.c.a.b (.pick (t e.b.f.f) (t e.c.a.a) kf) 3,m e.c.a.c e.c.a.b 4,G e.c.a.f (.fieldAddr 11 (t e.b)) e.c.a.c true 5,G e.c.b.a (.fieldAddr 1 (t e.c.a.f)) e.c.a.c true 6,G e.c.b.b (.load1 (t e.c.b.a)) e.c.a.c true 7,G e.c.b.c (.bin .num .gtr (t e.c.b.b) (k 0)) e.c.a.c true 8,G e.c.b.f (.move (t e.c.b.c)) e.c.a.c true 9,G e.c.c.a (.fieldAddr 5 (t e.c)) e.c.b.f true 10,G e.c.c.b (.load1 (t e.c.c.a)) e.c.b.f true 11,G e.c.c.c (.call (F 253) [t e.c.c.b]) e.c.b.f true 12,G e.c.c.f (.pick (t e.c.b.f) (t e.c.c.c) kf) e.c.a.c true 13,G e.c.f.a (.move (t e.c.c.f)) e.c.a.c true 14,G e.c.f.b (.fieldAddr 11 (t e.b)) e.c.f.a false 15,G e.c.f.c (.fieldAddr 1 (t e.c.f.b)) e.c.f.a false 16,G e.c.f.f (.load1 (t e.c.f.c)) e.c.f.a false 17,G e.f.a.a (.bin .num .eql (t e.c.f.f) (k 0)) e.c.f.a false 18,G e.f.a.b (.move (t e.f.a.a)) e.c.f.a false 19,G e.f.a.c (.fieldAddr 5 (t e.c)) e.f.a.b true 20,G e.f.a.f (.load1 (t e.f.a.c)) e.f.a.b true 21,G e.f.b.a (.bin .num .eql (t e.f.a.f) (k 0)) e.f.a.b true 22,G e.f.b.b (.pick (t e.f.a.b) (t e.f.b.a) kf) e.c.f.a false 23,G e.f.b.c (.pick (t e.c.f.a) kt (t e.f.b.b)) e.c.a.c true 24,o e.f.b.f (.pick (t e.c.a.c) (t e.f.b.c) kf) 25,m e.f e.f.b.f 26]).seq NC.ret)))),77, [.tmp e.f]⟩
theorem ux:ag Tryz.prog 166=some (.code Ai):=by kernel_rfl
noncomputable def zN:NFun:=⟨(reg [o e.b (.box (t e) 260) 0,o e.c (.box (t e.a) 182) 1,o e.f (.move (.const (.int .u32 (.lit 0)))) 2]).seq (((reg [f 14 e.a.b e.b 0,l e.a.c e.a.b 1]).seq (NC.cond (t e.a.c) (reg [f 5 e.a.f e.c 0,l e.b.a e.a.f 1,b e.b.b .xor (t e.b.a) (k 1) 2,f 5 e.b.c e.c 3,q (.store 1 (t e.b.c) (t e.b.b)) 4]) NC.skip)).seq ((regD [f 0 e.b.f e.b 0,O e.c.a (.load1 (t e.b.f)) 1 1,f 1 e.c.b e.b 2,O e.c.c (.loadN 2 (t e.c.b)) 4 3,f 1 e.c.f e.c 4,O e.f.a (.load1 (t e.c.f)) 16 5,f 3 e.f.c e.b 7,O e.f.f (.loadN 2 (t e.f.c)) 128 8,f 2 e.a.a.a e.c 9,O e.a.a.b (.load1 (t e.a.a.a)) 512 10,f 5 e.a.a.f e.b 12,O e.a.b.a (.loadN 2 (t e.a.a.f)) 4096 13,f 3 e.a.b.b e.c 14,O e.a.b.c (.load1 (t e.a.b.b)) 16384 15,O e.f.b (.call (F 254) [t e.c.a,t e.c.c,t e.f.a]) 63 6,O e.a.a.c (.call (F 254) [t e.f.b,t e.f.f,t e.a.a.b]) 2047 11,O e.a.b.f (.call (F 254) [t e.a.a.c,t e.a.b.a,t e.a.b.c]) 65535 16,O e.a.a (.move (t e.a.b.f)) 131071 17]).seq ((regD [m e.a.c.a e.a.a 0,f 7 e.a.c.b e.b 1,O e.a.c.c (.loadN 2 (t e.a.c.b)) 2 2,f 4 e.a.c.f e.c 3,O e.a.f.a (.load1 (t e.a.c.f)) 8 4,f 9 e.a.f.c e.b 6,O e.a.f.f (.loadN 2 (t e.a.f.c)) 64 7,f 6 e.b.a.a e.c 8,O e.b.a.b (.load1 (t e.b.a.a)) 256 9,f 11 e.b.a.f e.b 11,O e.b.b.a (.loadN 2 (t e.b.a.f)) 2048 12,f 5 e.b.b.b e.c 13,O e.b.b.c (.load1 (t e.b.b.b)) 8192 14,O e.a.f.b (.call (F 254) [t e.a.c.a,t e.a.c.c,t e.a.f.a]) 31 5,O e.b.a.c (.call (F 254) [t e.a.f.b,t e.a.f.f,t e.b.a.b]) 1023 10,O e.b.b.f (.call (F 254) [t e.b.a.c,t e.b.b.a,t e.b.b.c]) 32767 15,O e.f (.move (t e.b.b.f)) 65535 16]).seq NC.ret))),45, [.tmp e.f]⟩
theorem uR:ag Tryz.prog 167=some (.code zN):=by kernel_rfl
noncomputable def Bg:NFun:=⟨(reg [o e.a (.box (t e) 182) 0,o e.b (.move kf) 1]).seq ((reg [o e.f (.call (F 164) []) 0,m e.c e.f 1]).seq ((regD [f 0 e.a.a e.a 0,O e.a.b (.load1 (t e.a.a)) 1 1,O e.a.c (.bin .num .geq (t e.a.b) (k 0)) 3 2,O e.a.f (.move (t e.a.c)) 7 3,⟨some e.b.a,.fieldAddr 0 (t e.a),some (e.a.f,true),15,4⟩,⟨some e.b.b,.load1 (t e.b.a),some (e.a.f,true),31,5⟩,⟨some e.b.c,.move (t e.c),some (e.a.f,true),15,6⟩,⟨some e.b.f,.lenSlc (t e.b.c),some (e.a.f,true),79,7⟩,⟨some e.c.a,.bin .num .lss (t e.b.b) (t e.b.f),some (e.a.f,true),255,8⟩,O e.c.b (.pick (t e.a.f) (t e.c.a) kf) 511 9,O e.c.c (.move (t e.c.b)) 1023 10,⟨some e.c.f,.move (t e.c),some (e.c.c,true),2047,11⟩,⟨some e.f.a,.fieldAddr 0 (t e.a),some (e.c.c,true),2047,12⟩,⟨some e.f.b,.load1 (t e.f.a),some (e.c.c,true),6143,13⟩,⟨some e.f.c,.indexSlc 15 (t e.c.f) (t e.f.b),some (e.c.c,true),16383,14⟩,⟨some e.f.f,.loadN 15 (t e.f.c),some (e.c.c,true),32767,15⟩,⟨some e.a.a.a,.loadN 7 (t e.a),some (e.c.c,true),2047,16⟩,⟨some e.a.a.b,.call (F 166) [t e.f.f,t e.a.a.a],some (e.c.c,true),131071,17⟩,O e.a.a.c (.pick (t e.c.c) (t e.a.a.b) kf) 262143 18,O e.b (.move (t e.a.a.c)) 524287 19]).seq NC.ret)),24, [.tmp e.b]⟩
theorem vD:ag Tryz.prog 168=some (.code Bg):=by kernel_rfl
noncomputable def BB:NFun:=⟨(reg [o e.b (.box (t e) 116) 0,o e.c (.box (t e.a) 182) 1,o e.f (.move kf) 2]).seq (((reg [f 0 e.a.a e.c 0,l e.a.b e.a.a 1]).seq (NC.block 0 ((reg [b e.a.f .eql (t e.a.b) (k 8) 0,m e.a.c e.a.f 1]).seq (NC.cond (t e.a.c) ((reg [o e.f (.move kt) 0]).seq NC.ret) ((reg [b e.b.b .eql (t e.a.b) (k 9) 0,m e.b.a e.b.b 1]).seq (NC.cond (t e.b.a) ((reg [o e.b.c (.loadN 33 (t e.b)) 0,f 5 e.b.f e.c 1,l e.c.a e.b.f 2,o e.c.b (.call (F 255) [t e.b.c,t e.c.a]) 3,m e.f e.c.b 4]).seq NC.ret) ((reg [b e.c.f .eql (t e.a.b) (k 10) 0,m e.c.c e.c.f 1]).seq (NC.cond (t e.c.c) ((reg [o e.f.a (.loadN 33 (t e.b)) 0,f 2 e.f.b e.c 1,l e.f.c e.f.b 2,o e.f.f (.call (F 170) [t e.f.a,t e.f.c]) 3,b e.a.a.a .eql (t e.f.f) (ku 0) 4,m e.f e.a.a.a 5]).seq NC.ret) NC.skip)))))))).seq ((reg [f 0 e.a.a.b e.c 0,l e.a.a.c e.a.a.b 1,b e.a.a.f .eql (t e.a.a.c) (k 11) 2,m e.a.b.a e.a.a.f 3,G e.a.b.b (.loadN 33 (t e.b)) e.a.b.a true 4,G e.a.b.c (.fieldAddr 2 (t e.c)) e.a.b.a true 5,G e.a.b.f (.load1 (t e.a.b.c)) e.a.b.a true 6,G e.a.c.a (.call (F 170) [t e.a.b.b,t e.a.b.f]) e.a.b.a true 7,G e.a.c.b (.bin .num .neq (t e.a.c.a) (ku 0)) e.a.b.a true 8,o e.a.c.c (.pick (t e.a.b.a) (t e.a.c.b) kf) 9,m e.f e.a.c.c 10]).seq NC.ret)),32, [.tmp e.f]⟩
theorem tO:ag Tryz.prog 169=some (.code BB):=by kernel_rfl
noncomputable def Ao:NFun:=⟨(reg [o e.b (.box (t e) 116) 0,o e.f (.move (ku 0)) 1]).seq (((reg [m e.a.a e.a 0,b e.a.b .lss (t e.a.a) (k 0) 1,m e.a.c e.a.b 2,G e.a.f (.move (t e.a)) e.a.c false 3,G e.b.a (.bin .num .geq (t e.a.f) (k 31)) e.a.c false 4,o e.b.b (.pick (t e.a.c) kt (t e.b.a)) 5]).seq (NC.cond (t e.b.b) ((reg [o e.f (.move (ku 0)) 0]).seq NC.ret) NC.skip)).seq ((reg [m e.b.c e.a 0,f 0 e.b.f e.b 1,o e.c.a (.indexArr 1 31 (t e.b.f) (t e.b.c)) 2,l e.c.b e.c.a 3,m e.f e.c.b 4]).seq NC.ret)),15, [.tmp e.f]⟩
theorem sJ:ag Tryz.prog 170=some (.code Ao):=by kernel_rfl
noncomputable def BL:NFun:=⟨(reg [o e.b (.box (t e) 116) 0,o e.c (.box (t e.a) 182) 1,o e.f (.move (ku 0)) 2]).seq ((regD [o e.b.a (.loadN 33 (t e.b)) 0,f 2 e.b.b e.c 1,O e.b.c (.load1 (t e.b.b)) 2 2,o e.c.a (.loadN 33 (t e.b)) 4,f 3 e.c.b e.c 5,O e.c.c (.load1 (t e.c.b)) 32 6,O e.b.f (.call (F 170) [t e.b.a,t e.b.c]) 7 3,O e.c.f (.call (F 170) [t e.c.a,t e.c.c]) 127 7,O e.a.a (.move (t e.b.f)) 255 8,O e.a.b (.move (t e.c.f)) 511 9]).seq ((regD [f 6 e.f.a e.c 0,O e.f.b (.load1 (t e.f.a)) 1 1,O e.f.c (.toInt .u64 (t e.f.b)) 3 2,f 4 e.f.f e.c 3,O e.a.a.a (.load1 (t e.f.f)) 8 4,O e.a.a.b (.bin .num .mul (k 16) (t e.a.a.a)) 24 5,O e.a.c (.move (t e.f.c)) 7 6,O e.a.f (.move (t e.a.a.b)) 127 7]).seq (((reg [f 0 e.a.a.c e.c 0,l e.a.a.f e.a.a.c 1]).seq (NC.block 0 ((reg [b e.a.b.b .eql (t e.a.a.f) (k 0) 0,m e.a.b.a e.a.b.b 1]).seq (NC.cond (t e.a.b.a) ((reg [m e.a.b.c e.a.c 0,m e.a.b.f e.a.f 1,b e.a.c.a .shl (t e.a.b.c) (t e.a.b.f) 2,m e.f e.a.c.a 3]).seq NC.ret) ((reg [b e.a.c.c .eql (t e.a.a.f) (k 1) 0,m e.a.c.b e.a.c.c 1]).seq (NC.cond (t e.a.c.b) ((regD [o e.a.c.f (.loadN 33 (t e.b)) 0,f 1 e.a.f.a e.c 1,O e.a.f.b (.load1 (t e.a.f.a)) 2 2,m e.a.f.f e.a.f 4,O e.b.a.a (.bin .num .shl (ku 65535) (t e.a.f.f)) 16 5,m e.b.a.c e.a.c 7,m e.b.a.f e.a.f 8,O e.b.b.a (.bin .num .shl (t e.b.a.c) (t e.b.a.f)) 384 9,O e.a.f.c (.call (F 170) [t e.a.c.f,t e.a.f.b]) 7 3,O e.b.a.b (.bin .num .andNot (t e.a.f.c) (t e.b.a.a)) 63 6,O e.b.b.b (.bin .num .or (t e.b.a.b) (t e.b.b.a)) 1023 10,O e.f (.move (t e.b.b.b)) 2047 11]).seq NC.ret) ((reg [b e.b.b.f .eql (t e.a.a.f) (k 2) 0,m e.b.b.c e.b.b.f 1]).seq (NC.cond (t e.b.b.c) ((reg [m e.b.c.a e.a.a 0,m e.b.c.b e.a.b 1,b e.b.c.c .add (t e.b.c.a) (t e.b.c.b) 2,m e.f e.b.c.c 3]).seq NC.ret) ((reg [b e.b.f.a .eql (t e.a.a.f) (k 3) 0,m e.b.c.f e.b.f.a 1]).seq (NC.cond (t e.b.c.f) ((reg [m e.b.f.b e.a.a 0,m e.b.f.c e.a.b 1,b e.b.f.f .sub (t e.b.f.b) (t e.b.f.c) 2,m e.f e.b.f.f 3]).seq NC.ret) ((reg [b e.c.a.b .eql (t e.a.a.f) (k 4) 0,m e.c.a.a e.c.a.b 1]).seq (NC.cond (t e.c.a.a) ((reg [m e.c.a.c e.a.a 0,m e.c.a.f e.a.b 1,b e.c.b.a .mul (t e.c.a.c) (t e.c.a.f) 2,m e.f e.c.b.a 3]).seq NC.ret) ((reg [b e.c.b.c .eql (t e.a.a.f) (k 5) 0,m e.c.b.b e.c.b.c 1]).seq (NC.cond (t e.c.b.b) ((reg [m e.c.b.f e.a.a 0,m e.c.c.a e.a.b 1,b e.c.c.b .and (t e.c.b.f) (t e.c.c.a) 2,m e.f e.c.c.b 3]).seq NC.ret) NC.skip)))))))))))))).seq (((reg [o e.c.c.c (.loadN 33 (t e.b)) 0,f 5 e.c.c.f e.c 1,l e.c.f.a e.c.c.f 2,o e.c.f.b (.call (F 255) [t e.c.c.c,t e.c.f.a]) 3]).seq (NC.cond (t e.c.f.b) ((reg [o e.f (.move (ku 1)) 0]).seq NC.ret) NC.skip)).seq ((reg [o e.f (.move (ku 0)) 0]).seq NC.ret))))),67, [.tmp e.f]⟩
theorem rU:ag Tryz.prog 171=some (.code BL):=by kernel_rfl
noncomputable def BE:NFun:=⟨(reg [o e.f (.move kn) 0,o e.a.a (.move kf) 1]).seq ((NC.block 0 ((reg [m e.a.c e 0,n e.a.f e.a.c 1,f 549 e.b.a e.a.f 2,o e.b.b (.call (F 256) [t e.b.a]) 3,b e.b.c .gtr (t e.b.b) (k 0) 4,m e.b.f e.b.c 5,G e.c.a (.move (t e.a)) e.b.f false 6,G e.c.b (.bin .num .eql (t e.c.a) (k 19)) e.b.f false 7,G e.c.c (.move (t e.c.b)) e.b.f false 8,G e.c.f (.move (t e)) e.c.c true 9,G e.f.a (.nilCheck (t e.c.f)) e.c.c true 10,G e.f.b (.fieldAddr 550 (t e.f.a)) e.c.c true 11,G e.f.c (.load1 (t e.f.b)) e.c.c true 12,G e.f.f (.lenMap (t e.f.c)) e.c.c true 13,G e.a.a.a (.bin .num .gtr (t e.f.f) (k 0)) e.c.c true 14,G e.a.a.b (.pick (t e.c.c) (t e.a.a.a) kf) e.b.f false 15,o e.a.a.c (.pick (t e.b.f) kt (t e.a.a.b)) 16,m e.a.b e.a.a.c 17]).seq (NC.cond (t e.a.b) ((reg [o e.f (.move kn) 0,o e.a.a (.move kf) 1]).seq NC.ret) ((reg [m e.a.b.a e.a 0,b e.a.b.b .eql (t e.a.b.a) (k 18) 1,m e.a.a.f e.a.b.b 2]).seq (NC.cond (t e.a.a.f) ((reg [m e.a.b.c e 0,o e.a.b.f (.call (F 173) [t e.a.b.c,.const .nils]) 1,x e.a.c.a e.a.b.f 0 2,x e.a.c.b e.a.b.f 1 3,m e.f e.a.c.a 4,m e.a.a e.a.c.b 5]).seq NC.ret) NC.skip))))).seq ((reg [m e.a.c.c e 0,m e.a.c.f e 1,o e.a.f.a (.call (F 113) [t e.a.c.f,k 6,k 0,ku 0]) 2,o e.a.f.b (.call (F 173) [t e.a.c.c,t e.a.f.a]) 3,x e.a.f.c e.a.f.b 0 4,x e.a.f.f e.a.f.b 1 5,m e.f e.a.f.c 6,m e.a.a e.a.f.f 7]).seq NC.ret)),37, [.tmp e.f,.tmp e.a.a]⟩
theorem ue:ag Tryz.prog 172=some (.code BE):=by kernel_rfl
noncomputable def Cm:NFun:=⟨(reg [o e.f (.move kn) 0,o e.a.a (.move kf) 1]).seq ((reg [m e.a.b e 0,n e.a.c e.a.b 1,f 2 e.a.f e.a.c 2,l e.b.a e.a.f 3,b e.b.b .add (t e.b.a) (k 1) 4,n e.b.c e.a.b 5,f 2 e.b.f e.b.c 6,q (.store 1 (t e.b.f) (t e.b.b)) 7]).seq ((reg [m e.c.a e.a 0,m e.f e.c.a 1,o e.a.a (.move kt) 2]).seq NC.ret)),14, [.tmp e.f,.tmp e.a.a]⟩
theorem rN:ag Tryz.prog 173=some (.code Cm):=by kernel_rfl
noncomputable def zk:NFun:=⟨(reg [o e.c (.box (t e.a) 182) 0,o e.f (.move kn) 1,o e.a.a (.move kf) 2]).seq ((regD [m e.b.c e 0,O e.b.f (.nilCheck (t e.b.c)) 1 1,O e.c.a (.fieldAddr 4 (t e.b.f)) 3 2,O e.c.b (.loadN 33 (t e.c.a)) 7 3,f 2 e.c.c e.c 4,O e.c.f (.load1 (t e.c.c)) 16 5,f 6 e.f.b e.c 7,O e.f.c (.load1 (t e.f.b)) 128 8,O e.f.f (.toInt .u64 (t e.f.c)) 384 9,O e.a.a.a (.bin .num .mul (ku 8) (t e.f.f)) 896 10,O e.f.a (.call (F 170) [t e.c.b,t e.c.f]) 63 6,O e.a.a.b (.bin .num .add (t e.f.a) (t e.a.a.a)) 2047 11,O e.a.b (.move (t e.a.a.b)) 4095 12]).seq (((reg [m e.a.a.f e.a.b 0,o e.a.b.a (.call (F 257) [t e.a.a.f]) 1,m e.a.a.c e.a.b.a 2,x e.a.b.b e.a.a.c 0 3,x e.a.b.c e.a.a.c 1 4,m e.a.c e.a.b.b 5,m e.a.f e.a.b.c 6]).seq ((reg [m e.a.b.f e.a.f 0]).seq (NC.cond (t e.a.b.f) ((reg [m e.a.c.a e 0,o e.a.c.b (.loadN 7 (t e.c)) 1,m e.a.c.c e.a.c 2,o e.a.c.f (.call (F 258) [t e.a.c.a,t e.a.c.b,t e.a.c.c]) 3,x e.a.f.a e.a.c.f 0 4,x e.a.f.b e.a.c.f 1 5,m e.f e.a.f.a 6,m e.a.a e.a.f.b 7]).seq NC.ret) NC.skip))).seq (((reg [m e.a.f.c e.a.b 0,b e.a.f.f .gtr (t e.a.f.c) (ku 9223372036854775807) 1]).seq (NC.cond (t e.a.f.f) ((reg [m e.b.a.a e 0,o e.b.a.b (.call (F 105) [t e.b.a.a]) 1,x e.b.a.c e.b.a.b 0 2,x e.b.a.f e.b.a.b 1 3,m e.f e.b.a.c 4,m e.a.a e.b.a.f 5]).seq NC.ret) NC.skip)).seq (((reg [m e.b.b.b e 0,n e.b.b.c e.b.b.b 1,f 0 e.b.b.f e.b.b.c 2,l e.b.c.a e.b.b.f 3,m e.b.c.b e.a.b 4,o e.b.c.c (.toInt .i64 (t e.b.c.b)) 5,o e.b.c.f (.call (F 259) [t e.b.c.a,t e.b.c.c]) 6,m e.b.b.a e.b.c.f 7,x e.b.f.a e.b.b.a 0 8,x e.b.f.b e.b.b.a 1 9,m e.b.a e.b.f.a 10,m e.b.b e.b.f.b 11]).seq ((reg [m e.b.f.c e.b.b 0]).seq (NC.cond (t e.b.f.c) ((reg [m e.b.f.f e 0,o e.c.a.a (.loadN 7 (t e.c)) 1,m e.c.a.b e.a.b 2,o e.c.a.c (.toInt .i64 (t e.c.a.b)) 3,m e.c.a.f e.b.a 4,o e.c.b.a (.call (F 260) [t e.b.f.f,t e.c.a.a,t e.c.a.c,t e.c.a.f]) 5,x e.c.b.b e.c.b.a 0 6,x e.c.b.c e.c.b.a 1 7,m e.f e.c.b.b 8,m e.a.a e.c.b.c 9]).seq NC.ret) NC.skip))).seq ((reg [m e.c.b.f e 0,o e.c.c.a (.call (F 105) [t e.c.b.f]) 1,x e.c.c.b e.c.c.a 0 2,x e.c.c.c e.c.c.a 1 3,m e.f e.c.c.b 4,m e.a.a e.c.c.c 5]).seq NC.ret))))),64, [.tmp e.f,.tmp e.a.a]⟩
theorem ur:ag Tryz.prog 174=some (.code zk):=by kernel_rfl
noncomputable def Bi:NFun:=⟨(reg [o e.f (.move kf) 0]).seq ((reg [m e.a.a e 0,m e.a.b e.a 1,o e.a.c (.call (F 261) [t e.a.a,t e.a.b]) 2,b e.a.f .geq (t e.a.c) (k 0) 3,m e.f e.a.f 4]).seq NC.ret),9, [.tmp e.f]⟩
theorem rP:ag Tryz.prog 175=some (.code Bi):=by kernel_rfl
noncomputable def BY:NFun:=⟨(reg [o e.c (.box (t e) 191) 0,o e.f (.move kf) 1]).seq ((regD [f 0 e.a.a e.c 0,O e.a.b (.load1 (t e.a.a)) 1 1,l e.a.c e.a 2,l e.a.f e.b 3,O e.b.a (.indexSlc 3 (t e.a.c) (t e.a.f)) 12 4,O e.b.b (.fieldAddr 0 (t e.b.a)) 28 5,O e.b.c (.load1 (t e.b.b)) 60 6,O e.b.f (.bin .num .eql (t e.a.b) (t e.b.c)) 127 7,O e.f (.move (t e.b.f)) 255 8]).seq NC.ret),13, [.tmp e.f]⟩
theorem qd:ag Tryz.prog 176=some (.code BY):=by kernel_rfl
noncomputable def AI:NFun:=⟨(reg [o e.b (.move (.const .nilf)) 0]).seq ((reg [m e.c e 0,n e.f e.c 1,f 0 e.a.a e.f 2,l e.a.b e.a.a 3,o e.a.c (.call (F 262) [t e.a.b]) 4,m e.b e.a.c 5]).seq NC.ret),8, [.tmp e.b]⟩
theorem s9:ag Tryz.prog 177=some (.code AI):=by kernel_rfl
noncomputable def Cj:NFun:=⟨(reg [o e.a.b (.move kn) 0]).seq ((reg [m e.a.f e 0,m e.b.a e.a 1,m e.b.b e.b 2,m e.b.c e 3,L e.b.f e.b.c 4,o e.c.a (.sliceMax 3 (t e.a.f) (t e.b.a) (t e.b.b) (t e.b.f)) 5]).seq (((reg [m e.c.b e.a 0,m e.c.c e.b 1,b e.c.f .eql (t e.c.b) (t e.c.c) 2]).seq (NC.cond (t e.c.f) ((reg [m e.f.a e 0,m e.a.b e.f.a 1]).seq NC.ret) NC.skip)).seq ((reg [m e.f.b e 0,L e.f.c e.f.b 1,m e.a.c e.f.c 2]).seq ((regD [m e.f.f e 0,m e.a.a.a e.a 1,O e.a.a.b (.sliceSlc 3 (t e.f.f) none (some (t e.a.a.a))) 3 2,m e.a.a.c e 3,m e.a.a.f e.b 4,O e.a.b.a (.sliceSlc 3 (t e.a.a.c) (some (t e.a.a.f)) none) 24 5,O e.a.b.b (.append 3 24 191 (t e.a.a.b) (t e.a.b.a)) 63 6,O e (.move (t e.a.b.b)) 127 7]).seq ((reg [m e.a.b.c e 0,m e.a.b.f e 1,L e.a.c.a e.a.b.f 2,m e.a.c.b e.a.c 3,o e.a.c.c (.sliceSlc 3 (t e.a.b.c) (some (t e.a.c.a)) (some (t e.a.c.b))) 4,q (.clearSlc [.int .i64 (.lit 0),.int .u64 (.lit 0),.bool false] (t e.a.c.c)) 5]).seq ((reg [m e.a.c.f e 0,m e.a.b e.a.c.f 1]).seq NC.ret)))))),33, [.tmp e.a.b]⟩
theorem tY:ag Tryz.prog 178=some (.code Cj):=by kernel_rfl
noncomputable def zq:NFun:=⟨(reg [o e.f (.move (k 0)) 0,o e.a.a (.move kf) 1]).seq (((reg [m e.a.b e.a 0,b e.a.c .lss (t e.a.b) (k 4096) 1,m e.a.f e.a.c 2,G e.b.a (.move (t e.a)) e.a.f false 3,G e.b.b (.bin .num .sub (t e.b.a) (k 4096)) e.a.f false 4,G e.b.c (.bin .num .rem (t e.b.b) (k 8)) e.a.f false 5,G e.b.f (.bin .num .neq (t e.b.c) (k 0)) e.a.f false 6,o e.c.a (.pick (t e.a.f) kt (t e.b.f)) 7,m e.c.b e.c.a 8,G e.c.c (.move (t e.a)) e.c.b false 9,G e.c.f (.bin .num .sub (t e.c.c) (k 4096)) e.c.b false 10,G e.f.a (.bin .num .quo (t e.c.f) (k 8)) e.c.b false 11,G e.f.b (.move (t e)) e.c.b false 12,G e.f.c (.nilCheck (t e.f.b)) e.c.b false 13,G e.f.f (.fieldAddr 0 (t e.f.c)) e.c.b false 14,G e.a.a.a (.load1 (t e.f.f)) e.c.b false 15,G e.a.a.b (.lenSlc (t e.a.a.a)) e.c.b false 16,G e.a.a.c (.bin .num .geq (t e.f.a) (t e.a.a.b)) e.c.b false 17,o e.a.a.f (.pick (t e.c.b) kt (t e.a.a.c)) 18]).seq (NC.cond (t e.a.a.f) ((reg [o e.f (.move (k 0)) 0,o e.a.a (.move kf) 1]).seq NC.ret) NC.skip)).seq ((reg [m e.a.b.a e.a 0,b e.a.b.b .sub (t e.a.b.a) (k 4096) 1,b e.a.b.c .quo (t e.a.b.b) (k 8) 2,m e.f e.a.b.c 3,o e.a.a (.move kt) 4]).seq NC.ret)),28, [.tmp e.f,.tmp e.a.a]⟩
theorem rI:ag Tryz.prog 179=some (.code zq):=by kernel_rfl
noncomputable def Ae:NFun:=⟨(reg [o e.c (.box (t e) 9) 0,o e.f (.box (t e.a) 295) 1,o e.a.a (.box (t e.b) 296) 2,o e.a.b (.move (.const .nilf)) 3]).seq ((reg [o e.a.c (.mkFn 264 [t e.c,t e.f,t e.a.a]) 0,m e.a.b e.a.c 1]).seq NC.ret),8, [.tmp e.a.b]⟩
theorem wc:ag Tryz.prog 194=some (.code Ae):=by kernel_rfl
noncomputable def A9:NFun:=⟨(reg [o e.b (.alloc [.int .i64 (.lit 0),.str [],.int .u64 (.lit 0),.int .i64 (.lit 0)] 139) 0]).seq (((regD [m e.c e 0,O e.f (.nilCheck (t e.c)) 1 1,O e.a.a (.fieldAddr 1 (t e.f)) 3 2,O e.a.b (.load1 (t e.a.a)) 7 3,O e.a.c (.bin .num .lss (t e.a.b) (k 0)) 15 4,O e.a.f (.move (t e.a.c)) 31 5,⟨some e.b.a,.move (t e),some (e.a.f,false),63,6⟩,⟨some e.b.b,.nilCheck (t e.b.a),some (e.a.f,false),127,7⟩,⟨some e.b.c,.fieldAddr 1 (t e.b.b),some (e.a.f,false),255,8⟩,⟨some e.b.f,.load1 (t e.b.c),some (e.a.f,false),511,9⟩,⟨some e.c.a,.move (t e),some (e.a.f,false),63,10⟩,⟨some e.c.b,.nilCheck (t e.c.a),some (e.a.f,false),1087,11⟩,⟨some e.c.c,.fieldAddr 0 (t e.c.b),some (e.a.f,false),3135,12⟩,⟨some e.c.f,.load1 (t e.c.c),some (e.a.f,false),7231,13⟩,⟨some e.f.a,.lenSlc (t e.c.f),some (e.a.f,false),15423,14⟩,⟨some e.f.b,.bin .num .geq (t e.b.f) (t e.f.a),some (e.a.f,false),32767,15⟩,O e.f.c (.pick (t e.a.f) kt (t e.f.b)) 65535 16]).seq (NC.cond (t e.f.c) ((reg [o e.f.f (.build [.int .i64 (.lit 0),.str [],.int .u64 (.lit 0),.int .i64 (.lit 0)] []) 0,q (.store 4 (t e.b) (t e.f.f)) 1]).seq NC.ret) NC.skip)).seq ((regD [m e.a.a.a e 0,O e.a.a.b (.nilCheck (t e.a.a.a)) 1 1,O e.a.a.c (.fieldAddr 0 (t e.a.a.b)) 3 2,O e.a.a.f (.load1 (t e.a.a.c)) 7 3,m e.a.b.a e 4,O e.a.b.b (.nilCheck (t e.a.b.a)) 16 5,O e.a.b.c (.fieldAddr 1 (t e.a.b.b)) 48 6,O e.a.b.f (.load1 (t e.a.b.c)) 112 7,O e.a.c.a (.indexSlc 4 (t e.a.a.f) (t e.a.b.f)) 255 8,O e.a.c.b (.loadN 4 (t e.a.c.a)) 511 9,⟨none,.store 4 (t e.b) (t e.a.c.b),none,1023,10⟩]).seq NC.ret)),31, [.cellN e.b 4]⟩
theorem qk:ag Tryz.prog 195=some (.code A9):=by kernel_rfl
noncomputable def B6:NFun:=⟨(reg [o e.a.b (.move kf) 0]).seq ((reg [m e.a.f e 0,m e.b.a e.a 1,m e.b.b e.b 2,o e.b.c (.call (F 200) [t e.a.f,t e.b.a,t e.b.b]) 3,m e.a.c e.b.c 4]).seq (((reg [m e.b.f e.a.c 0]).seq (NC.cond (t e.b.f) (reg [m e.c.a e 0,n e.c.b e.c.a 1,f 1 e.c.c e.c.b 2,l e.c.f e.c.c 3,b e.f.a .add (t e.c.f) (k 1) 4,n e.f.b e.c.a 5,f 1 e.f.c e.f.b 6,q (.store 1 (t e.f.c) (t e.f.a)) 7]) NC.skip)).seq ((reg [m e.f.f e.a.c 0,m e.a.b e.f.f 1]).seq NC.ret))),21, [.tmp e.a.b]⟩
theorem uv:ag Tryz.prog 196=some (.code B6):=by kernel_rfl
noncomputable def BI:NFun:=⟨(reg [o e.b (.alloc [.str [],.int .i64 (.lit 0)] 142) 0]).seq ((reg [m e.f e 0,o e.a.a (.call (F 198) [t e.f,k 1]) 1,o e.a.b (.field1 1 (t e.a.a)) 2,o e.a.c (.build [.str [],.int .i64 (.lit 0)] [(0,1,t e.a.b),(1,1,k 1)]) 3,o e.c (.alloc [.str [],.int .i64 (.lit 0)] 142) 4,q (.store 2 (t e.c) (t e.a.c)) 5]).seq (((reg [m e.a.f e 0,o e.b.a (.call (F 196) [t e.a.f,k 3,.const (.str [91])]) 1]).seq (NC.cond (t e.b.a) ((reg [m e.b.b e 0,o e.b.c (.call (F 198) [t e.b.b,k 2]) 1,o e.b.f (.field1 2 (t e.b.c)) 2,o e.c.a (.minmax false [t e.b.f,ku 1048576]) 3,o e.c.b (.toInt .i64 (t e.c.a)) 4,f 1 e.c.c e.c 5,q (.store 1 (t e.c.c) (t e.c.b)) 6]).seq (reg [m e.c.f e 0,o e.f.a (.call (F 267) [t e.c.f,.const (.str [93])]) 1])) NC.skip)).seq ((reg [m e.f.b e 0,o e.f.c (.call (F 267) [t e.f.b,.const (.str [59])]) 1]).seq ((reg [o e.f.f (.loadN 2 (t e.c)) 0,q (.store 2 (t e.b) (t e.f.f)) 1]).seq NC.ret)))),21, [.cellN e.b 2]⟩
theorem qg:ag Tryz.prog 197=some (.code BI):=by kernel_rfl
noncomputable def Aj:NFun:=⟨(reg [o e.f (.alloc [.int .i64 (.lit 0),.str [],.int .u64 (.lit 0),.int .i64 (.lit 0)] 139) 0]).seq ((reg [m e.a.b e 0,o e.a.c (.call (F 195) [t e.a.b]) 1,o e.a.a (.alloc [.int .i64 (.lit 0),.str [],.int .u64 (.lit 0),.int .i64 (.lit 0)] 139) 2,q (.store 4 (t e.a.a) (t e.a.c)) 3]).seq (((reg [f 0 e.a.f e.a.a 0,l e.b.a e.a.f 1,m e.b.b e.a 2,b e.b.c .neq (t e.b.a) (t e.b.b) 3]).seq (NC.cond (t e.b.c) (reg [m e.b.f e 0,o e.c.a (.call (F 201) [t e.b.f,k 2]) 1]) NC.skip)).seq ((reg [m e.c.b e 0,n e.c.c e.c.b 1,f 1 e.c.f e.c.c 2,l e.f.a e.c.f 3,b e.f.b .add (t e.f.a) (k 1) 4,n e.f.c e.c.b 5,f 1 e.f.f e.f.c 6,q (.store 1 (t e.f.f) (t e.f.b)) 7]).seq ((reg [o e.a.a.a (.loadN 4 (t e.a.a)) 0,q (.store 4 (t e.f) (t e.a.a.a)) 1]).seq NC.ret)))),22, [.cellN e.f 4]⟩
theorem tL:ag Tryz.prog 198=some (.code Aj):=by kernel_rfl
noncomputable def pJ:NC:=(((reg [m e.c.f e 0,o e.f.a (.call (F 196) [t e.c.f,k 3,.const (.str [125])]) 1,o e.f.b (.un .not (t e.f.a)) 2]).seq (NC.cond (t e.f.b) NC.skip (NC.exit 0))).seq (NC.block 1 (reg [m e.f.c e.a.a 0,m e.f.f e 1,m e.a.a.a e.a 2,o e.a.a.b (.call (F 268) [t e.f.f,t e.a.a.a]) 3,o e.a.a.c (.buildSlice [.int .i64 (.lit 0),.int .i64 (.lit 0),.str [],.str [],.int .i64 (.lit 0),.int .u64 (.lit 0),.int .u8 (.lit 0),.str [],.nils,.int .i64 (.lit 0),.int .u64 (.lit 0),.int .u8 (.lit 0),.str [],.nils,.int .i64 (.lit 0),.int .u64 (.lit 0),.int .u8 (.lit 0),.str [],.nils,.nils,.nils] 21 1 229 [(0,21,t e.a.a.b)]) 4,o e.a.a.f (.append 21 288 229 (t e.f.c) (t e.a.a.c)) 5,m e.a.a e.a.a.f 6])))
noncomputable def Ar:NFun:=⟨(reg [o e.f (.move kn) 0]).seq (((reg [m e.a.b e 0,o e.a.c (.call (F 200) [t e.a.b,k 3,.const (.str [123])]) 1,m e.a.f e.a.c 2,G e.b.a (.move (t e.a)) e.a.f true 3,G e.b.b (.bin .num .gtr (t e.b.a) (k 29)) e.a.f true 4,o e.b.c (.pick (t e.a.f) (t e.b.b) kf) 5]).seq (NC.cond (t e.b.c) (reg [m e.b.f e 0,o e.c.a (.call (F 201) [t e.b.f,k 11]) 1]) NC.skip)).seq ((reg [m e.c.b e 0,o e.c.c (.call (F 267) [t e.c.b,.const (.str [123])]) 1]).seq ((reg [o e.a.a (.move kn) 0]).seq ((NC.block 0 pJ.loop).seq ((reg [m e.a.b.a e.a.a 0,m e.f e.a.b.a 1]).seq NC.ret))))),26, [.tmp e.f]⟩
theorem r8:ag Tryz.prog 199=some (.code Ar):=by kernel_rfl
noncomputable def AG:NFun:=⟨(reg [o e.a.b (.move kf) 0]).seq ((reg [m e.a.f e 0,o e.b.a (.call (F 195) [t e.a.f]) 1,o e.a.c (.alloc [.int .i64 (.lit 0),.str [],.int .u64 (.lit 0),.int .i64 (.lit 0)] 139) 2,q (.store 4 (t e.a.c) (t e.b.a)) 3]).seq ((reg [f 0 e.b.b e.a.c 0,l e.b.c e.b.b 1,m e.b.f e.a 2,b e.c.a .eql (t e.b.c) (t e.b.f) 3,m e.c.b e.c.a 4,G e.c.c (.fieldAddr 1 (t e.a.c)) e.c.b true 5,G e.c.f (.load1 (t e.c.c)) e.c.b true 6,G e.f.a (.move (t e.b)) e.c.b true 7,G e.f.b (.bin .num .eql (t e.c.f) (t e.f.a)) e.c.b true 8,o e.f.c (.pick (t e.c.b) (t e.f.b) kf) 9,m e.a.b e.f.c 10]).seq NC.ret)),20, [.tmp e.a.b]⟩
theorem uy:ag Tryz.prog 200=some (.code AG):=by kernel_rfl
noncomputable def Bp:NFun:=⟨reg [m e.f e.a 0,m e.a.a e 1,n e.a.b e.a.a 2,f 1 e.a.c e.a.b 3,l e.a.f e.a.c 4,o e.b.a (.build [.int .i64 (.lit 0),.int .i64 (.lit 0)] [(0,1,t e.f),(1,1,t e.a.f)]) 5,o e.b.b (.mkIfc 205 (t e.b.a)) 6,q (.panic (t e.b.b)) 7],11, []⟩
theorem uT:ag Tryz.prog 201=some (.code Bp):=by kernel_rfl
noncomputable def tJ:NC:=((reg [b e.b.c .lss (t e.b.b) (t e.b.a) 0]).seq ((NC.cond (t e.b.c) NC.skip (NC.exit 0)).seq ((NC.block 1 ((reg [o e.b.f (.indexSlc 2 (t e.a.f) (t e.b.b)) 0,o e.c.a (.loadN 2 (t e.b.f)) 1,o e.a.b (.alloc [.str [],.int .i64 (.lit 0)] 142) 2,q (.store 2 (t e.a.b) (t e.c.a)) 3]).seq ((NC.block 2 ((reg [m e.c.c e.f 0,f 0 e.c.f e.a.b 1,l e.f.a e.c.f 2,o e.f.b (.lookup true (.bool false) false (t e.c.c) (t e.f.a)) 3,m e.c.b e.f.b 4]).seq (NC.cond (t e.c.b) ((reg [o e.b (.move (k 5)) 0]).seq NC.ret) ((reg [f 1 e.f.f e.a.b 0,l e.a.a.a e.f.f 1,b e.a.a.b .lss (t e.a.a.a) (k 1) 2,m e.a.a.c e.a.a.b 3,G e.a.a.f (.fieldAddr 1 (t e.a.b)) e.a.a.c false 4,G e.a.b.a (.load1 (t e.a.a.f)) e.a.a.c false 5,G e.a.b.b (.bin .num .gtr (t e.a.b.a) (k 64)) e.a.a.c false 6,o e.a.b.c (.pick (t e.a.a.c) kt (t e.a.b.b)) 7,m e.a.b.f e.a.b.c 8,G e.a.c.a (.fieldAddr 1 (t e.a.b)) e.a.b.f false 9,G e.a.c.b (.load1 (t e.a.c.a)) e.a.b.f false 10,G e.a.c.c (.fieldAddr 1 (t e.a.b)) e.a.b.f false 11,G e.a.c.f (.load1 (t e.a.c.c)) e.a.b.f false 12,G e.a.f.a (.bin .num .sub (t e.a.c.f) (k 1)) e.a.b.f false 13,G e.a.f.b (.bin .num .and (t e.a.c.b) (t e.a.f.a)) e.a.b.f false 14,G e.a.f.c (.bin .num .neq (t e.a.f.b) (k 0)) e.a.b.f false 15,o e.a.f.f (.pick (t e.a.b.f) kt (t e.a.f.c)) 16,m e.f.c e.a.f.f 17]).seq (NC.cond (t e.f.c) ((reg [o e.b (.move (k 7)) 0]).seq NC.ret) ((reg [f 1 e.b.a.b e.a.b 0,l e.b.a.c e.b.a.b 1,m e.b.a.f e.c 2,b e.b.b.a .sub (k 64) (t e.b.a.f) 3,b e.b.b.b .gtr (t e.b.a.c) (t e.b.b.a) 4,m e.b.a.a e.b.b.b 5]).seq (NC.cond (t e.b.a.a) ((reg [o e.b (.move (k 3)) 0]).seq NC.ret) NC.skip))))))).seq ((reg [m e.b.b.c e.f 0,f 0 e.b.b.f e.a.b 1,l e.b.c.a e.b.b.f 2,q (.mapUpdate true (t e.b.b.c) (t e.b.c.a) kt) 3]).seq (reg [m e.b.c.b e.c 0,f 1 e.b.c.c e.a.b 1,l e.b.c.f e.b.c.c 2,b e.b.f.a .add (t e.b.c.b) (t e.b.c.f) 3,m e.c e.b.f.a 4]))))).seq (reg [b e.b.f.b .add (t e.b.b) (k 1) 0,m e.b.b e.b.f.b 1]))))
noncomputable def As:NFun:=⟨(reg [o e.b (.move (k 0)) 0]).seq ((reg [o e.c (.move (k 0)) 0]).seq ((reg [o e.a.c (.mkMap) 0,m e.f e.a.c 1]).seq (((reg [m e.a.f e 0,L e.b.a e.a.f 1,o e.b.b (.move (k 0)) 2]).seq (NC.block 0 tJ.loop)).seq ((reg [o e.b (.move (k 0)) 0]).seq NC.ret)))),51, [.tmp e.b]⟩
theorem tG:ag Tryz.prog 202=some (.code As):=by kernel_rfl
noncomputable def pZ:NC:=((reg [b e.b.b .lss (t e.b.a) (t e.a.f) 0]).seq ((NC.cond (t e.b.b) NC.skip (NC.exit 0)).seq ((NC.block 1 ((reg [o e.b.c (.indexSlc 2 (t e.a.c) (t e.b.a)) 0,o e.b.f (.loadN 2 (t e.b.c)) 1,o e.a.a (.alloc [.str [],.nils] 145) 2,q (.store 2 (t e.a.a) (t e.b.f)) 3]).seq (((reg [m e.c.a e.c 0,f 0 e.c.b e.a.a 1,l e.c.c e.c.b 2,o e.c.f (.lookup true (.bool false) false (t e.c.a) (t e.c.c)) 3]).seq (NC.cond (t e.c.f) ((reg [o e.b (.move (k 5)) 0]).seq NC.ret) NC.skip)).seq (reg [m e.f.a e.c 0,f 0 e.f.b e.a.a 1,l e.f.c e.f.b 2,q (.mapUpdate true (t e.f.a) (t e.f.c) kt) 3])))).seq (reg [b e.f.f .add (t e.b.a) (k 1) 0,m e.b.a e.f.f 1]))))
noncomputable def Bk:NFun:=⟨(reg [o e.b (.move (k 0)) 0]).seq ((reg [o e.a.b (.mkMap) 0,m e.c e.a.b 1]).seq (((reg [m e.a.c e 0,L e.a.f e.a.c 1,o e.b.a (.move (k 0)) 2]).seq (NC.block 0 pZ.loop)).seq ((reg [o e.b (.move (k 0)) 0]).seq NC.ret))),21, [.tmp e.b]⟩
theorem uZ:ag Tryz.prog 203=some (.code Bk):=by kernel_rfl
noncomputable def Aq:NFun:=⟨(reg [o e.a (.box (t e) 58) 0,o e.b (.move (.const .nilf)) 1]).seq ((reg [o e.c (.mkFn 269 [t e.a]) 0,m e.b e.c 1]).seq NC.ret),4, [.tmp e.b]⟩
theorem qq:ag Tryz.prog 204=some (.code Aq):=by kernel_rfl
noncomputable def Au:NFun:=⟨(reg [o e.a (.box (t e) 229) 0,o e.b (.move kn) 1]).seq ((reg [o e.c (.move kn) 0]).seq (((reg [o e.f (.loadN 21 (t e.a)) 0,o e.a.a (.buildSlice [.int .i64 (.lit 0),.int .i64 (.lit 0),.int .i64 (.lit 0)] 1 3 3 [(0,1,k 0),(1,1,k 1),(2,1,k 3)]) 1,o e.a.b (.call (F 206) [t e.f,t e.a.a]) 2]).seq (NC.cond (t e.a.b) (reg [m e.a.c e.c 0,f 2 e.a.f e.a 1,l e.b.a e.a.f 2,o e.b.b (.buildSlice [.str []] 1 1 9 [(0,1,t e.b.a)]) 3,o e.b.c (.append 1 16 9 (t e.a.c) (t e.b.b)) 4,m e.c e.b.c 5]) NC.skip)).seq (((reg [o e.b.f (.loadN 21 (t e.a)) 0,o e.c.a (.buildSlice [.int .i64 (.lit 0),.int .i64 (.lit 0),.int .i64 (.lit 0)] 1 3 3 [(0,1,k 1),(1,1,k 2),(2,1,k 3)]) 1,o e.c.b (.call (F 206) [t e.b.f,t e.c.a]) 2]).seq (NC.cond (t e.c.b) (reg [m e.c.c e.c 0,f 4 e.c.f e.a 1,o e.f.a (.loadN 5 (t e.c.f)) 2,o e.f.b (.call (F 271) [t e.c.c,t e.f.a]) 3,m e.c e.f.b 4]) NC.skip)).seq (((reg [o e.f.c (.loadN 21 (t e.a)) 0,o e.f.f (.buildSlice [.int .i64 (.lit 0),.int .i64 (.lit 0),.int .i64 (.lit 0),.int .i64 (.lit 0),.int .i64 (.lit 0),.int .i64 (.lit 0)] 1 6 3 [(0,1,k 0),(1,1,k 2),(2,1,k 3),(3,1,k 5),(4,1,k 6),(5,1,k 7)]) 1,o e.a.a.a (.call (F 206) [t e.f.c,t e.f.f]) 2]).seq (NC.cond (t e.a.a.a) (reg [m e.a.a.b e.c 0,f 9 e.a.a.c e.a 1,o e.a.a.f (.loadN 5 (t e.a.a.c)) 2,o e.a.b.a (.call (F 271) [t e.a.a.b,t e.a.a.f]) 3,m e.c e.a.b.a 4]) NC.skip)).seq (((reg [f 0 e.a.b.b e.a 0,l e.a.b.c e.a.b.b 1,b e.a.b.f .eql (t e.a.b.c) (k 3) 2]).seq (NC.cond (t e.a.b.f) (reg [m e.a.c.a e.c 0,f 14 e.a.c.b e.a 1,o e.a.c.c (.loadN 5 (t e.a.c.b)) 2,o e.a.c.f (.call (F 271) [t e.a.c.a,t e.a.c.c]) 3,m e.c e.a.c.f 4]) NC.skip)).seq ((reg [m e.a.f.a e.c 0,m e.b e.a.f.a 1]).seq NC.ret)))))),34, [.tmp e.b]⟩
theorem wN:ag Tryz.prog 205=some (.code Au):=by kernel_rfl
noncomputable def zC:NFun:=⟨(reg [o e.b (.box (t e) 229) 0,o e.f (.move kf) 1]).seq ((reg [m e.a.a e.a 0,f 0 e.a.b e.b 1,l e.a.c e.a.b 2,o e.a.f (.call (F 272) [t e.a.a,t e.a.c]) 3,m e.f e.a.f 4]).seq NC.ret),9, [.tmp e.f]⟩
theorem p8:ag Tryz.prog 206=some (.code zC):=by kernel_rfl
noncomputable def zB:NFun:=⟨(reg [o e.f (.move kf) 0]).seq ((reg [m e.a.a e 0,m e.a.b e.a 1,o e.a.c (.call (F 273) [t e.a.a,t e.a.b]) 2,b e.a.f .geq (t e.a.c) (k 0) 3,m e.f e.a.f 4]).seq NC.ret),9, [.tmp e.f]⟩
theorem rB:ag Tryz.prog 207=some (.code zB):=by kernel_rfl
noncomputable def AY:NFun:=⟨(reg [o e.c (.move kf) 0]).seq ((reg [l e.f e.a 0,m e.a.a e 1,o e.a.b (.lookup true (.bool false) false (t e.f) (t e.a.a)) 2,m e.c e.a.b 3]).seq NC.ret),7, [.tmp e.c]⟩
theorem qW:ag Tryz.prog 208=some (.code AY):=by kernel_rfl
noncomputable def rg:NC:=((reg [b e.b.b .lss (t e.b.a) (t e.a.f) 0]).seq ((NC.cond (t e.b.b) NC.skip (NC.exit 0)).seq ((NC.block 1 ((reg [o e.b.c (.indexSlc 1 (t e.a.c) (t e.b.a)) 0,l e.b.f e.b.c 1,m e.a.b e.b.f 2]).seq ((reg [m e.c.a e 0,m e.c.b e.a.b 1,o e.c.c (.call (F 274) [t e.c.a,t e.c.b]) 2,o e.c.f (.un .not (t e.c.c)) 3]).seq (NC.cond (t e.c.f) (reg [m e.f.a e 0,m e.f.b e.a.b 1,o e.f.c (.buildSlice [.str []] 1 1 9 [(0,1,t e.f.b)]) 2,o e.f.f (.append 1 16 9 (t e.f.a) (t e.f.c)) 3,m e e.f.f 4]) NC.skip)))).seq (reg [b e.a.a.a .add (t e.b.a) (k 1) 0,m e.b.a e.a.a.a 1]))))
noncomputable def zo:NFun:=⟨(reg [o e.f (.move kn) 0]).seq (((reg [m e.a.c e.a 0,L e.a.f e.a.c 1,o e.b.a (.move (k 0)) 2]).seq (NC.block 0 rg.loop)).seq ((reg [m e.a.a.b e 0,m e.f e.a.a.b 1]).seq NC.ret)),23, [.tmp e.f]⟩
theorem qy:ag Tryz.prog 209=some (.code zo):=by kernel_rfl
noncomputable def wy:NC:=(reg [o e.f (.alloc [.int .i64 (.lit 0),.int .i64 (.lit 0),.str [],.str [],.int .i64 (.lit 0),.int .u64 (.lit 0),.int .u8 (.lit 0),.str [],.nils,.int .i64 (.lit 0),.int .u64 (.lit 0),.int .u8 (.lit 0),.str [],.nils,.int .i64 (.lit 0),.int .u64 (.lit 0),.int .u8 (.lit 0),.str [],.nils,.nils,.nils] 229) 0,q (.store 21 (t e.f) (t e.a.c)) 1])
noncomputable def sq:NC:=(NC.block 1 (regD [l e.a.f e.c 0,o e.b.a (.loadN 21 (t e.f)) 1,O e.b.b (.call (F 205) [t e.b.a]) 2 2,O e.b.c (.call (F 209) [t e.a.f,t e.b.b]) 7 3,⟨none,.store 1 (t e.c) (t e.b.c),none,15,4⟩]))
noncomputable def yL:NFun:=⟨(reg [o e.b (.move kn) 0]).seq ((reg [o e.c (.alloc [.nils] 68) 0]).seq (((reg [m e.a.a e 0,o e.a.b (.call (F 204) [t e.a.a]) 1]).seq (NC.block 0 (NC.rangeFunc (t e.a.b) [e.a.c] wy sq))).seq ((reg [l e.b.f e.c 0,m e.b e.b.f 1]).seq NC.ret))),13, [.tmp e.b]⟩
theorem ww:ag Tryz.prog 210=some (.code yL):=by kernel_rfl
noncomputable def u9:NC:=((reg [b e.b.a .lss (t e.a.f) (t e.a.c) 0]).seq ((NC.cond (t e.b.a) NC.skip (NC.exit 0)).seq ((NC.block 1 ((reg [o e.b.b (.indexSlc 21 (t e.a.b) (t e.a.f)) 0,o e.b.c (.loadN 21 (t e.b.b)) 1,o e.a.a (.alloc [.int .i64 (.lit 0),.int .i64 (.lit 0),.str [],.str [],.int .i64 (.lit 0),.int .u64 (.lit 0),.int .u8 (.lit 0),.str [],.nils,.int .i64 (.lit 0),.int .u64 (.lit 0),.int .u8 (.lit 0),.str [],.nils,.int .i64 (.lit 0),.int .u64 (.lit 0),.int .u8 (.lit 0),.str [],.nils,.nils,.nils] 229) 2,q (.store 21 (t e.a.a) (t e.b.c)) 3]).seq ((reg [f 0 e.b.f e.a.a 0,l e.c.a e.b.f 1]).seq (NC.block 2 ((reg [b e.c.c .eql (t e.c.a) (k 0) 0,m e.c.b e.c.c 1]).seq (NC.cond (t e.c.b) (regD [m e.c.f e 0,m e.f.a e 1,f 9 e.f.b e.a.a 2,O e.f.c (.loadN 5 (t e.f.b)) 4 3,m e.a.a.a e 5,f 2 e.a.a.b e.a.a 6,O e.a.a.c (.load1 (t e.a.a.b)) 64 7,O e.f.f (.call (F 275) [t e.f.a,t e.f.c]) 14 4,O e.a.a.f (.call (F 276) [t e.a.a.a,t e.a.a.c]) 254 8,O e.a.b.a (.build [.int .i64 (.lit 0),.int .i64 (.lit 0),.int .i64 (.lit 0),.int .i64 (.lit 0),.int .i64 (.lit 0),.int .i64 (.lit 0),.int .i64 (.lit 0),.int .u64 (.lit 0),.int .u8 (.lit 0)] [(0,1,k 1),(2,1,t e.f.f),(1,1,t e.a.a.f)]) 510 9,O e.a.b.b (.call (F 212) [t e.c.f,t e.a.b.a]) 1023 10]) (((reg [b e.a.b.f .eql (t e.c.a) (k 1) 0,m e.a.b.c e.a.b.f 1]).seq (NC.cond (t e.a.b.c) NC.skip ((reg [b e.a.c.a .eql (t e.c.a) (k 2) 0,m e.a.b.c e.a.c.a 1]).seq (NC.cond (t e.a.b.c) NC.skip (reg [b e.a.c.b .eql (t e.c.a) (k 3) 0,m e.a.b.c e.a.c.b 1]))))).seq (NC.cond (t e.a.b.c) (reg [m e.a.c.c e 0,o e.a.c.f (.loadN 21 (t e.a.a)) 1,o e.a.f.a (.call (F 277) [t e.a.c.c,t e.a.c.f]) 2]) ((reg [b e.a.f.c .eql (t e.c.a) (k 4) 0,m e.a.f.b e.a.f.c 1]).seq (NC.cond (t e.a.f.b) (reg [m e.a.f.f e 0,o e.b.a.a (.build [.int .i64 (.lit 0),.int .i64 (.lit 0),.int .i64 (.lit 0),.int .i64 (.lit 0),.int .i64 (.lit 0),.int .i64 (.lit 0),.int .i64 (.lit 0),.int .u64 (.lit 0),.int .u8 (.lit 0)] [(0,1,k 13)]) 1,o e.b.a.b (.call (F 212) [t e.a.f.f,t e.b.a.a]) 2]) ((reg [b e.b.a.f .eql (t e.c.a) (k 5) 0,m e.b.a.c e.b.a.f 1]).seq (NC.cond (t e.b.a.c) (reg [m e.b.b.a e 0,m e.b.b.b e 1,f 9 e.b.b.c e.a.a 2,o e.b.b.f (.loadN 5 (t e.b.b.c)) 3,o e.b.c.a (.call (F 275) [t e.b.b.b,t e.b.b.f]) 4,o e.b.c.b (.build [.int .i64 (.lit 0),.int .i64 (.lit 0),.int .i64 (.lit 0),.int .i64 (.lit 0),.int .i64 (.lit 0),.int .i64 (.lit 0),.int .i64 (.lit 0),.int .u64 (.lit 0),.int .u8 (.lit 0)] [(0,1,k 8),(2,1,t e.b.c.a)]) 5,o e.b.c.c (.call (F 212) [t e.b.b.a,t e.b.c.b]) 6]) ((reg [b e.b.f.a .eql (t e.c.a) (k 6) 0,m e.b.c.f e.b.f.a 1]).seq (NC.cond (t e.b.c.f) (reg [m e.b.f.b e 0,o e.b.f.c (.loadN 21 (t e.a.a)) 1,o e.b.f.f (.call (F 278) [t e.b.f.b,t e.b.f.c]) 2]) ((reg [b e.c.a.b .eql (t e.c.a) (k 7) 0,m e.c.a.a e.c.a.b 1]).seq (NC.cond (t e.c.a.a) (reg [m e.c.a.c e 0,o e.c.a.f (.loadN 21 (t e.a.a)) 1,o e.c.b.a (.call (F 279) [t e.c.a.c,t e.c.a.f]) 2]) NC.skip)))))))))))))))).seq (reg [b e.c.b.b .add (t e.a.f) (k 1) 0,m e.a.f e.c.b.b 1]))))
noncomputable def Be:NFun:=⟨(reg [m e.a.b e.a 0,L e.a.c e.a.b 1,o e.a.f (.move (k 0)) 2]).seq (NC.block 0 u9.loop),59, []⟩
theorem ul:ag Tryz.prog 211=some (.code Be):=by kernel_rfl
noncomputable def zV:NFun:=⟨(reg [o e.c (.box (t e.a) 236) 0]).seq (regD [m e.f e 0,m e.a.a e 1,O e.a.b (.nilCheck (t e.a.a)) 2 2,O e.a.c (.fieldAddr 2 (t e.a.b)) 6 3,O e.a.f (.fieldAddr 2 (t e.a.c)) 14 4,O e.b.a (.load1 (t e.a.f)) 30 5,o e.b.b (.loadN 9 (t e.c)) 6,O e.b.c (.buildSlice [.int .i64 (.lit 0),.int .i64 (.lit 0),.int .i64 (.lit 0),.int .i64 (.lit 0),.int .i64 (.lit 0),.int .i64 (.lit 0),.int .i64 (.lit 0),.int .u64 (.lit 0),.int .u8 (.lit 0)] 9 1 236 [(0,9,t e.b.b)]) 64 7,O e.b.f (.append 9 72 236 (t e.b.a) (t e.b.c)) 254 8,O e.c.a (.nilCheck (t e.f)) 511 9,O e.c.b (.fieldAddr 2 (t e.c.a)) 1023 10,O e.c.c (.fieldAddr 2 (t e.c.b)) 2047 11,⟨none,.store 1 (t e.c.c) (t e.b.f),none,4095,12⟩]),16, []⟩
theorem rh:ag Tryz.prog 212=some (.code zV):=by kernel_rfl
noncomputable def Ax:NFun:=⟨(reg [o e.a (.box (t e) 236) 0,o e.b (.move kf) 1]).seq ((reg [f 0 e.c e.a 0,l e.f e.c 1,b e.a.a .eql (t e.f) (k 3) 2,m e.a.b e.a.a 3,G e.a.c (.fieldAddr 0 (t e.a)) e.a.b false 4,G e.a.f (.load1 (t e.a.c)) e.a.b false 5,G e.b.a (.bin .num .eql (t e.a.f) (k 4)) e.a.b false 6,o e.b.b (.pick (t e.a.b) kt (t e.b.a)) 7,m e.b.c e.b.b 8,G e.b.f (.fieldAddr 0 (t e.a)) e.b.c false 9,G e.c.a (.load1 (t e.b.f)) e.b.c false 10,G e.c.b (.bin .num .eql (t e.c.a) (k 5)) e.b.c false 11,o e.c.c (.pick (t e.b.c) kt (t e.c.b)) 12,m e.b e.c.c 13]).seq NC.ret),16, [.tmp e.b]⟩
theorem sM:ag Tryz.prog 213=some (.code Ax):=by kernel_rfl
noncomputable def s8:NC:=((reg [b e.b.c .lss (t e.b.b) (t e.b.a) 0]).seq ((NC.cond (t e.b.c) NC.skip (NC.exit 0)).seq ((NC.block 1 ((reg [o e.b.f (.indexSlc 9 (t e.a.f) (t e.b.b)) 0,o e.c.a (.loadN 9 (t e.b.f)) 1,o e.a.b (.alloc [.int .i64 (.lit 0),.int .i64 (.lit 0),.int .i64 (.lit 0),.int .i64 (.lit 0),.int .i64 (.lit 0),.int .i64 (.lit 0),.int .i64 (.lit 0),.int .u64 (.lit 0),.int .u8 (.lit 0)] 236) 2,q (.store 9 (t e.a.b) (t e.c.a)) 3]).seq ((reg [o e.c.b (.loadN 9 (t e.a.b)) 0,o e.c.c (.call (F 213) [t e.c.b]) 1,m e.c.f e.c.c 2,G e.f.a (.fieldAddr 6 (t e.a.b)) e.c.f true 3,G e.f.b (.load1 (t e.f.a)) e.c.f true 4,G e.f.c (.move (t e.a)) e.c.f true 5,G e.f.f (.bin .num .eql (t e.f.b) (t e.f.c)) e.c.f true 6,o e.a.a.a (.pick (t e.c.f) (t e.f.f) kf) 7]).seq (NC.cond (t e.a.a.a) ((reg [o e.f (.move kt) 0]).seq NC.ret) NC.skip)))).seq (reg [b e.a.a.b .add (t e.b.b) (k 1) 0,m e.b.b e.a.a.b 1]))))
noncomputable def B9:NFun:=⟨(reg [o e.b (.box (t e) 81) 0,o e.f (.move kf) 1]).seq (((reg [f 2 e.a.c e.b 0,l e.a.f e.a.c 1,L e.b.a e.a.f 2,o e.b.b (.move (k 0)) 3]).seq (NC.block 0 s8.loop)).seq ((reg [o e.f (.move kf) 0]).seq NC.ret)),23, [.tmp e.f]⟩
theorem vR:ag Tryz.prog 214=some (.code B9):=by kernel_rfl
noncomputable def yY:NFun:=⟨(reg [o e.f (.move kf) 0]).seq (((reg [m e.a.b e 0,L e.a.c e.a.b 1,m e.a.f e.a 2,b e.b.a .sub (t e.a.c) (t e.a.f) 3,b e.b.b .lss (t e.b.a) (k 3) 4]).seq (NC.cond (t e.b.b) ((reg [o e.f (.move kf) 0]).seq NC.ret) NC.skip)).seq ((reg [m e.b.c e 0,m e.b.f e.a 1,b e.c.a .add (t e.b.f) (k 1) 2,o e.c.b (.indexSlc 9 (t e.b.c) (t e.c.a)) 3,o e.c.c (.loadN 9 (t e.c.b)) 4,o e.a.a (.alloc [.int .i64 (.lit 0),.int .i64 (.lit 0),.int .i64 (.lit 0),.int .i64 (.lit 0),.int .i64 (.lit 0),.int .i64 (.lit 0),.int .i64 (.lit 0),.int .u64 (.lit 0),.int .u8 (.lit 0)] 236) 5,q (.store 9 (t e.a.a) (t e.c.c)) 6]).seq ((regD [f 0 e.c.f e.a.a 0,O e.f.a (.load1 (t e.c.f)) 1 1,O e.f.b (.bin .num .eql (t e.f.a) (k 6)) 3 2,O e.f.c (.move (t e.f.b)) 7 3,⟨some e.f.f,.fieldAddr 2 (t e.a.a),some (e.f.c,true),15,4⟩,⟨some e.a.a.a,.load1 (t e.f.f),some (e.f.c,true),31,5⟩,⟨some e.a.a.b,.move (t e),some (e.f.c,true),15,6⟩,⟨some e.a.a.c,.move (t e.a),some (e.f.c,true),15,7⟩,⟨some e.a.a.f,.indexSlc 9 (t e.a.a.b) (t e.a.a.c),some (e.f.c,true),207,8⟩,⟨some e.a.b.a,.fieldAddr 2 (t e.a.a.f),some (e.f.c,true),463,9⟩,⟨some e.a.b.b,.load1 (t e.a.b.a),some (e.f.c,true),975,10⟩,⟨some e.a.b.c,.bin .num .eql (t e.a.a.a) (t e.a.b.b),some (e.f.c,true),2047,11⟩,O e.a.b.f (.pick (t e.f.c) (t e.a.b.c) kf) 4095 12,O e.a.c.a (.move (t e.a.b.f)) 8191 13,⟨some e.a.c.b,.fieldAddr 6 (t e.a.a),some (e.a.c.a,true),16383,14⟩,⟨some e.a.c.c,.load1 (t e.a.c.b),some (e.a.c.a,true),32767,15⟩,⟨some e.a.c.f,.move (t e),some (e.a.c.a,true),16383,16⟩,⟨some e.a.f.a,.move (t e.a),some (e.a.c.a,true),16383,17⟩,⟨some e.a.f.b,.indexSlc 9 (t e.a.c.f) (t e.a.f.a),some (e.a.c.a,true),212991,18⟩,⟨some e.a.f.c,.fieldAddr 6 (t e.a.f.b),some (e.a.c.a,true),475135,19⟩,⟨some e.a.f.f,.load1 (t e.a.f.c),some (e.a.c.a,true),999423,20⟩,⟨some e.b.a.a,.bin .num .eql (t e.a.c.c) (t e.a.f.f),some (e.a.c.a,true),2097151,21⟩,O e.b.a.b (.pick (t e.a.c.a) (t e.b.a.a) kf) 4194303 22,O e.b.a.c (.move (t e.b.a.b)) 8388607 23,⟨some e.b.a.f,.move (t e),some (e.b.a.c,true),16777215,24⟩,⟨some e.b.b.a,.move (t e.a),some (e.b.a.c,true),16777215,25⟩,⟨some e.b.b.b,.bin .num .add (t e.b.b.a) (k 2),some (e.b.a.c,true),50331647,26⟩,⟨some e.b.b.c,.indexSlc 9 (t e.b.a.f) (t e.b.b.b),some (e.b.a.c,true),134217727,27⟩,⟨some e.b.b.f,.fieldAddr 0 (t e.b.b.c),some (e.b.a.c,true),268435455,28⟩,⟨some e.b.c.a,.load1 (t e.b.b.f),some (e.b.a.c,true),536870911,29⟩,⟨some e.b.c.b,.bin .num .eql (t e.b.c.a) (k 7),some (e.b.a.c,true),1073741823,30⟩,O e.b.c.c (.pick (t e.b.a.c) (t e.b.c.b) kf) 2147483647 31,O e.f (.move (t e.b.c.c)) 4294967295 32]).seq NC.ret))),48, [.tmp e.f]⟩
theorem sD:ag Tryz.prog 215=some (.code yY):=by kernel_rfl
noncomputable def tZ:NC:=((reg [b e.f.b .lss (t e.f.a) (t e.c.f) 0]).seq ((NC.cond (t e.f.b) NC.skip (NC.exit 0)).seq ((NC.block 1 ((reg [o e.f.c (.indexSlc 9 (t e.c.c) (t e.f.a)) 0,o e.f.f (.loadN 9 (t e.f.c)) 1,o e.a.f (.alloc [.int .i64 (.lit 0),.int .i64 (.lit 0),.int .i64 (.lit 0),.int .i64 (.lit 0),.int .i64 (.lit 0),.int .i64 (.lit 0),.int .i64 (.lit 0),.int .u64 (.lit 0),.int .u8 (.lit 0)] 236) 2,q (.store 9 (t e.a.f) (t e.f.f)) 3]).seq (reg [m e.a.a.a e.a.b 0,o e.a.a.b (.loadN 9 (t e.a.f)) 1,o e.a.a.c (.call (F 281) [t e.a.a.a,t e.a.a.b]) 2]))).seq (reg [b e.a.a.f .add (t e.f.a) (k 1) 0,m e.f.a e.a.a.f 1]))))
noncomputable def AB:NFun:=⟨(reg [o e.b (.box (t e) 81) 0,o e.f (.move kn) 1,o e.a.a (.move kn) 2]).seq ((reg [m e.b.a e.a 0,o e.b.b (.loadN 3 (t e.b)) 1,o e.b.c (.call (F 280) [t e.b.b]) 2,o e.b.f (.build [.nils,.nils,.nils] [(0,1,t e.b.a),(2,1,t e.b.c)]) 3,o e.c.a (.box (t e.b.f) 357) 4,m e.a.b e.c.a 5]).seq (((reg [f 2 e.c.b e.b 0,l e.c.c e.c.b 1,L e.c.f e.c.c 2,o e.f.a (.move (k 0)) 3]).seq (NC.block 0 tZ.loop)).seq ((reg [m e.a.b.a e.a.b 0,o e.a.b.b (.build [.int .i64 (.lit 0),.int .i64 (.lit 0),.int .i64 (.lit 0),.int .i64 (.lit 0),.int .i64 (.lit 0),.int .i64 (.lit 0),.int .i64 (.lit 0)] [(0,1,k 22)]) 1,o e.a.b.c (.call (F 282) [t e.a.b.a,t e.a.b.b]) 2]).seq ((regD [m e.a.b.f e.a.b 0,O e.a.c.a (.nilCheck (t e.a.b.f)) 1 1,O e.a.c.b (.fieldAddr 1 (t e.a.c.a)) 3 2,O e.a.c.c (.load1 (t e.a.c.b)) 7 3,m e.a.c.f e.a.b 4,O e.a.f.a (.nilCheck (t e.a.c.f)) 16 5,O e.a.f.b (.fieldAddr 2 (t e.a.f.a)) 48 6,O e.a.f.c (.load1 (t e.a.f.b)) 112 7,O e.f (.move (t e.a.c.c)) 15 8,O e.a.a (.move (t e.a.f.c)) 511 9]).seq NC.ret)))),36, [.tmp e.f,.tmp e.a.a]⟩
theorem vg:ag Tryz.prog 216=some (.code AB):=by kernel_rfl
noncomputable def tC:NC:=((reg [b e.a.a.a .lss (t e.f.f) (t e.f.c) 0]).seq ((NC.cond (t e.a.a.a) NC.skip (NC.exit 0)).seq ((NC.block 1 ((reg [o e.a.a.b (.indexSlc 1 (t e.f.b) (t e.f.f)) 0,l e.a.a.c e.a.a.b 1,m e.a.c e.a.a.c 2]).seq (reg [m e.a.a.f e.a.a 0,m e.a.b.a e.a.c 1,o e.a.b.b (.call (F 285) [t e.a.a.f,t e.a.b.a]) 2]))).seq (reg [b e.a.b.c .add (t e.f.f) (k 1) 0,m e.f.f e.a.b.c 1]))))
noncomputable def Cd:NFun:=⟨(reg [o e.f (.move kn) 0]).seq ((regD [m e.a.f e 0,m e.b.a e 1,O e.b.b (.lenSlc (t e.b.a)) 2 2,O e.b.c (.mkSlice [.bool false,.int .i64 (.lit 0)] 2 16 246 (t e.b.b) (t e.b.b)) 6 3,m e.b.f e.a 4,O e.c.a (.call (F 283) [t e.b.f]) 16 5,O e.c.b (.mkSlice [.bool false] 1 1 4 (t e.c.a) (t e.c.a)) 48 6,O e.c.c (.build [.nils,.nils,.nils,.nils,.int .i64 (.lit 0)] [(0,1,t e.a.f),(1,1,t e.b.c),(3,1,t e.c.b)]) 127 7,O e.c.f (.box (t e.c.c) 360) 255 8,O e.a.a (.move (t e.c.f)) 511 9]).seq (((reg [m e.f.a e.a.a 0,o e.f.b (.call (F 284) [t e.f.a]) 1,L e.f.c e.f.b 2,o e.f.f (.move (k 0)) 3]).seq (NC.block 0 tC.loop)).seq ((reg [m e.a.b.f e.a.a 0,n e.a.c.a e.a.b.f 1,f 1 e.a.c.b e.a.c.a 2,l e.a.c.c e.a.c.b 3,m e.f e.a.c.c 4]).seq NC.ret))),32, [.tmp e.f]⟩
theorem vO:ag Tryz.prog 217=some (.code Cd):=by kernel_rfl
noncomputable def sy:NC:=(reg [m e.a.c e.a.f.b 0])
noncomputable def qa:NC:=(NC.block 5 (reg [l e.a.f.c e.c 0,m e.a.f.f e.a.c 1,l e.b.a.a e.a.a 2,o e.b.a.b (.call (F 287) [t e.a.f.c,t e.a.f.f,t e.b.a.a]) 3]))
noncomputable def pT:NC:=((reg [b e.f.a .lss (t e.c.f) (t e.c.c) 0]).seq ((NC.cond (t e.f.a) NC.skip (NC.exit 0)).seq ((NC.block 1 ((reg [m e.f.b e.c.f 0,m e.f e.f.b 1]).seq (reg [l e.f.c e.c 0,m e.f.f e.f 1,o e.a.a.a (.indexSlc 2 (t e.f.c) (t e.f.f)) 2,f 0 e.a.a.b e.a.a.a 3,q (.store 1 (t e.a.a.b) (k (-1))) 4]))).seq (reg [b e.a.a.c .add (t e.c.f) (k 1) 0,m e.c.f e.a.a.c 1]))))
noncomputable def vv:NC:=((reg [b e.c.a.c .lss (t e.c.a.b) (t e.c.a.a) 0]).seq ((NC.cond (t e.c.a.c) NC.skip (NC.exit 6)).seq ((NC.block 7 ((reg [m e.c.a.f e.c.a.b 0,m e.a.f e.c.a.f 1]).seq ((reg [f 2 e.c.b.a e.a 0,l e.c.b.b e.c.b.a 1,L e.c.b.c e.c.b.b 2,b e.c.b.f .gtr (t e.c.b.c) (k 0) 3]).seq (NC.cond (t e.c.b.f) (reg [l e.c.c.a e.c 0,m e.c.c.b e.a.f 1,f 2 e.c.c.c e.a 2,l e.c.c.f e.c.c.c 3,L e.c.f.a e.c.c.f 4,b e.c.f.b .sub (t e.c.f.a) (k 1) 5,o e.c.f.c (.build [.int .i64 (.lit 0),.int .i64 (.lit 0)] [(0,1,k 0),(1,1,t e.c.f.b)]) 6,o e.c.f.f (.indexSlc 2 (t e.c.c.a) (t e.c.c.b)) 7,q (.store 2 (t e.c.f.f) (t e.c.f.c)) 8]) NC.skip)))).seq (reg [b e.f.a.a .add (t e.c.a.b) (k 1) 0,m e.c.a.b e.f.a.a 1]))))
noncomputable def wp:NC:=((reg [b e.a.b.f .lss (t e.a.b.c) (t e.a.b.b) 0]).seq ((NC.cond (t e.a.b.f) NC.skip (NC.exit 2)).seq ((NC.block 3 ((reg [m e.a.c.a e.a.b.c 0,o e.a.c.b (.indexSlc 9 (t e.a.b.a) (t e.a.b.c)) 1,o e.a.c.c (.loadN 9 (t e.a.c.b)) 2,o e.a.a (.alloc [.int .i64 (.lit 0)] 3) 3,o e.a.b (.alloc [.int .i64 (.lit 0),.int .i64 (.lit 0),.int .i64 (.lit 0),.int .i64 (.lit 0),.int .i64 (.lit 0),.int .i64 (.lit 0),.int .i64 (.lit 0),.int .u64 (.lit 0),.int .u8 (.lit 0)] 236) 4,q (.store 1 (t e.a.a) (t e.a.c.a)) 5,q (.store 9 (t e.a.b) (t e.a.c.c)) 6]).seq (((reg [o e.a.c.f (.loadN 9 (t e.a.b)) 0,o e.a.f.a (.call (F 286) [t e.a.c.f]) 1]).seq (NC.block 4 (NC.rangeFunc (t e.a.f.a) [e.a.f.b] sy qa))).seq (regD [l e.b.a.c e.c 0,o e.b.a.f (.loadN 9 (t e.a.b)) 1,l e.b.b.b e.a.a 3,O e.b.b.a (.call (F 288) [t e.b.a.f]) 2 2,O e.b.b.c (.call (F 287) [t e.b.a.c,t e.b.b.a,t e.b.b.b]) 15 4])))).seq (reg [b e.b.b.f .add (t e.a.b.c) (k 1) 0,m e.a.b.c e.b.b.f 1]))))
noncomputable def AS:NFun:=⟨(reg [o e.a (.box (t e) 81) 0,o e.b (.move kn) 1]).seq ((reg [f 0 e.b.a e.a 0,l e.b.b e.b.a 1,o e.b.c (.minmax false [t e.b.b,k 400]) 2,o e.b.f (.minmax true [k 0,t e.b.c]) 3,o e.c.a (.mkSlice [.int .i64 (.lit 0),.int .i64 (.lit 0)] 2 16 244 (t e.b.f) (t e.b.f)) 4,o e.c (.alloc [.nils] 362) 5,q (.store 1 (t e.c) (t e.c.a)) 6]).seq (((reg [l e.c.b e.c 0,L e.c.c e.c.b 1,o e.c.f (.move (k 0)) 2]).seq (NC.block 0 pT.loop)).seq (((reg [f 2 e.a.a.f e.a 0,l e.a.b.a e.a.a.f 1,L e.a.b.b e.a.b.a 2,o e.a.b.c (.move (k 0)) 3]).seq (NC.block 2 wp.loop)).seq (((reg [l e.b.c.a e.c 0,f 1 e.b.c.b e.a 1,l e.b.c.c e.b.c.b 2,l e.b.c.f e.c 3,L e.b.f.a e.b.c.f 4,o e.b.f.b (.minmax false [t e.b.c.c,t e.b.f.a]) 5,o e.b.f.c (.minmax true [k 0,t e.b.f.b]) 6,o e.b.f.f (.sliceSlc 2 (t e.b.c.a) none (some (t e.b.f.c))) 7,L e.c.a.a e.b.f.f 8,o e.c.a.b (.move (k 0)) 9]).seq (NC.block 6 vv.loop)).seq ((reg [l e.f.a.b e.c 0,m e.b e.f.a.b 1]).seq NC.ret))))),71, [.tmp e.b]⟩
theorem tB:ag Tryz.prog 218=some (.code AS):=by kernel_rfl
noncomputable def tW:NC:=((reg [b e.b.f .lss (t e.b.c) (t e.b.b) 0]).seq ((NC.cond (t e.b.f) NC.skip (NC.exit 0)).seq ((NC.block 1 ((reg [m e.c.a e.b.c 0,o e.c.b (.indexSlc 7 (t e.b.a) (t e.b.c)) 1,o e.c.c (.loadN 7 (t e.c.b)) 2,o e.a.f (.alloc [.int .i64 (.lit 0),.int .i64 (.lit 0),.int .i64 (.lit 0),.int .i64 (.lit 0),.int .i64 (.lit 0),.int .i64 (.lit 0),.int .i64 (.lit 0)] 182) 3,m e.a.c e.c.a 4,q (.store 7 (t e.a.f) (t e.c.c)) 5]).seq (((reg [o e.c.f (.loadN 7 (t e.a.f)) 0,o e.f.a (.call (F 289) [t e.c.f]) 1,m e.f.b e.f.a 2,G e.f.c (.fieldAddr 3 (t e.a.f)) e.f.b true 3,G e.f.f (.load1 (t e.f.c)) e.f.b true 4,G e.a.a.a (.bin .num .eql (t e.f.f) (k 1)) e.f.b true 5,o e.a.a.b (.pick (t e.f.b) (t e.a.a.a) kf) 6]).seq (NC.cond (t e.a.a.b) (((reg [f 6 e.a.a.c e.a.f 0,l e.a.a.f e.a.a.c 1,b e.a.b.a .lss (t e.a.a.f) (k 0) 2,m e.a.b.b e.a.b.a 3,G e.a.b.c (.fieldAddr 6 (t e.a.f)) e.a.b.b false 4,G e.a.b.f (.load1 (t e.a.b.c)) e.a.b.b false 5,G e.a.c.a (.move (t e.a)) e.a.b.b false 6,G e.a.c.b (.lenSlc (t e.a.c.a)) e.a.b.b false 7,G e.a.c.c (.bin .num .geq (t e.a.b.f) (t e.a.c.b)) e.a.b.b false 8,o e.a.c.f (.pick (t e.a.b.b) kt (t e.a.c.c)) 9,m e.a.f.a e.a.c.f 10,G e.a.f.b (.move (t e.a)) e.a.f.a false 11,G e.a.f.c (.fieldAddr 6 (t e.a.f)) e.a.f.a false 12,G e.a.f.f (.load1 (t e.a.f.c)) e.a.f.a false 13,G e.b.a.a (.indexSlc 1 (t e.a.f.b) (t e.a.f.f)) e.a.f.a false 14,G e.b.a.b (.load1 (t e.b.a.a)) e.a.f.a false 15,G e.b.a.c (.bin .num .lss (t e.b.a.b) (k 0)) e.a.f.a false 16,o e.b.a.f (.pick (t e.a.f.a) kt (t e.b.a.c)) 17,m e.b.b.a e.b.a.f 18,G e.b.b.b (.move (t e.a)) e.b.b.a false 19,G e.b.b.c (.fieldAddr 6 (t e.a.f)) e.b.b.a false 20,G e.b.b.f (.load1 (t e.b.b.c)) e.b.b.a false 21,G e.b.c.a (.indexSlc 1 (t e.b.b.b) (t e.b.b.f)) e.b.b.a false 22,G e.b.c.b (.load1 (t e.b.c.a)) e.b.b.a false 23,G e.b.c.c (.move (t e)) e.b.b.a false 24,G e.b.c.f (.lenSlc (t e.b.c.c)) e.b.b.a false 25,G e.b.f.a (.bin .num .gtr (t e.b.c.b) (t e.b.c.f)) e.b.b.a false 26,o e.b.f.b (.pick (t e.b.b.a) kt (t e.b.f.a)) 27]).seq (NC.cond (t e.b.f.b) ((reg [o e.f (.move kn) 0,o e.a.a (.move (k 10)) 1]).seq NC.ret) NC.skip)).seq ((regD [m e.b.f.c e.a 0,f 6 e.b.f.f e.a.f 1,O e.c.a.a (.load1 (t e.b.f.f)) 2 2,O e.c.a.b (.indexSlc 1 (t e.b.f.c) (t e.c.a.a)) 7 3,O e.c.a.c (.load1 (t e.c.a.b)) 15 4,m e.c.a.f e.a.c 5,O e.c.b.a (.bin .num .sub (t e.c.a.c) (t e.c.a.f)) 63 6,O e.c.b.b (.fieldAddr 3 (t e.a.f)) 6 7,⟨none,.store 1 (t e.c.b.b) (k 0),none,134,8⟩,O e.c.b.c (.fieldAddr 6 (t e.a.f)) 511 9,⟨none,.store 1 (t e.c.b.c) (t e.c.b.a),none,1023,10⟩]).seq ((reg [o e.c.b.f (.loadN 7 (t e.a.f)) 0,o e.c.c.a (.call (F 168) [t e.c.b.f]) 1,o e.c.c.b (.un .not (t e.c.c.a)) 2]).seq (NC.cond (t e.c.c.b) ((reg [o e.f (.move kn) 0,o e.a.a (.move (k 10)) 1]).seq NC.ret) NC.skip)))) NC.skip)).seq (reg [m e.c.c.c e.a.b 0,o e.c.c.f (.loadN 7 (t e.a.f)) 1,o e.c.f.a (.buildSlice [.int .i64 (.lit 0),.int .i64 (.lit 0),.int .i64 (.lit 0),.int .i64 (.lit 0),.int .i64 (.lit 0),.int .i64 (.lit 0),.int .i64 (.lit 0)] 7 1 182 [(0,7,t e.c.c.f)]) 2,o e.c.f.b (.append 7 56 182 (t e.c.c.c) (t e.c.f.a)) 3,m e.a.b e.c.f.b 4])))).seq (reg [b e.c.f.c .add (t e.b.c) (k 1) 0,m e.b.c e.c.f.c 1]))))
noncomputable def zw:NFun:=⟨(reg [o e.f (.move kn) 0,o e.a.a (.move (k 0)) 1]).seq ((reg [o e.a.b (.move kn) 0]).seq (((reg [m e.b.a e 0,L e.b.b e.b.a 1,o e.b.c (.move (k 0)) 2]).seq (NC.block 0 tW.loop)).seq ((reg [m e.c.f.f e.a.b 0,m e.f e.c.f.f 1,o e.a.a (.move (k 0)) 2]).seq NC.ret))),69, [.tmp e.f,.tmp e.a.a]⟩
theorem rL:ag Tryz.prog 219=some (.code zw):=by kernel_rfl
noncomputable def uu:NC:=((reg [b e.b.f .lss (t e.b.c) (t e.b.b) 0]).seq ((NC.cond (t e.b.f) NC.skip (NC.exit 0)).seq ((NC.block 1 ((reg [o e.c.a (.indexSlc 7 (t e.b.a) (t e.b.c)) 0,o e.c.b (.loadN 7 (t e.c.a)) 1,o e.a.b (.alloc [.int .i64 (.lit 0),.int .i64 (.lit 0),.int .i64 (.lit 0),.int .i64 (.lit 0),.int .i64 (.lit 0),.int .i64 (.lit 0),.int .i64 (.lit 0)] 182) 2,q (.store 7 (t e.a.b) (t e.c.b)) 3]).seq ((reg [o e.c.f (.loadN 7 (t e.a.b)) 0,o e.f.a (.call (F 290) [t e.c.f]) 1,m e.c.c e.f.a 2,x e.f.b e.c.c 0 3,x e.f.c e.c.c 1 4,m e.a.c e.f.b 5,m e.a.f e.f.c 6]).seq (((reg [m e.f.f e.a.f 0,b e.a.a.a .neq (t e.f.f) (k 0) 1]).seq (NC.cond (t e.a.a.a) ((reg [m e.a.a.b e.a.f 0,o e.b (.move kn) 1,m e.c e.a.a.b 2]).seq NC.ret) NC.skip)).seq (reg [m e.a.a.c e.f 0,m e.a.a.f e.a.c 1,o e.a.b.a (.buildSlice [.int .u32 (.lit 0)] 1 1 75 [(0,1,t e.a.a.f)]) 2,o e.a.b.b (.append 1 4 75 (t e.a.a.c) (t e.a.b.a)) 3,m e.f e.a.b.b 4]))))).seq (reg [b e.a.b.c .add (t e.b.c) (k 1) 0,m e.b.c e.a.b.c 1]))))
noncomputable def B8:NFun:=⟨(reg [o e.b (.move kn) 0,o e.c (.move (k 0)) 1]).seq ((reg [o e.f (.move kn) 0]).seq (((reg [m e.b.a e 0,L e.b.b e.b.a 1,o e.b.c (.move (k 0)) 2]).seq (NC.block 0 uu.loop)).seq ((reg [m e.a.b.f e.f 0,m e.b e.a.b.f 1,o e.c (.move (k 0)) 2]).seq NC.ret))),29, [.tmp e.b,.tmp e.c]⟩
theorem rA:ag Tryz.prog 220=some (.code B8):=by kernel_rfl
noncomputable def tq:NC:=((reg [b e.b.a.c .lss (t e.b.a.b) (t e.b.a.a) 0]).seq ((NC.cond (t e.b.a.c) NC.skip (NC.exit 0)).seq ((NC.block 1 ((reg [o e.b.a.f (.indexSlc 1 (t e.a.f.f) (t e.b.a.b)) 0,l e.b.b.a e.b.a.f 1,m e.f e.b.b.a 2]).seq ((reg [m e.b.b.b e.f 0,b e.b.b.c .lss (t e.b.b.b) (k 0) 1,m e.b.b.f e.b.b.c 2,G e.b.c.a (.move (t e.f)) e.b.b.f false 3,G e.b.c.b (.fieldAddr 3 (t e.a)) e.b.b.f false 4,G e.b.c.c (.load1 (t e.b.c.b)) e.b.b.f false 5,G e.b.c.f (.lenSlc (t e.b.c.c)) e.b.b.f false 6,G e.b.f.a (.bin .num .geq (t e.b.c.a) (t e.b.c.f)) e.b.b.f false 7,o e.b.f.b (.pick (t e.b.b.f) kt (t e.b.f.a)) 8]).seq (NC.cond (t e.b.f.b) ((reg [o e.b (.move kf) 0]).seq NC.ret) NC.skip)))).seq (reg [b e.b.f.c .add (t e.b.a.b) (k 1) 0,m e.b.a.b e.b.f.c 1]))))
noncomputable def Al:NFun:=⟨(reg [o e.a (.box (t e) 28) 0,o e.b (.move kf) 1]).seq (((reg [f 0 e.a.a e.a 0,l e.a.b e.a.a 1,b e.a.c .lss (t e.a.b) (k 0) 2,m e.a.f e.a.c 3,G e.b.a (.fieldAddr 0 (t e.a)) e.a.f false 4,G e.b.b (.load1 (t e.b.a)) e.a.f false 5,G e.b.c (.bin .num .gtr (t e.b.b) (k 64)) e.a.f false 6,o e.b.f (.pick (t e.a.f) kt (t e.b.c)) 7,m e.c.a e.b.f 8,G e.c.b (.fieldAddr 2 (t e.a)) e.c.a false 9,G e.c.c (.load1 (t e.c.b)) e.c.a false 10,G e.c.f (.lenSlc (t e.c.c)) e.c.a false 11,G e.f.a (.bin .num .lss (t e.c.f) (k 1)) e.c.a false 12,o e.f.b (.pick (t e.c.a) kt (t e.f.a)) 13,m e.f.c e.f.b 14,G e.f.f (.fieldAddr 2 (t e.a)) e.f.c false 15,G e.a.a.a (.load1 (t e.f.f)) e.f.c false 16,G e.a.a.b (.lenSlc (t e.a.a.a)) e.f.c false 17,G e.a.a.c (.bin .num .gtr (t e.a.a.b) (k 4)) e.f.c false 18,o e.a.a.f (.pick (t e.f.c) kt (t e.a.a.c)) 19,m e.a.b.a e.a.a.f 20,G e.a.b.b (.fieldAddr 3 (t e.a)) e.a.b.a false 21,G e.a.b.c (.load1 (t e.a.b.b)) e.a.b.a false 22,G e.a.b.f (.lenSlc (t e.a.b.c)) e.a.b.a false 23,G e.a.c.a (.bin .num .gtr (t e.a.b.f) (k 20000)) e.a.b.a false 24,o e.a.c.b (.pick (t e.a.b.a) kt (t e.a.c.a)) 25]).seq (NC.cond (t e.a.c.b) ((reg [o e.b (.move kf) 0]).seq NC.ret) NC.skip)).seq (((reg [f 1 e.a.c.c e.a 0,l e.a.c.f e.a.c.c 1,o e.a.f.a (.buildSlice [.int .i64 (.lit 0)] 1 1 3 [(0,1,t e.a.c.f)]) 2,f 2 e.a.f.b e.a 3,l e.a.f.c e.a.f.b 4,o e.a.f.f (.append 1 8 3 (t e.a.f.a) (t e.a.f.c)) 5,L e.b.a.a e.a.f.f 6,o e.b.a.b (.move (k 0)) 7]).seq (NC.block 0 tq.loop)).seq ((reg [f 3 e.b.f.f e.a 0,l e.c.a.a e.b.f.f 1,o e.c.a.b (.call (F 291) [t e.c.a.a]) 2,m e.b e.c.a.b 3]).seq NC.ret))),55, [.tmp e.b]⟩
theorem uE:ag Tryz.prog 221=some (.code Al):=by kernel_rfl
noncomputable def Bt:NFun:=⟨(reg [o e.b (.alloc [.int .i64 (.lit 0),.int .i64 (.lit 0)] 258) 0]).seq ((reg [m e.c e 0,o e.f (.build [.int .i64 (.lit 0),.int .i64 (.lit 0)] [(0,1,t e.c),(1,1,k 5)]) 1,q (.store 2 (t e.b) (t e.f)) 2]).seq NC.ret),5, [.cellN e.b 2]⟩
theorem uQ:ag Tryz.prog 241=some (.code Bt):=by kernel_rfl
noncomputable def AT:NFun:=⟨(reg [o e.c (.alloc [.int .u32 (.lit 0),.int .i64 (.lit 0),.int .i64 (.lit 0),.int .i64 (.lit 0),.int .i64 (.lit 0),.int .i64 (.lit 0),.int .i64 (.lit 0),.int .i64 (.lit 0),.int .i64 (.lit 0),.int .i64 (.lit 0),.int .i64 (.lit 0),.int .i64 (.lit 0),.int .i64 (.lit 0),.bool false,.bool false] 260) 0]).seq ((reg [m e.f e 0,o e.a.a (.loadN 2 (t e.a)) 1,o e.a.b (.build [.int .i64 (.lit 0),.int .i64 (.lit 0)] [(0,1,k 21),(1,1,k 2)]) 2,o e.a.c (.build [.int .i64 (.lit 0),.int .i64 (.lit 0)] [(0,1,k 5),(1,1,k 16)]) 3,o e.a.f (.build [.int .u32 (.lit 0),.int .i64 (.lit 0),.int .i64 (.lit 0),.int .i64 (.lit 0),.int .i64 (.lit 0),.int .i64 (.lit 0),.int .i64 (.lit 0),.int .i64 (.lit 0),.int .i64 (.lit 0),.int .i64 (.lit 0),.int .i64 (.lit 0),.int .i64 (.lit 0),.int .i64 (.lit 0),.bool false,.bool false] [(0,1,t e.f),(1,2,t e.a.a),(7,2,t e.a.b),(9,2,t e.a.c)]) 4,q (.store 15 (t e.c) (t e.a.f)) 5]).seq NC.ret),9, [.cellN e.c 15]⟩
theorem vG:ag Tryz.prog 242=some (.code AT):=by kernel_rfl
noncomputable def AP:NFun:=⟨(reg [o e.a.a (.alloc [.int .u32 (.lit 0),.int .i64 (.lit 0),.int .i64 (.lit 0),.int .i64 (.lit 0),.int .i64 (.lit 0),.int .i64 (.lit 0),.int .i64 (.lit 0),.int .i64 (.lit 0),.int .i64 (.lit 0),.int .i64 (.lit 0),.int .i64 (.lit 0),.int .i64 (.lit 0),.int .i64 (.lit 0),.bool false,.bool false] 260) 0]).seq ((reg [m e.a.b e 0,o e.a.c (.loadN 2 (t e.a)) 1,o e.a.f (.loadN 2 (t e.b)) 2,o e.b.a (.loadN 2 (t e.c)) 3,o e.b.b (.build [.int .u32 (.lit 0),.int .i64 (.lit 0),.int .i64 (.lit 0),.int .i64 (.lit 0),.int .i64 (.lit 0),.int .i64 (.lit 0),.int .i64 (.lit 0),.int .i64 (.lit 0),.int .i64 (.lit 0),.int .i64 (.lit 0),.int .i64 (.lit 0),.int .i64 (.lit 0),.int .i64 (.lit 0),.bool false,.bool false] [(0,1,t e.a.b),(1,2,t e.a.c),(3,2,t e.a.f),(5,2,t e.b.a)]) 4,q (.store 15 (t e.a.a) (t e.b.b)) 5]).seq NC.ret),11, [.cellN e.a.a 15]⟩
theorem uo:ag Tryz.prog 243=some (.code AP):=by kernel_rfl
noncomputable def z0:NFun:=⟨(reg [o e.b (.alloc [.int .u32 (.lit 0),.int .i64 (.lit 0),.int .i64 (.lit 0),.int .i64 (.lit 0),.int .i64 (.lit 0),.int .i64 (.lit 0),.int .i64 (.lit 0),.int .i64 (.lit 0),.int .i64 (.lit 0),.int .i64 (.lit 0),.int .i64 (.lit 0),.int .i64 (.lit 0),.int .i64 (.lit 0),.bool false,.bool false] 260) 0]).seq ((reg [m e.c e 0,o e.f (.call (F 241) [k 0]) 1,o e.a.a (.build [.int .i64 (.lit 0),.int .i64 (.lit 0)] [(0,1,k 5),(1,1,k 19)]) 2,o e.a.b (.build [.int .u32 (.lit 0),.int .i64 (.lit 0),.int .i64 (.lit 0),.int .i64 (.lit 0),.int .i64 (.lit 0),.int .i64 (.lit 0),.int .i64 (.lit 0),.int .i64 (.lit 0),.int .i64 (.lit 0),.int .i64 (.lit 0),.int .i64 (.lit 0),.int .i64 (.lit 0),.int .i64 (.lit 0),.bool false,.bool false] [(0,1,t e.c),(3,2,t e.f),(9,2,t e.a.a),(13,1,.const (.bool true))]) 3,q (.store 15 (t e.b) (t e.a.b)) 4]).seq NC.ret),7, [.cellN e.b 15]⟩
theorem sr:ag Tryz.prog 244=some (.code z0):=by kernel_rfl
noncomputable def Ak:NFun:=⟨(reg [o e.f (.alloc [.int .u32 (.lit 0),.int .i64 (.lit 0),.int .i64 (.lit 0),.int .i64 (.lit 0),.int .i64 (.lit 0),.int .i64 (.lit 0),.int .i64 (.lit 0),.int .i64 (.lit 0),.int .i64 (.lit 0),.int .i64 (.lit 0),.int .i64 (.lit 0),.int .i64 (.lit 0),.int .i64 (.lit 0),.bool false,.bool false] 260) 0]).seq ((reg [m e.a.a e 0,o e.a.b (.loadN 2 (t e.a)) 1,o e.a.c (.loadN 2 (t e.b)) 2,o e.a.f (.build [.int .i64 (.lit 0),.int .i64 (.lit 0)] [(0,1,k 10),(1,1,k 12)]) 3,o e.b.a (.build [.int .u32 (.lit 0),.int .i64 (.lit 0),.int .i64 (.lit 0),.int .i64 (.lit 0),.int .i64 (.lit 0),.int .i64 (.lit 0),.int .i64 (.lit 0),.int .i64 (.lit 0),.int .i64 (.lit 0),.int .i64 (.lit 0),.int .i64 (.lit 0),.int .i64 (.lit 0),.int .i64 (.lit 0),.bool false,.bool false] [(0,1,t e.a.a),(1,2,t e.a.b),(3,2,t e.a.c),(9,2,t e.a.f)]) 4,q (.store 15 (t e.f) (t e.b.a)) 5]).seq NC.ret),10, [.cellN e.f 15]⟩
theorem ra:ag Tryz.prog 245=some (.code Ak):=by kernel_rfl
end WR
