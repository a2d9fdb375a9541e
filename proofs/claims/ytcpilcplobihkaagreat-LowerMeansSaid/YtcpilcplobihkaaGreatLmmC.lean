/- A machine that runs the given program with memory and order of evaluation taken apart from the model's, the proof that what it answers is what the model answers, and rules to reason of its runs. Part 3 of 4. -/
import Derived.Below
import Derived.Test.YtcpilcplobihkaaGreatLmmB
set_option linter.unusedVariables false
namespace Nm
open Go
section
variable {P:Program} {S:Nat->List NV->Option NV} {B:Nat}
theorem kH {f:Nat} {nf:NFun} (h:an P f=some (.code nf)):∃fn c,P.funcs[f]? =some fn/\fn.body=some c/\fn.name≠ "runtime.NumGoroutine" /\dk P c=some nf.body/\dL P fn.results.toList=some nf.results:=by
 unfold an at h
 split at h
 ·rename_i fn hfn
  cases hn:(fn.name== "runtime.NumGoroutine") with
  |true=>rw[hn] at h;cases h
  |false=>
   rw[hn] at h
   simp only[cond_false] at h
   split at h
   ·rename_i c hb
    split at h
    ·rename_i nb nr h1 h2
     rw[ai] at h
     cases h
     exact ⟨fn,c,hfn,hb,by simpa using hn,h1,h2⟩
    ·cases h
   ·split at h<;>cases h
 ·cases h
theorem nZ {f:Nat} {fn:Func} {c:Code} (hf:P.funcs[f]? =some fn) (hb:fn.body=some c) (hn:fn.name≠ "runtime.NumGoroutine") (args:Array Value) (w:World):(callFunc f args).run P w= .ok (.enter f args) w:=by
 simp[callFunc,hf,hb,hn]
noncomputable def ew:List NV->Nat->Tm->Tm
 | [],_,t=>t
 |v::vs,k,t=>ew vs (k+1) (NT.put (D4.of k) v t)
theorem Jb {R:Type} (vs:List NV) (K:Tm->R):Iz vs K=K (ew vs 0 .leaf):=by
 have go:∀(vs:List NV) (k:Nat) (t:Tm),(List.rec (motive:=fun _=>D4->Tm->R) (fun _ t=>K t) (fun v _ ih k t=>NT.set k v t fun t=>k.succ fun k=>ih k t) vs (D4.of k) t:R)=K (ew vs k t):=by
  intro vs
  induction vs with
  |nil=>intro k t;rfl
  |cons v vs ih=>
   intro k t
   have e:(List.rec (motive:=fun _=>D4->Tm->R) (fun _ t=>K t) (fun v _ ih k t=>NT.set k v t fun t=>k.succ fun k=>ih k t) (v::vs) (D4.of k) t:R)=
    NT.set (D4.of k) v t fun t=>(D4.of k).succ fun k=>(List.rec (motive:=fun _=>D4->Tm->R) (fun _ t=>K t) (fun v _ ih k t=>NT.set k v t fun t=>k.succ fun k=>ih k t) vs k t:R):=rfl
   rw[e,NT.set_eq,D4.succ_eq]
   exact ih (k+1) _
 exact go vs 0 .leaf
theorem BN:∀(vs:List NV) (k:Nat) (t:Tm) (j:Nat) (v:NV),NT.get (D4.of j) (ew vs k t)=some v->(∃i,j=k+i/\vs[i]? =some v)∨(NT.get (D4.of j) t=some v/\(j<k∨k+vs.length<=j)):=by
 intro vs
 induction vs with
 |nil=>intro k t j v h;exact .inr ⟨h,by simp;omega⟩
 |cons u vs ih=>
  intro k t j v h
  rcases ih (k+1) _ j v h with ⟨i,h1,h2⟩|⟨h1,h2⟩
  ·exact .inl ⟨i+1,by omega,by simpa using h2⟩
  ·by_cases e:j=k
   ·subst e
    rw[NT.get_put_same] at h1
    exact .inl ⟨0,rfl,by simpa using h1⟩
   ·rw[NT.get_put_ne (fun x=>e (D4.of_inj x))] at h1
    exact .inr ⟨h1,by simp;omega⟩
theorem NF {ι:bi} {args:List NV} {args':List Value} (h:VRL ι args args') (n:Nat):TR ι (ew args 0 .leaf) (args'.toArray++Array.replicate n undef):=by
 intro j v hv
 rcases BN args 0 .leaf j v hv with ⟨i,h1,h2⟩|⟨h1,_⟩
 ·obtain ⟨v',h3,h4⟩:=h.get h2
  refine ⟨v', ?_,h4⟩
  have:j=i:=by omega
  subst this
  have hlt:=(List.getElem?_eq_some_iff.1 h3).1
  rw[Array.getElem?_append_left (by simpa using hlt)]
  simpa using h3
 ·rw[NT.get_leaf] at h1;cases h1
def TO (P:Program) (B:Nat) (ι:bi) (h:NH) (w:World) (fr0:Frame) (kind:CallKind) (ctx:Option NV) (cs:List Frame):CR->Prop
 | .fail=>True
 | .val v ctx' h'=>∃ι' v' w' cs' fr,VR ι' v v'/\Rel P ι' B h' w'/\B<=w'.heap.size/\Grow ι h w ι' h' w'/\qH cs ctx cs' ctx'/\Steps P (lone fr0 cs w) (lone fr cs' w')/\fr.kind=kind/\fr.fn=fr0.fn/\fr.going P w' (.returned v')
 | .pan v ctx' h'=>∃ι' v' w' cs' fr,VR ι' v v'/\Rel P ι' B h' w'/\B<=w'.heap.size/\Grow ι h w ι' h' w'/\qH cs ctx cs' ctx'/\Steps P (lone fr0 cs w) (lone fr cs' w')/\fr.kind=kind/\fr.fn=fr0.fn/\fr.going P w' (.panicked [{v:=v',recovered:=false}])
def OC (P:Program) (callF:Nat->List NV->Option NV->NH->CR):Prop:=
 ∀(f:Nat) (args:List NV) (p:Option NV) (h:NH),callF f args p h≠.fail->(∃nf,an P f=some (.code nf))/\
  ∀(B:Nat) (ι:bi) (w:World) (args':List Value) (kind:CallKind) (cs:List Frame),Rel P ι B h w->B<=w.heap.size->VRL ι args args'->zm ι kind cs p->
   TO P B ι h w (Frame.enter P f args'.toArray kind) kind p cs (callF f args p h)
theorem oX (callF:Nat->List NV->Option NV->NH->CR) (K:Option NV->NH->CR) (c:Dfr) (l:List Dfr) (p:Option NV) (h:NH):
 unwind callF K (c::l) p h=match c with
  | .call f cap=>(match callF f cap p h with
   | .val _ p h=>unwind callF K l p h
   |_=> .fail)
  | .mark id=>match h.get id with
   |some (.defd true)=>unwind callF K l p (h.put id (.defd false))
   |_=> .fail:=by
 have e:unwind callF K (c::l) p h=match c with
  | .call f cap=>(match callF f cap p h with
   | .val _ p h=>unwind callF K l p h
   |_=> .fail)
  | .mark id=>match h.get id with
   |some (.defd true)=>h.set id (.defd false) fun h=>unwind callF K l p h
   |_=> .fail:=rfl
 rw[e]
 cases c with
 |call f cap=>rfl
 |mark id=>
  dsimp only
  split
  ·exact NH.set_eq _ _ _ _
  ·rfl
theorem uf {callF:Nat->List NV->Option NV->NH->CR} (hF:OC P callF) {K:Option NV->NH->CR} {r:CR} (hr:r≠.fail):∀(l:List Dfr) (p:Option NV) (h:NH),unwind callF K l p h=r->
 ∀(ι:bi) (w:World) (fr:Frame) (cs:List Frame),DR ι l fr.defers->Rel P ι B h w->B<=w.heap.size->Ey ι p fr.mode->
 ∃p' h' ι' w' fr',K p' h'=r/\Rel P ι' B h' w'/\B<=w'.heap.size/\Grow ι h w ι' h' w'/\Ey ι' p' fr'.mode/\fr'.defers= []/\fr'.tmps=fr.tmps/\fr'.fn=fr.fn/\fr'.kind=fr.kind/\Steps P (lone fr cs w) (lone fr' cs w'):=by
 intro l
 induction l with
 |nil=>
  intro p h hu ι w fr cs hd hR hB hm
  have hde:fr.defers= []:=by
   cases hds:fr.defers with
   |nil=>rfl
   |cons d ds=>rw[hds] at hd;exact hd.elim
  exact ⟨p,h,ι,w,fr,hu,hR,hB,.refl _ _ _,hm,hde,rfl,rfl,rfl,Steps.refl P _⟩
 |cons c l ih=>
  intro p h hu ι w fr cs hd hR hB hm
  rw[oX] at hu
  cases hds:fr.defers with
  |nil=>rw[hds] at hd;cases c<;>exact hd.elim
  |cons d ds=>
   rw[hds] at hd
   cases c with
   |mark id=>
    obtain ⟨⟨pl,hp,hde⟩,hd'⟩:=hd
    have hu':(match h.get id with
     |some (.defd true)=>unwind callF K l p (h.put id (.defd false))
     |_=> .fail)=r:=hu
    obtain ⟨ob,ho1,ho2⟩:=hR.obj _ _ hp
    rw[ho1] at hu'
    cases ob with
    |defd q=>
     cases q with
     |false=>exact W9 hu'.symm hr
     |true=>
      have hob:w.heap[pl.b]? =some (.deferred (some [])):=ho2
      have htake:=run_takeDeferred (P:=P) hob
      have hst:=step_collected (cs:=cs) hm.ne_run hds (by rw[hde]) htake
      have hlt:=hR.lt _ _ hp
      obtain ⟨t1,t2⟩:=hR.turn (w':=w.putObj pl.b (.deferred none)) hp (by rw[ho1];simp) (.defd false) (World.putObj_heap_same hlt) (by simp) rfl rfl rfl (fun q hq=>World.putObj_heap_other hq)
      obtain ⟨p',h',ι',w',fr',q1,q2,q3,q4,q5,q6,q7,q8,q9,q10⟩:=ih p _ hu' ι _ {fr with defers:= []++ds} cs hd' t1 (by simpa using hB) hm
      exact ⟨p',h',ι',w',fr',q1,q2,q3,t2.trans q4,q5,q6,q7,q8,q9,.head hst q10⟩
    |_=>exact W9 hu'.symm hr
   |call f cap=>
    obtain ⟨⟨cap',hcap,hde⟩,hd'⟩:=hd
    have hu':(match callF f cap p h with
     | .val _ p h=>unwind callF K l p h
     |_=> .fail)=r:=hu
    cases hcf:callF f cap p h with
    |fail=>rw[hcf] at hu';exact W9 hu'.symm hr
    |pan v x h1=>rw[hcf] at hu';exact W9 hu'.symm hr
    |val v p1 h1=>
     rw[hcf] at hu'
     obtain ⟨⟨nf,hnf⟩,hFr⟩:=hF f cap p h (by rw[hcf];simp)
     obtain ⟨fnn,code,e1,e2,e3,_⟩:=kH hnf
     have hinv:(invoke d.target d.args).run P w= .ok (.enter f cap'.toArray) w:=by
      rw[hde]
      have:=nZ (P:=P) e1 e2 e3 (#[]++cap'.toArray) w
      simp only[Array.empty_append] at this
      simp only[invoke,Array.empty_append]
      exact this
     have hst:=step_defer (cs:=cs) hm.ne_run hds (by rw[hde]) hinv
     have hfr:=hFr B ι w cap' .deferred ({fr with defers:=ds}::cs) hR hB hcap (Ey.ctx (c:={fr with defers:=ds}) hm)
     rw[hcf] at hfr
     obtain ⟨ι1,v',w1,cs1,frx,f1,f2,f3,f4,f5,f6,f7,_,f8⟩:=hfr
     have hback:∃m',Ey ι1 p1 m'/\Steps P (lone fr cs w) (lone {fr with defers:=ds,mode:=m'} cs w1):=by
      rcases f5 with ⟨rfl,rfl⟩|⟨rfl,_,c0,rest,v0,older,g1,g2,rfl⟩
      ·refine ⟨fr.mode,hm.mono f4.le,.head hst (Steps.trans f6 (.one ?_))⟩
       have:=step_going_returned (c:={fr with defers:=ds}) (cs:=cs) f7 f8
       rw[show settle ({fr with defers:=ds}:Frame).mode=fr.mode from hm.settle] at this
       exact this
      ·injection g1 with g3 g4
       subst g3 g4
       refine ⟨.returning,rfl,.head hst (Steps.trans f6 (.one ?_))⟩
       have:=step_going_returned (c:={({fr with defers:=ds}:Frame) with mode:= .panicking ({v:=v0,recovered:=true}::older)}) (cs:=cs) f7 f8
       have hol:older= []:=by
        cases p with
        |none=>
         have:fr.mode= .returning:=hm
         rw[show ({fr with defers:=ds}:Frame).mode=fr.mode from rfl,this] at g2
         cases g2
        |some q=>
         obtain ⟨q',hq1,_⟩:=hm
         rw[show ({fr with defers:=ds}:Frame).mode=fr.mode from rfl,hq1] at g2
         cases g2
         rfl
       rw[hol] at this ⊢
       exact this
     obtain ⟨m',hm',hsteps⟩:=hback
     obtain ⟨p',h',ι',w',fr',q1,q2,q3,q4,q5,q6,q7,q8,q9,q10⟩:=ih p1 h1 hu' ι1 w1 {fr with defers:=ds,mode:=m'} cs (hd'.mono f4.le) f2 f3 hm'
     exact ⟨p',h',ι',w',fr',q1,q2,q3,f4.trans q4,q5,q6,q7,q8,q9,hsteps.trans q10⟩
def mw (P:Program):Prop:=∀(f:Nat) (fn:Func) (c:Code),P.funcs[f]? =some fn->fn.body=some c->CheckCode.code P fn [] [] c= .ok ()
theorem np (h:P.check= .ok ()):mw P:=by
 intro f fn c hf hb
 unfold Program.check at h
 obtain ⟨_,h1,_⟩:=bV h
 have h2:=uj h1 f (by simp;exact (Array.getElem?_eq_some_iff.1 hf).1)
 unfold CheckCode.funcAt at h2
 rw[hf] at h2
 have h3:=xP h2
 unfold CheckCode.func at h3
 obtain ⟨_,_,h3⟩:=bV h3
 obtain ⟨_,_,h3⟩:=bV h3
 obtain ⟨_,_,h3⟩:=bV h3
 rw[hb] at h3
 simp only at h3
 obtain ⟨_,_,h3⟩:=bV h3
 obtain ⟨_,h4,_⟩:=bV h3
 exact h4
theorem gI (self:Option D4->NC->Dyn->Res) (depth f:Nat) (args:List NV) (ctx:Option NV) (h:NH):
 dx P self (depth+1) f args ctx h=match an P f with
  |some (.code nf)=>(match self none nf.body ⟨ew args 0 .leaf, [],ctx,h⟩ with
   | .mk o d=>(match o with
    | .norm| .ret=>unwind (dx P self depth) (finish nf.results d) d.dfs none d.h
    | .pan v=>unwind (dx P self depth) (finish nf.results d) d.dfs (some v) d.h
    | .exit _=> .fail)
   | .fail=> .fail)
  |_=> .fail:=by
 have e:dx P self (depth+1) f args ctx h=match an P f with
  |some (.code nf)=>Iz args fun t=>(match self none nf.body ⟨t, [],ctx,h⟩ with
   | .mk o d=>(match o with
    | .norm| .ret=>unwind (dx P self depth) (finish nf.results d) d.dfs none d.h
    | .pan v=>unwind (dx P self depth) (finish nf.results d) d.dfs (some v) d.h
    | .exit _=> .fail)
   | .fail=> .fail)
  |_=> .fail:=rfl
 rw[e]
 split
 ·exact Jb _ _
 ·rfl
theorem jO (hK:mw P) {n:Nat} (hO:jR P S n):∀depth,OC P (dx P (ev P S n) depth):=by
 intro depth
 induction depth with
 |zero=>intro f args p h hne;exact W9 rfl hne
 |succ depth ih=>
  intro f args p h hne
  rw[gI] at hne ⊢
  cases hcf:an P f with
  |none=>rw[hcf] at hne;exact W9 rfl hne
  |some x=>
   cases x with
   |ext e=>rw[hcf] at hne;exact W9 rfl hne
   |code nf=>
    refine ⟨⟨nf,rfl⟩,fun B ι w args' kind cs hR hB hargs hctx=> ?_⟩
    rw[hcf] at hne
    dsimp only at hne ⊢
    obtain ⟨fn,c,hf,hb,hname,hcc,hres⟩:=kH hcf
    let b:Frame:={(default:Frame) with fn:=f,kind:=kind}
    let a0:Act:={tmps:=args'.toArray++Array.replicate (fn.ntmps - args'.toArray.size) undef,defers:= []}
    have henter:Frame.enter P f args'.toArray kind=b.atR a0 [.code c]:=by
     simp[Frame.enter,Frame.atR,hf,hb,b,a0]
     rfl
    cases hev:ev P S n none nf.body ⟨ew args 0 .leaf, [],p,h⟩ with
    |fail=>rw[hev] at hne;exact W9 rfl hne
    |mk o d=>
     rw[hev] at hne
     have hs:Sd P ι B none [] p h b a0.defers cs w:=⟨trivial,hctx,hR,hB,rfl⟩
     have hgo:=hO c nf.body fn [] [] hcc (hK f fn c hf hb) none ⟨ew args 0 .leaf, [],p,h⟩ o d hev (.code c) (.inl rfl) B b [] ι a0 cs w hf (NF hargs _) hs (by simp[a0];omega)
     rw[←henter] at hgo
     obtain ⟨ι1,a1,cs1,w1,g1,g2,g3,g4⟩:=hgo
     have out:∀(q:Option NV) (fr1:Frame),(unwind (dx P (ev P S n) depth) (finish nf.results d) d.dfs q d.h)≠.fail->Ey ι1 q fr1.mode->fr1.defers=a1.defers->fr1.tmps=a1.tmps->fr1.kind=kind->fr1.fn=f->
      Steps P (lone (Frame.enter P f args'.toArray kind) cs w) (lone fr1 cs1 w1)->TO P B ι h w (Frame.enter P f args'.toArray kind) kind p cs (unwind (dx P (ev P S n) depth) (finish nf.results d) d.dfs q d.h):=by
      intro q fr1 hq hm hdf htm hkd hfn hst
      have sd:=g3.sd
      obtain ⟨p',h',ι',w',fr',q1,q2,q3,q4,q5,q6,q7,q8,q9,q10⟩:=uf ih hq d.dfs q d.h rfl ι1 w1 fr1 cs1 (by rw[hdf];exact sd.df) sd.rel sd.base hm
      have hTR:TR ι' d.t fr'.tmps:=by rw[q7,htm];exact g2.mono q4.le
      have hff:P.funcs[fr'.fn]? =some fn:=by rw[q8,hfn];exact hf
      cases p' with
      |none=>
       have q1':cY h' d.t nf.results .fail (fun l=> .val (jF l) d.ctx h')=unwind (dx P (ev P S n) depth) (finish nf.results d) d.dfs q d.h:=q1
       obtain ⟨v,v',r1,r2,r3⟩:=sA hTR q2 hres hq q1'
       rw[r1]
       exact ⟨ι',v',w',cs1,fr',r2,q2,q3,g3.gr.trans q4,g3.ca,hst.trans q10,by rw[q9,hkd],by rw[q8,hfn];rfl,q5,q6,fn,hff,r3⟩
      |some v=>
       have q1':CR.pan v d.ctx h'=unwind (dx P (ev P S n) depth) (finish nf.results d) d.dfs q d.h:=q1
       rw[←q1']
       obtain ⟨v',m1,m2⟩:=q5
       exact ⟨ι',v',w',cs1,fr',m2,q2,q3,g3.gr.trans q4,g3.ca,hst.trans q10,by rw[q9,hkd],by rw[q8,hfn];rfl,m1,q6,fn,hff⟩
     cases o with
     |norm=>
      have g1':Steps P (lone (Frame.enter P f args'.toArray kind) cs w) (lone (b.atR a1 []) cs1 w1):=g1
      exact out none {b.atR a1 [] with mode:= .returning} hne rfl rfl rfl rfl rfl (g1'.trans (.one (stepR_end rfl)))
     |ret=>
      obtain ⟨k0,g1'⟩:=g1
      exact out none {b.atR a1 (.code .ret::k0) with mode:= .returning} hne rfl rfl rfl rfl rfl (g1'.trans (.one (stepR_ret rfl)))
     |exit id=>exact W9 rfl hne
     |pan v=>
      obtain ⟨td,v',m1,g1'⟩:=g1
      exact out (some v) _ hne ⟨v',rfl,m1⟩ rfl rfl rfl rfl g1'
end
end Nm
namespace Nm
open Go
theorem x1:Extern.allNextRows.lookup "math/bits.Add64" =none:=by kernel_rfl
theorem x2:Extern.allNextRows.lookup "" =none:=by kernel_rfl
theorem x3:Extern.allGenericRows.lookup "math/bits.Add64" =none:=by kernel_rfl
theorem x4:Extern.allTypedRows.lookup "math/bits.Add64" =none:=by kernel_rfl
theorem x5:Extern.allRows.lookup "math/bits.Add64" =some add64Entry:=by kernel_rfl
theorem y1:Extern.allNextRows.lookup "internal/bytealg.IndexByteString" =none:=by kernel_rfl
theorem y3:Extern.allGenericRows.lookup "internal/bytealg.IndexByteString" =none:=by kernel_rfl
theorem y4:Extern.allTypedRows.lookup "internal/bytealg.IndexByteString" =none:=by kernel_rfl
theorem y5:Extern.allRows.lookup "internal/bytealg.IndexByteString" =some Extern.BytealgIndexByte.indexByte:=by kernel_rfl
theorem Ly (c:Nat):∀(l:List Nat) (i:Nat),FF c l i=(l.findIdx? (fun x=>x==c)).map (·+i):=by
 intro l
 induction l with
 |nil=>intro i;rfl
 |cons x l ih=>
  intro i
  have e:FF c (x::l) i=cond (Nat.beq x c) (some i) (aD (Nat.succ i) (FF c l)):=rfl
  rw[e,ai,ih,List.findIdx?_cons]
  cases h:Nat.beq x c with
  |true=>have:=Xg h;simp[this]
  |false=>
   have:=Nat.ne_of_beq_eq_false h
   simp only[cond_false]
   rw[Xa (by simpa using this)]
   cases List.findIdx? (fun x=>x==c) l with
   |none=>rfl
   |some j=>simp;omega
theorem zX (p:Nat->Bool):∀n,(List.range n).find? p=none↔∀i,i<n->p i=false:=by
 intro n;simp
theorem xS (s:ByteArray) (c:Nat) (hc:c<=255):firstIdx s c.toUInt8=match FF c (s.data.toList.map UInt8.toNat) 0 with|some i=>(i:Int)|none=>-1:=by
 rw[Ly]
 have hsz:s.data.toList.length=s.size:=fo s
 have hml:(s.data.toList.map UInt8.toNat).length=s.size:=by rw[List.length_map,hsz]
 have hat:∀i (h:i<s.size),(s[i]! ==c.toUInt8)=(((s.data.toList.map UInt8.toNat)[i]'(by rw[hml];exact h))==c):=by
  intro i h
  have e:s[i]! =s.data.toList[i]'(by rw[hsz];exact h):=by
   rw[getElem!_pos s i h];simp[ByteArray.getElem_eq_getElem_data]
  rw[e,List.getElem_map]
  rw[Bool.eq_iff_iff]
  simp only[beq_iff_eq]
  constructor
  ·intro h;rw[h];simp;omega
  ·intro h;rw[←h];simp
 unfold firstIdx
 cases hf:(s.data.toList.map UInt8.toNat).findIdx? (fun x=>x==c) with
 |none=>
  have h1:(List.range s.size).find? (fun i=>s[i]! ==c.toUInt8)=none:=by
   rw[zX]
   intro i hi
   rw[hat i hi]
   rw[List.findIdx?_eq_none_iff] at hf
   exact hf _ (List.getElem_mem _)
  rw[h1];rfl
 |some j=>
  rw[List.findIdx?_eq_some_iff_getElem] at hf
  obtain ⟨hj,h1,h2⟩:=hf
  have hj':j<s.size:=by rw[←hml];exact hj
  have h3:(List.range s.size).find? (fun i=>s[i]! ==c.toUInt8)=some j:=by
   rw[List.find?_range_eq_some]
   refine ⟨?_,by simpa using hj',fun k hk=> ?_⟩
   ·rw[hat j hj'];exact h1
   ·rw[hat k (by omega)]
    simpa using h2 k hk
  rw[h3];simp
section
variable {P:Program} {S:Nat->List NV->Option NV} {B:Nat}
theorem GL {ι:bi} {fn:Func} {e:Ext} {f:Nat} (hf:P.funcs[f]? =some fn) (hb:fn.body=none) (he:Fk fn=some e) {args:List NV} {args':List Value} (ha:VRL ι args args') {v:NV} (hv:qM e args=some v) (w:World):
 ∃v',(callFunc f args'.toArray).run P w= .ok (.value v') w/\VR ι v v':=by
 unfold Fk at he
 obtain ⟨ho,he⟩:=aL he
 have ho':fn.origin= "" :=by simpa using ho
 cases hn:(fn.name== "math/bits.Add64") with
 |true=>
  rw[hn] at he
  cases he
  have hname:fn.name= "math/bits.Add64" :=by simpa using hn
  have hnx:Extern.findNext fn=none:=by unfold Extern.findNext;rw[hname,ho'];simp only[x1,x2];rfl
  have hfi:Extern.find fn=some add64Entry:=by unfold Extern.find;rw[hname,ho'];simp only[x3,x4,x5];rfl
  have hcall:=run_callFunc_extern hf (by rw[hname];decide) (by rw[hb];rfl) hnx hfi args'.toArray w
  unfold qM at hv
  split at hv
  ·rename_i x y c hargs
   obtain ⟨hc1,hv⟩:=aL hv
   rw[ai,ai] at hv
   cases hv
   cases ha with
   |cons _ _ _ _ h1 ha=>
    cases ha with
    |cons _ _ _ _ h2 ha=>
     cases ha with
     |cons _ _ _ _ h3 ha=>
      cases ha
      cases h1;cases h2;cases h3
      have hc:=Nat.le_of_ble_eq_true hc1
      refine ⟨_, ?_,.tup [_,_] [_,_] (.cons _ _ _ _ (.int .u64 _) (.cons _ _ _ _ (.int .u64 _) .nil))⟩
      have:=run_add64 (P:=P) (Int.ofNat x) (Int.ofNat y) (Int.ofNat c) (Int.natCast_nonneg _) (Int.natCast_nonneg _) (Int.natCast_nonneg _) (by show (c:Int)<=1;omega) w
      rw[hcall]
      show Result.andThen (Sem.run P (add64Entry #[.int .u64 (Int.ofNat x),.int .u64 (Int.ofNat y),.int .u64 (Int.ofNat c)]) w) _=_
      rw[this]
      rfl
  ·rename_i h;cases h
  ·cases hv
 |false=>
  rw[hn] at he
  simp only[cond_false] at he
  obtain ⟨hn2,he⟩:=aL he
  cases he
  have hname:fn.name= "internal/bytealg.IndexByteString" :=by simpa using hn2
  have hnx:Extern.findNext fn=none:=by unfold Extern.findNext;rw[hname,ho'];simp only[y1,x2];rfl
  have hfi:Extern.find fn=some Extern.BytealgIndexByte.indexByte:=by unfold Extern.find;rw[hname,ho'];simp only[y3,y4,y5];rfl
  have hcall:=run_callFunc_extern hf (by rw[hname];decide) (by rw[hb];rfl) hnx hfi args'.toArray w
  unfold qM at hv
  split at hv
  ·rename_i h;cases h
  ·rename_i s c _
   obtain ⟨hc1,hv⟩:=aL hv
   have hc:=Nat.le_of_ble_eq_true hc1
   cases ha with
   |cons _ _ _ _ h1 ha=>
    cases ha with
    |cons _ _ _ _ h2 ha=>
     cases ha
     cases h2
     cases h1 with
     |str l s' hs=>
      subst hs
      have hrun:=run_indexByte_string (P:=P) s' (Int.ofNat c) w
      refine ⟨.int .i64 (firstIdx s' c.toUInt8), ?_, ?_⟩
      ·rw[hcall]
       show Result.andThen (Sem.run P (Extern.BytealgIndexByte.indexByte #[.string s',.int .u8 (Int.ofNat c)]) w) _=_
       rw[hrun]
       rfl
      ·rw[xS s' c hc]
       cases hi:FF c (s'.data.toList.map UInt8.toNat) 0 with
       |none=>rw[hi] at hv;cases hv;exact .int .i64 _
       |some i=>rw[hi] at hv;cases hv;exact .int .i64 _
  ·cases hv
def mT (P:Program) (S:Nat->List NV->Option NV):Prop:=
 ∀(ι:bi) (B:Nat) (h:NH) (w:World) (f:Nat) (args:List NV) (args':List Value) (v:NV),S f args=some v->Rel P ι B h w->B<=w.heap.size->VRL ι args args'->
  xB P ι B h w ((callFunc f args'.toArray).run P w) (.val v none h)
theorem Ic:mT P VN:=fun _ _ _ _ _ _ _ _ h=>by cases h
theorem Gy {f:Nat} {e:Ext} (h:an P f=some (.ext e)):∃fn,P.funcs[f]? =some fn/\fn.body=none/\Fk fn=some e:=by
 unfold an at h
 split at h
 ·rename_i fn hfn
  cases hn:(fn.name== "runtime.NumGoroutine") with
  |true=>rw[hn] at h;cases h
  |false=>
   rw[hn] at h
   simp only[cond_false] at h
   split at h
   ·split at h
    ·rw[ai] at h;cases h
    ·cases h
   ·rename_i hb
    split at h
    ·rename_i e' he;cases h;exact ⟨fn,hfn,hb,he⟩
    ·cases h
 ·cases h
theorem fe {fr:Frame} {w:World} {e:Ending} (hk:fr.kind= .normal) (h:fr.going P w e):fr.leaving P w e:=by
 cases e with
 |returned v=>exact ⟨h.1,h.2.1,hk,h.2.2⟩
 |panicked c=>exact h
 |outgrown=>trivial
theorem pL (hK:mw P) (hS:mT P S) {n:Nat} (hO:jR P S n) (ι:bi) (B:Nat) (h:NH) (w:World) (f:Nat) (args:List NV) (args':List Value) (hR:Rel P ι B h w) (hB:B<=w.heap.size) (ha:VRL ι args args'):
 xB P ι B h w ((callFunc f args'.toArray).run P w) (cS P S (ev P S n) f args h):=by
 unfold cS
 cases hs:S f args with
 |some v=>exact hS ι B h w f args args' v hs hR hB ha
 |none=>
  dsimp only
  cases hcf:an P f with
  |none=>trivial
  |some x=>
   cases x with
   |ext e=>
    dsimp only
    cases hx:qM e args with
    |none=>trivial
    |some v=>
     intro c cs
     obtain ⟨fn,h1,h2,h3⟩:=Gy hcf
     obtain ⟨v',e1,e2⟩:=GL h1 h2 h3 ha hx w
     exact ⟨ι,v',w,e2,hR,hB,.refl _ _ _,.inl e1⟩
   |code nf=>
    dsimp only
    have hD:=jO hK hO 3 f args none h
    obtain ⟨fn,code,e1,e2,e3,_⟩:=kH hcf
    have hent:=nZ (P:=P) e1 e2 e3 args'.toArray w
    cases hr:dx P (ev P S n) 3 f args none h with
    |fail=>trivial
    |val v x h'=>
     intro c cs
     obtain ⟨_,hF⟩:=hD (by rw[hr];simp)
     have hF:=hF B ι w args' .normal (c::cs) hR hB ha (fun b hb=>by unfold tryRecover;rw[hb])
     rw[hr] at hF
     obtain ⟨ι',v',w',cs',fr,f1,f2,f3,f4,f5,f6,f7,_,f8⟩:=hF
     obtain ⟨rfl,_⟩:=f5.none
     exact ⟨ι',v',w',f1,f2,f3,f4,.inr ⟨w,.inl ⟨f,args'.toArray,hent,Steps.trans f6 (.one (step_leave_returned (fe f7 f8)))⟩⟩⟩
    |pan v x h'=>
     intro c cs
     obtain ⟨_,hF⟩:=hD (by rw[hr];simp)
     have hF:=hF B ι w args' .normal (c::cs) hR hB ha (fun b hb=>by unfold tryRecover;rw[hb])
     rw[hr] at hF
     obtain ⟨ι',v',w',cs',fr,f1,f2,f3,f4,f5,f6,f7,_,f8⟩:=hF
     obtain ⟨rfl,_⟩:=f5.none
     exact ⟨ι',v',w',f1,f2,f3,f4,w,.inl ⟨f,args'.toArray,hent,Steps.trans f6 (.one (step_leave_panicked (fe f7 f8)))⟩⟩
noncomputable def putP:List D4->List NV->Tm->Tm
 |p::ps,v::vs,t=>putP ps vs (NT.put p v t)
 |_,_,t=>t
theorem oA {r:CR} (hr:r≠.fail) {K:Tm->CR}:∀{ps:List D4} {vs:List NV} {t:Tm},ez .fail ps vs t K=r->vs.length=ps.length/\K (putP ps vs t)=r:=by
 intro ps
 induction ps with
 |nil=>
  intro vs t h
  cases vs with
  |nil=>exact ⟨rfl,h⟩
  |cons v vs=>exact W9 (show CR.fail=r from h).symm hr
 |cons p ps ih=>
  intro vs t h
  cases vs with
  |nil=>exact W9 (show CR.fail=r from h).symm hr
  |cons v vs=>
   have e:ez .fail (p::ps) (v::vs) t K=NT.set p v t fun t=>ez .fail ps vs t K:=rfl
   rw[e,NT.set_eq] at h
   obtain ⟨h1,h2⟩:=ih h
   exact ⟨by simp[h1],h2⟩
theorem NU {ι:bi}:∀{ps:List Nat} {vs:List NV} {vs':List Value} {t:Tm} {a:Array Value},VRL ι vs vs'->TR ι t a->(∀q∈ps,q<a.size)->
 TR ι (putP (ps.map D4.of) vs t) ((ps.zip vs').foldl (fun tmps (t,a)=>tmps.setIfInBounds t a) a)/\((ps.zip vs').foldl (fun tmps (t,a)=>tmps.setIfInBounds t a) a).size=a.size:=by
 intro ps
 induction ps with
 |nil=>intro vs vs' t a _ hT _;cases vs<;>exact ⟨hT,rfl⟩
 |cons p ps ih=>
  intro vs vs' t a hv hT hp
  cases hv with
  |nil=>exact ⟨hT,rfl⟩
  |cons v v' vs vs' h1 h2=>
   have hT':=hT.put (hp p (by simp)) h1
   obtain ⟨q1,q2⟩:=ih h2 hT' (fun q hq=>by simp;exact hp q (by simp[hq]))
   exact ⟨q1,q2.trans (by simp)⟩
def UN (P:Program) (B:Nat) (ι:bi) (h:NH) (w:World) (fr0:Frame) (c:Frame) (cs:List Frame):CR->Prop
 | .fail=>True
 | .val v _ h'=>∃ι' v' w',VR ι' v v'/\Rel P ι' B h' w'/\B<=w'.heap.size/\Grow ι h w ι' h' w'/\Steps P (lone fr0 (c::cs) w) (lone (c.finish v') cs w')
 | .pan v _ h'=>∃ι' v' w',VR ι' v v'/\Rel P ι' B h' w'/\B<=w'.heap.size/\Grow ι h w ι' h' w'/\Steps P (lone fr0 (c::cs) w) (lone (c.raise [{v:=v',recovered:=false}]) cs w')
theorem oT {n:Nat} (hO:jR P S n) (ι:bi) (B:Nat) (h:NH) (w:World) (l:D4) (p:Pl) (args:List NV) (args':List Value) (hR:Rel P ι B h w) (hB:B<=w.heap.size) (ha:VRL ι args args') (hp:ι l=some p):
 xB P ι B h w ((Instr.yield p.b args'.toArray).run P w) (round (ev P S n) l args h):=by
 by_cases hne:round (ev P S n) l args h= .fail
 ·rw[hne];trivial
 generalize hrr:round (ev P S n) l args h=r at hne
 have hrr':=hrr
 unfold round at hrr'
 obtain ⟨ob,ho1,ho2⟩:=hR.obj _ _ hp
 rw[ho1] at hrr'
 cases ob with
 |loop st pd tm ps na nb=>
  cases st with
  |succ st=>exact W9 hrr'.symm hne
  |zero=>
   obtain ⟨L,l1,l2,l3,l4,l5,l6,l7,⟨fn,bl,la,lb,l8,l9,l10,l11,_⟩,l12⟩:=ho2
   obtain ⟨hlen,hrr2⟩:=oA hne hrr'
   have hsz:args'.toArray.size=L.params.size:=by
    have:=ha.length
    rw[l5] at hlen
    simp at hlen ⊢;omega
   have hy:=run_yield (P:=P) l1 hsz
   obtain ⟨t1,t2⟩:=NU (ps:=L.params.toList) ha l4 l12
   have hz:(L.params.zip args'.toArray).foldl (fun tmps (t,a)=>tmps.setIfInBounds t a) L.tmps=(L.params.toList.zip args').foldl (fun tmps (t,a)=>tmps.setIfInBounds t a) L.tmps:=by
    rw[←Array.foldl_toList,Array.toList_zip]
   rw[hz] at hy
   rw[←l5] at t1
   generalize (L.params.toList.zip args').foldl (fun tmps (t,a)=>tmps.setIfInBounds t a) L.tmps=tmps at hy t1 t2
   let b:Frame:={(default:Frame) with fn:=L.fn,kind:= .normal,roundOf:=some p.b}
   have hfr:Frame.round p.b L.fn tmps L.assign L.body .normal=b.atR {tmps:=tmps,defers:= []} [.code L.assign,.beginRound,.code L.body]:=by
    simp[Frame.round,Frame.atR,b]
   cases hev:ev P S n (some l) na ⟨putP ps args tm, [],none,h⟩ with
   |fail=>rw[hev] at hrr2;exact W9 hrr2.symm hne
   |mk o d=>
    rw[hev] at hrr2
    cases o with
    |norm=>
     dsimp only at hrr2
     cases hdd:d.dfs with
     |cons x xs=>rw[hdd] at hrr2;exact W9 hrr2.symm hne
     |nil=>
      rw[hdd] at hrr2
      have hrb:dr (ev P S n) l nb d.t d.h=r:=hrr2
      have main:∀(c:Frame) (cs:List Frame),UN P B ι h w (Frame.round p.b L.fn tmps L.assign L.body .normal) c cs r:=by
       intro c cs
       have hctx:∀ι:bi,zm ι b.kind (c::cs) none:=fun ι b' hb'=>by unfold tryRecover;rw[hb']
       have hs:Sd P ι B (some l) [] none h b ([]:List Deferred) (c::cs) w:=⟨trivial,hctx ι,hR,hB,⟨p,hp,rfl⟩⟩
       have hgo:=hO L.assign na fn [] [] l6 l10 (some l) ⟨putP ps args tm, [],none,h⟩ .norm d hev (.code L.assign) (.inl rfl) B b [.beginRound,.code L.body] ι {tmps:=tmps,defers:= []} (c::cs) w l8 t1 hs (by rw[t2];exact l9)
       obtain ⟨ι1,a1,cs1,w1,g1,g2,g3,g4⟩:=hgo
       obtain ⟨rfl,hctx1⟩:=g3.ca.none
       have sd1:=g3.sd
       have hdef1:a1.defers= []:=by
        have:=sd1.df
        rw[hdd] at this
        cases hq:a1.defers with
        |nil=>rfl
        |cons d ds=>rw[hq] at this;exact this.elim
       have hp1:ι1 l=some p:=g3.gr.le _ _ hp
       obtain ⟨ob1,ho3,ho4⟩:=sd1.rel.obj _ _ hp1
       have hrb':=hrb
       unfold dr at hrb'
       rw[ho3] at hrb'
       cases ob1 with
       |loop st1 pd1 tm1 ps1 na1 nb1=>
        cases st1 with
        |succ st1=>exact W9 hrb'.symm hne
        |zero=>
         replace hrb':d.h.set l (.loop 1 pd1 tm1 ps1 na1 nb1) (fun h=>match ev P S n (some l) nb ⟨d.t, [],none,h⟩ with
          | .mk o d=>(match o with
           | .pan v=>(match d.dfs with| []=>CR.pan v none d.h|_=> .fail)
           |o=>eD l o d.h)
          | .fail=> .fail)=r:=hrb'
         rw[NH.set_eq] at hrb'
         obtain ⟨L1,m1,m2,m3⟩:=ho4
         have hbr:=run_beginRound (P:=P) m1 m2
         have hlt1:=sd1.rel.lt _ _ hp1
         have hst1:SR 1 ({L1 with state:= .busy}:Loop).state:=rfl
         obtain ⟨u1,u2⟩:=sd1.rel.turn (w':=w1.putObj p.b (.loop {L1 with state:= .busy})) hp1 (by rw[ho3];simp) (.loop 1 pd1 tm1 ps1 na1 nb1)
          ⟨_,World.putObj_heap_same hlt1,hst1,m3⟩ (by simp) rfl rfl rfl (fun q hq=>World.putObj_heap_other hq)
         have hbeg:=stepR_beginRound (P:=P) (b:=b) (a:=a1) (k:= [.code L.body]) (cs:=c::cs) rfl hbr
         have hs2:Sd P ι1 B (some l) [] none (d.h.put l (.loop 1 pd1 tm1 ps1 na1 nb1)) b a1.defers (c::cs) (w1.putObj p.b (.loop {L1 with state:= .busy})):=
          ⟨by rw[hdef1];trivial,hctx ι1,u1,by simpa using sd1.base,⟨p,hp1,rfl⟩⟩
         generalize w1.putObj p.b (.loop {L1 with state:= .busy})=w2 at *
         generalize d.h.put l (.loop 1 pd1 tm1 ps1 na1 nb1)=h2 at *
         cases hev2:ev P S n (some l) nb ⟨d.t, [],none,h2⟩ with
         |fail=>rw[hev2] at hrb';exact W9 hrb'.symm hne
         |mk o2 d2=>
          rw[hev2] at hrb'
          have hgo2:=hO L.body nb fn bl la l7 l11 (some l) ⟨d.t, [],none,h2⟩ o2 d2 hev2 (.code L.body) (.inl rfl) B b [] ι1 a1 (c::cs) w2 l8 g2 hs2 (by rw[g4,t2];exact l9)
          obtain ⟨ι3,a3,cs3,w3,e1,e2,e3,e4⟩:=hgo2
          obtain ⟨rfl,_⟩:=e3.ca.none
          have hp3:ι3 l=some p:=e3.gr.le _ _ hp1
          have hpre:Steps P (lone (Frame.round p.b L.fn tmps L.assign L.body .normal) (c::cs) w) (lone (b.atR a1 [.code L.body]) (c::cs) w2):=by
           rw[hfr];exact Steps.trans g1 (.one hbeg)
          have hgr:=(g3.gr.trans u2).trans e3.gr
          have fin:∀(jump:Option Code) (st':Nat) (pd':Jump),eD l o2 d2.h=r->(∀tm ps na nb,(match o2 with
           | .norm=>(d2.h.set l (.loop 0 .none tm ps na nb) fun h=>CR.val (.bool true) none h)
           | .ret=>d2.h.set l (.loop 2 .ret tm ps na nb) fun h=> .val (.bool false) none h
           | .exit id=>d2.h.set l (.loop 2 (.exit id) tm ps na nb) fun h=> .val (.bool false) none h
           | .pan _=> .fail)= .val (.bool jump.isNone) none (d2.h.put l (.loop st' pd' tm ps na nb)))->
           (SR st' (if jump.isNone then .ready else .done))->JR pd' jump->
           (∀(v:Value) (w4:World),(Instr.endRound p.b jump).run P w3= .ok v w4->Steps P (lone (b.atR a1 [.code L.body]) (c::cs) w2) (lone (c.finish v) cs w4))->
           UN P B ι h w (Frame.round p.b L.fn tmps L.assign L.body .normal) c cs r:=by
           intro jump st' pd' hre hval hSR hJR hsteps
           unfold eD at hre
           obtain ⟨ob3,ho5,ho6⟩:=e3.sd.rel.obj _ _ hp3
           rw[ho5] at hre
           cases ob3 with
           |loop st3 pd3 tm3 ps3 na3 nb3=>
            have hre':=(hval tm3 ps3 na3 nb3).symm.trans hre
            rw[←hre']
            obtain ⟨L3,k1,k2,k3,k4⟩:=ho6
            have hend:=run_endRound (P:=P) jump k1
            have hlt3:=e3.sd.rel.lt _ _ hp3
            obtain ⟨z1,z2⟩:=e3.sd.rel.turn (w':=w3.putObj p.b (.loop {L3 with state:=if jump.isNone then .ready else .done,pending:=jump})) hp3 (by rw[ho5];simp) (.loop st' pd' tm3 ps3 na3 nb3)
             ⟨_,World.putObj_heap_same hlt3,hSR,hJR,k4⟩ (by simp) rfl rfl rfl (fun q hq=>World.putObj_heap_other hq)
            exact ⟨ι3,.bool jump.isNone,_,.bool _,z1,by simpa using e3.sd.base,hgr.trans z2,hpre.trans (hsteps _ _ hend)⟩
           |_=>exact W9 hre.symm hne
          cases o2 with
          |norm=>
           exact fin none 0 .none hrb' (fun tm ps na nb=>NH.set_eq _ _ _ _) rfl rfl fun v w4 he=>Steps.trans e1 (.one (stepR_round_end rfl rfl he))
          |ret=>
           obtain ⟨k0,e1⟩:=e1
           exact fin (some .ret) 2 .ret hrb' (fun tm ps na nb=>NH.set_eq _ _ _ _) rfl rfl fun v w4 he=>Steps.trans e1 (.one (stepR_round_ret rfl rfl he))
          |exit id=>
           obtain ⟨k0,e0,e1⟩:=e1
           exact fin (some (.exit id)) 2 (.exit id) hrb' (fun tm ps na nb=>NH.set_eq _ _ _ _) rfl rfl fun v w4 he=>Steps.trans e1 (.one (stepR_round_exit rfl rfl (by rw[e0];rfl) he))
          |pan v=>
           dsimp only at hrb'
           cases hd2:d2.dfs with
           |cons x xs=>rw[hd2] at hrb';exact W9 hrb'.symm hne
           |nil=>
            rw[hd2] at hrb'
            rw[←show CR.pan v none d2.h=r from hrb']
            obtain ⟨td,v',f1,f2⟩:=e1
            have hdef3:a3.defers= []:=by
             have:=e3.sd.df
             rw[hd2] at this
             cases hq:a3.defers with
             |nil=>rfl
             |cons d ds=>rw[hq] at this;exact this.elim
            refine ⟨ι3,v',w3,f1,e3.sd.rel,e3.sd.base,hgr,hpre.trans (Steps.trans f2 (.one (step_leave_panicked ⟨rfl,hdef3,fn,l8⟩)))⟩
       |_=>exact W9 hrb'.symm hne
      cases r with
      |fail=>trivial
      |val v x h'=>
       intro c cs
       obtain ⟨ι',v',w',q1,q2,q3,q4,q5⟩:=main c cs
       exact ⟨ι',v',w',q1,q2,q3,q4,.inr ⟨w,.inr ⟨p.b,L.fn,tmps,L.assign,L.body,hy,q5⟩⟩⟩
      |pan v x h'=>
       intro c cs
       obtain ⟨ι',v',w',q1,q2,q3,q4,q5⟩:=main c cs
       exact ⟨ι',v',w',q1,q2,q3,q4,w,.inr ⟨p.b,L.fn,tmps,L.assign,L.body,hy,q5⟩⟩
    |_=>exact W9 hrr2.symm hne
 |_=>exact W9 hrr'.symm hne
theorem qk (hM:P.follows .mixedOrders=true) (hK:mw P) (hS:mT P S):∀n,jR P S n/\CallsOK P S (ev P S n):=by
 intro n
 induction n with
 |zero=>
  have h0:jR P S 0:=fun c nc fn bl la _ _ rnd d o d' h=>by cases h
  exact ⟨h0,⟨pL hK hS h0,oT h0⟩⟩
 |succ n ih=>
  have h1:jR P S (n+1):=G9 hM ih.1 ih.2
  exact ⟨h1,⟨pL hK hS h1,oT h1⟩⟩
end
end Nm
namespace Nm
open Go Go.RowKit
noncomputable def AT (cf:Nat->Option NFn) (S:Nat->List NV->Option NV) (n f:Nat) (args:List NV):CR:=dx cf (ev cf S n) 3 f args none ⟨.leaf,.e⟩
noncomputable def Ej (cf:Nat->Option NFn) (S:Nat->List NV->Option NV) (n f:Nat) (args:List NV):Bool:=
 match AT cf S n f args with
 | .val (.bool b) _ _=>b
 |_=>false
def ι0:bi:=fun _=>none
theorem Tp (P:Program) (w:World):Rel P ι0 w.heap.size ⟨.leaf,.e⟩ w where
 obj:=fun i p h=>by cases h
 inj:=fun i j p q h=>by cases h
 base:=fun i p h=>by cases h
 lt:=fun i p h=>by cases h
 fresh:=fun i o h=>by rw[show NH.get ⟨.leaf,.e⟩ i=NT.get i .leaf from rfl,NT.get_leaf] at h;cases h
theorem NP {P:Program} {S:Nat->List NV->Option NV} (hM:P.follows .mixedOrders=true) (hP:P.check= .ok ()) (hS:mT P S) {n f:Nat} {args:List NV} {v:NV} {x:Option NV} {h:NH} (hr:AT P S n f args= .val v x h) {args':List Value} (ha:VRL ι0 args args') (w:World):
 Calls P f args'.toArray w fun e w'=>(∃ι v',e= .returned v'/\VR ι v v'/\Rel P ι w.heap.size h w')/\Below w.heap.size w w':=by
 intro cs
 obtain ⟨hO,_⟩:=qk hM (np hP) hS n
 have hD:=jO (np hP) hO 3 f args none ⟨.leaf,.e⟩
 obtain ⟨_,hF⟩:=hD (by rw[show dx P (ev P S n) 3 f args none ⟨.leaf,.e⟩= .val v x h from hr];simp)
 have hF:=hF w.heap.size ι0 w args' .normal cs (Tp P w) (Nat.le_refl _) ha (fun b hb=>by unfold tryRecover;rw[hb])
 rw[show dx P (ev P S n) 3 f args none ⟨.leaf,.e⟩= .val v x h from hr] at hF
 obtain ⟨ι',v',w',cs',fr,f1,f2,f3,f4,f5,f6,f7,f8,f9⟩:=hF
 obtain ⟨rfl,_⟩:=f5.none
 refine ⟨.returned v',w',fr,⟨⟨ι',v',rfl,f1,f2⟩,⟨f4.os,f4.tape,f4.output,f4.size,fun k hk=>f4.frame k hk fun i p hi=>by cases hi⟩⟩,f6,f8,fe f7 f9⟩
end Nm
namespace Nm
open Go Go.RowKit
mutual
def fK:NV->Bool
 | .bool _| .int _ _| .str _| .nilp| .nils| .nilm| .nilf| .nili=>true
 | .ifc _ v=>fK v
 | .agg l=>lR l
 | .tup l=>lR l
 |_=>false
def lR:List NV->Bool
 | []=>true
 |v::l=>fK v&&lR l
end
mutual
theorem VR.plain {ι ι':bi}:∀{v:NV} {v':Value},VR ι v v'->fK v=true->VR ι' v v'
 |_,_,.bool b,_=> .bool b
 |_,_,.int k n,_=> .int k n
 |_,_,.str l s h,_=> .str l s h
 |_,_,.nilp,_=> .nilp
 |_,_,.ptr ..,h=>by simp[fK] at h
 |_,_,.nils,_=> .nils
 |_,_,.slc ..,h=>by simp[fK] at h
 |_,_,.nilm,_=> .nilm
 |_,_,.map ..,h=>by simp[fK] at h
 |_,_,.nilf,_=> .nilf
 |_,_,.fn ..,h=>by simp[fK] at h
 |_,_,.yld ..,h=>by simp[fK] at h
 |_,_,.nili,_=> .nili
 |_,_,.ifc t v v' h,k=> .ifc t v v' (VR.plain h (by simpa [fK] using k))
 |_,_,.agg l l' h h1,k=> .agg l l' (VRL.plain h (by simpa [fK] using k)) h1
 |_,_,.tup l l' h,k=> .tup l l' (VRL.plain h (by simpa [fK] using k))
theorem VRL.plain {ι ι':bi}:∀{l:List NV} {l':List Value},VRL ι l l'->lR l=true->VRL ι' l l'
 |_,_,.nil,_=> .nil
 |_,_,.cons v v' l l' h hl,k=> .cons v v' l l' (VR.plain h (by simp[lR] at k;exact k.1)) (VRL.plain hl (by simp[lR] at k;exact k.2))
end
variable {P:Program} {f n:Nat} {args:List NV} {S:Nat->List NV->Option NV} {cf:Nat->Option NFn}
noncomputable def Up (f:Nat) (args:List NV) (v:NV) (S:Nat->List NV->Option NV):Nat->List NV->Option NV:=fun g l=>
 cond (Nat.beq g f) (cond (kj (bg 3) l args) (some v) (S g l)) (S g l)
noncomputable def wm (cf:Nat->Option NFn) (S:Nat->List NV->Option NV) (n f:Nat) (args:List NV) (v:NV):Bool:=
 match AT cf S n f args with
 | .val u _ _=>cond (lR args) (cond (fK v) (bg 5 u v) false) false
 |_=>false
theorem xK  {self:Option D4->NC->Dyn->Res} {d:Nat} {ctx:Option NV} {h:NH} (hn:dx P self d f args ctx h≠.fail):∃nf,an P f=some (.code nf):=by
 cases d with
 |zero=>exact W9 rfl hn
 |succ d=>
  rw[gI] at hn
  cases hc:an P f with
  |none=>rw[hc] at hn;exact W9 rfl hn
  |some x=>
   cases x with
   |code nf=>exact ⟨nf,rfl⟩
   |ext e=>rw[hc] at hn;exact W9 rfl hn
theorem Nv  (hM:P.follows .mixedOrders=true) (hP:P.check= .ok ()) (hS:mT P S) {v:NV} (hr:wm P S n f args v=true):mT P (Up f args v S):=by
 intro ι B h w g l l' u hg hR hB hl
 have hg':cond (Nat.beq g f) (cond (kj (bg 3) l args) (some v) (S g l)) (S g l)=some u:=hg
 by_cases h1:Nat.beq g f=true/\kj (bg 3) l args=true
 ·obtain ⟨h2,h3⟩:=h1
  rw[h2,h3] at hg'
  cases hg'
  have:=Xg h2
  subst this
  have:=mI (mu 3) h3
  subst this
  unfold wm at hr
  split at hr
  ·rename_i u x h0 hrun
   obtain ⟨p1,hr⟩:=gG hr
   obtain ⟨p2,hr⟩:=gG hr
   have:=mu _ _ _ hr
   subst this
   intro c cs
   have hcalls:=NP hM hP hS hrun (hl.plain p1) w
   obtain ⟨e,w',fr,⟨⟨ι1,v',he,hv,_⟩,hb⟩,hcomes,hfn,hleave⟩:=hcalls (c::cs)
   subst he
   obtain ⟨nf,hnf⟩:=xK (show dx P (ev P S n) 3 g l none ⟨.leaf,.e⟩≠.fail by rw[show dx P (ev P S n) 3 g l none ⟨.leaf,.e⟩=_ from hrun];simp)
   obtain ⟨fn,code,e1,e2,e3,_⟩:=kH hnf
   refine ⟨ι,v',w',hv.plain p2,⟨fun i p hi=> ?_,hR.inj,hR.base,fun i p hi=>Nat.lt_of_lt_of_le (hR.lt i p hi) hb.size,hR.fresh⟩,Nat.le_trans hB hb.size, ?_,.inr ⟨w,.inl ⟨g,l'.toArray,nZ e1 e2 e3 _ w,Steps.trans hcomes (.one (step_leave_returned hleave))⟩⟩⟩
   ·obtain ⟨o,o1,o2⟩:=hR.obj i p hi
    exact ⟨o,o1,o2.mono (bi.le_refl _) (hb.block _ (hR.lt i p hi))⟩
   ·exact ⟨bi.le_refl _,Nat.le_refl _,fun _ _ x=> .inl x,fun i p x y=> .inr ⟨i,p,x,y,rfl⟩,fun _ _ _=>rfl,hb.size,hb.os,hb.tape,hb.output,fun b hb' _=>hb.block b hb'⟩
  ·cases hr
 ·have:S g l=some u:=by
   cases h2:Nat.beq g f with
   |false=>rw[h2] at hg';exact hg'
   |true=>
    rw[h2] at hg'
    cases h3:kj (bg 3) l args with
    |false=>rw[h3] at hg';exact hg'
    |true=>exact W9 ⟨h2,h3⟩ h1
  exact hS ι B h w g l l' u this hR hB hl
noncomputable def au (P:Program) (k:Nat) (nf:NFun) (f:Nat):Option NFn:=cond (Nat.beq f k) (some (.code nf)) (an P f)
noncomputable def aw (m:Nat) (a b:Nat->Option NFn) (f:Nat):Option NFn:=cond (Nat.ble f m) (a f) (b f)
def iW (P:Program) (cf:Nat->Option NFn):Prop:=∀f,cf f=an P f
theorem ab  {k:Nat} {nf:NFun} (h:an P k=some (.code nf)):iW P (au P k nf):=fun f=>by
 unfold au
 cases hb:Nat.beq f k with
 |false=>rfl
 |true=>rw[Xg hb];exact h.symm
theorem af  {m:Nat} {a b:Nat->Option NFn} (ha:iW P a) (hb:iW P b):iW P (aw m a b):=fun f=>by
 unfold aw
 cases Nat.ble f m with
 |false=>exact hb f
 |true=>exact ha f
theorem iW.run  (h:iW P cf) (hr:Ej cf S n f args=true):Ej P S n f args=true:=by
 have e:cf=an P:=funext h
 rw[e] at hr;exact hr
theorem iW.kept  (h:iW P cf) {v:NV} (hr:wm cf S n f args v=true):wm P S n f args v=true:=by
 have e:cf=an P:=funext h
 rw[e] at hr;exact hr
end Nm
namespace Nm
open Go Go.RowKit
variable {o:Out} {m:NH} {d1 d d':Dyn} {t:Tm} {dfs:List Dfr} {ctx:Option NV} {x y:NC} {f:Nat} {l:List NOper} {args:List NV} {v:NV} {rnd dst:Option D4}
def Le (a b:Option D4->NC->Dyn->Res):Prop:=∀r c d o d',a r c d= .mk o d'->b r c d= .mk o d'
section
variable {P:Program} {S:Nat->List NV->Option NV} {a b:Option D4->NC->Dyn->Res}
theorem jZ {F G:Nat->List NV->Option NV->NH->CR} (h:∀f l p m r,F f l p m=r->r≠.fail->G f l p m=r) {K:Option NV->NH->CR}:∀(l:List Dfr) (p:Option NV) (m:NH) (r:CR),unwind F K l p m=r->r≠.fail->unwind G K l p m=r:=by
 intro l
 induction l with
 |nil=>exact fun p m r e _=>e
 |cons c l ih=>
  intro p m r e hr
  rw[oX] at e ⊢
  cases c with
  |mark id=>
   dsimp only at e ⊢
   split at e
   ·exact ih _ _ _ e hr
   ·exact W9 e.symm hr
  |call f cap=>
   dsimp only at e ⊢
   cases hf:F f cap p m with
   |fail=>rw[hf] at e;exact W9 e.symm hr
   |pan v x m'=>rw[hf] at e;exact W9 e.symm hr
   |val v x m'=>
    rw[hf] at e
    rw[h f cap p m _ hf (by simp)]
    exact ih _ _ _ e hr
theorem y8 (h:Le a b):∀(d f:Nat) (l:List NV) (p:Option NV) (m:NH) (r:CR),dx P a d f l p m=r->r≠.fail->dx P b d f l p m=r:=by
 intro d
 induction d with
 |zero=>intro f l p m r e hr;exact W9 e.symm hr
 |succ d ih=>
  intro f l p m r e hr
  rw[gI] at e ⊢
  cases hc:an P f with
  |none=>rw[hc] at e;exact W9 e.symm hr
  |some x=>
   cases x with
   |ext x=>rw[hc] at e;exact W9 e.symm hr
   |code nf=>
    rw[hc] at e
    dsimp only at e ⊢
    cases ha:a none nf.body ⟨ew l 0 .leaf, [],p,m⟩ with
    |fail=>rw[ha] at e;exact W9 e.symm hr
    |mk o d'=>
     rw[ha] at e
     rw[h _ _ _ _ _ ha]
     cases o with
     |norm=>exact jZ (fun f l p m r=>ih f l p m r) _ _ _ _ e hr
     |ret=>exact jZ (fun f l p m r=>ih f l p m r) _ _ _ _ e hr
     |pan v=>exact jZ (fun f l p m r=>ih f l p m r) _ _ _ _ e hr
     |exit id=>exact W9 e.symm hr
theorem ef (h:Le a b) {l:List NV} {r:CR} (e:cS P S a f l m=r) (hr:r≠.fail):cS P S b f l m=r:=by
 unfold cS at e ⊢
 cases hs:S f l with
 |some v=>rw[hs] at e;exact e
 |none=>
  rw[hs] at e
  dsimp only at e ⊢
  cases hc:an P f with
  |none=>rw[hc] at e;exact e
  |some x=>
   rw[hc] at e
   cases x with
   |ext x=>exact e
   |code nf=>exact y8 h _ _ _ _ _ _ e hr
theorem rF (h:Le a b) {l:D4} {bd:NC} {r:CR} (e:dr a l bd t m=r) (hr:r≠.fail):dr b l bd t m=r:=by
 unfold dr at e ⊢
 split at e
 ·rename_i p tm ps assign body hm
  rw[NH.set_eq] at e ⊢
  cases ha:a (some l) bd ⟨t, [],none,m.put l (.loop 1 p tm ps assign body)⟩ with
  |fail=>rw[ha] at e;exact W9 e.symm hr
  |mk o d=>rw[ha] at e;rw[h _ _ _ _ _ ha];exact e
 ·exact W9 e.symm hr
theorem gH (h:Le a b) {l:D4} {r:CR} (e:round a l args m=r) (hr:r≠.fail):round b l args m=r:=by
 unfold round at e ⊢
 split at e
 ·rename_i x tm ps assign body hm
  obtain ⟨h1,h2⟩:=oA hr e
  have key:∀K:Tm->CR,ez .fail ps args tm K=K (putP ps args tm):=by
   clear e h2 hm
   intro K
   induction ps generalizing args tm with
   |nil=>cases args with
    |nil=>rfl
    |cons=>simp at h1
   |cons q ps ih=>
    cases args with
    |nil=>simp at h1
    |cons v vs=>
     have e:ez .fail (q::ps) (v::vs) tm K=NT.set q v tm fun t=>ez .fail ps vs t K:=rfl
     rw[e,NT.set_eq]
     exact ih _ (by simpa using h1)
  rw[key]
  cases ha:a (some l) assign ⟨putP ps args tm, [],none,m⟩ with
  |fail=>rw[ha] at h2;exact W9 h2.symm hr
  |mk o d=>
   rw[ha] at h2
   rw[h _ _ _ _ _ ha]
   cases o with
   |norm=>
    dsimp only at h2 ⊢
    split at h2
    ·exact rF h h2 hr
    ·exact W9 h2.symm hr
   |_=>exact W9 h2.symm hr
 ·exact W9 e.symm hr
theorem rM (h:Le a b) {x:NR} {r:OpO} (e:eP P S a rnd dfs ctx m x=r) (hr:r≠.fail):eP P S b rnd dfs ctx m x=r:=by
 cases x with
 |call f l=>
  have e':CS dfs ctx (cS P S a f l m)=r:=e
  have hn:cS P S a f l m≠.fail:=fun hh=>by rw[hh] at e';exact hr e'.symm
  show CS dfs ctx (cS P S b f l m)=r
  rw[ef h rfl hn];exact e'
 |yld l args=>
  have e':CS dfs ctx (round a l args m)=r:=e
  have hn:round a l args m≠.fail:=fun hh=>by rw[hh] at e';exact hr e'.symm
  show CS dfs ctx (round b l args m)=r
  rw[gH h rfl hn];exact e'
 |_=>exact e
theorem IT  {K L:Dyn->Res} (hk:∀d o d',K d= .mk o d'->L d= .mk o d') {x:OpO} (e:GB dst K t dfs ctx x= .mk o d'):GB dst L t dfs ctx x= .mk o d':=by
 cases x with
 |fail=>cases e
 |next v dfs ctx h=>exact hk _ _ _ e
 |pan v h=>exact e
theorem O8  {K:Dyn->Res} {x:OpO} (e:GB dst K t dfs ctx x= .mk o d'):x≠.fail:=by
 rintro rfl;cases e
theorem jU (h:Le a b):∀(l:List NOper) (d:Dyn) (o:Out) (d':Dyn),dV P S a rnd l d= .mk o d'->dV P S b rnd l d= .mk o d':=by
 intro l
 induction l with
 |nil=>exact fun d o d' e=>e
 |cons x l ih=>
  rintro ⟨t,dfs,ctx,m⟩ o d' e
  rw[dz] at e ⊢
  cases hg:aB t x.guard with
  |none=>rw[hg] at e;cases e
  |some on=>
   rw[hg] at e
   cases on with
   |false=>exact ih _ _ _ e
   |true=>
    dsimp only at e ⊢
    rw[rM h rfl (O8 e)]
    exact IT ih e
theorem nN (h:Le a b):∀(l:List NOper) (hs:List (Nat×NH)) (rs:List (Nat×(NH->NR)×NV)) (d:Dyn) (o:Out) (d':Dyn),cu P S a rnd l hs rs d= .mk o d'->cu P S b rnd l hs rs d= .mk o d':=by
 intro l
 induction l with
 |nil=>exact fun hs rs d o d' e=>e
 |cons x l ih=>
  rintro hs rs ⟨t,dfs,ctx,m⟩ o d' e
  rw[cN] at e ⊢
  cases hg:aB t x.guard with
  |none=>rw[hg] at e;cases e
  |some on=>
   rw[hg] at e
   cases on with
   |false=>exact ih _ _ _ _ _ e
   |true=>
    dsimp only at e ⊢
    cases hcl:ay x.op with
    |pure=>
     rw[hcl] at e
     dsimp only at e ⊢
     cases hop:ag x.op t m<;>rw[hop] at e<;>first|exact ih _ _ _ _ _ e|cases e
    |alloc=>
     rw[hcl] at e
     dsimp only at e ⊢
     cases ha:ahead x.pre hs with
     |false=>rw[ha] at e;cases e
     |true=>
      rw[ha] at e
      simp only[cond_true] at e ⊢
      cases hop:ag x.op t m<;>rw[hop] at e<;>first|exact ih _ _ _ _ _ e|cases e
    |read=>
     rw[hcl] at e
     dsimp only at e ⊢
     cases hop:ag x.op t m with
     |val v=>
      rw[hop] at e
      dsimp only at e ⊢
      cases hst:dP x.pre (ag x.op t) v hs with
      |false=>rw[hst] at e;cases e
      |true=>rw[hst] at e;exact ih _ _ _ _ _ e
     |_=>rw[hop] at e;cases e
    |eff=>
     rw[hcl] at e
     dsimp only at e ⊢
     cases ha:ahead x.pre hs with
     |false=>rw[ha] at e;cases e
     |true=>
      rw[ha] at e
      simp only[cond_true] at e ⊢
      have hk:∀d o d',cond (stays x.pre d.h rs) (cu P S a rnd l ((x.idx,m)::hs) rs d) .fail= .mk o d'->cond (stays x.pre d.h rs) (cu P S b rnd l ((x.idx,m)::hs) rs d) .fail= .mk o d':=by
       intro d o d' e
       cases hs':stays x.pre d.h rs with
       |false=>rw[hs'] at e;cases e
       |true=>rw[hs'] at e;exact ih _ _ _ _ _ e
      have hne:eP P S a rnd dfs ctx m (ag x.op t m)≠.fail:=by
       intro hh
       rw[hh] at e
       cases e
      rw[rM h rfl hne]
      cases hoo:eP P S a rnd dfs ctx m (ag x.op t m) with
      |fail=>exact W9 hoo hne
      |pan v m'=>rw[hoo] at e;exact e
      |next v dfs1 ctx1 m'=>
       rw[hoo] at e
       have e':dY (cZ x.idx l) (cond (stays x.pre m' rs) (cu P S a rnd l ((x.idx,m)::hs) rs ⟨aO x.dst v t,dfs1,ctx1,m'⟩) .fail)= .mk o d':=e
       show dY (cZ x.idx l) (cond (stays x.pre m' rs) (cu P S b rnd l ((x.idx,m)::hs) rs ⟨aO x.dst v t,dfs1,ctx1,m'⟩) .fail)= .mk o d'
       cases hin:cond (stays x.pre m' rs) (cu P S a rnd l ((x.idx,m)::hs) rs ⟨aO x.dst v t,dfs1,ctx1,m'⟩) .fail with
       |fail=>rw[hin] at e';cases e'
       |mk o2 d2=>
        have:=hk ⟨aO x.dst v t,dfs1,ctx1,m'⟩ o2 d2 hin
        rw[hin] at e'
        rw[show cond (stays x.pre m' rs) (cu P S b rnd l ((x.idx,m)::hs) rs ⟨aO x.dst v t,dfs1,ctx1,m'⟩) .fail= .mk o2 d2 from this]
        exact e'
theorem mt (h:Le a b) {cap:List NV} {ps:List D4} (e:cW P S a f cap ps x y t dfs ctx m= .mk o d'):cW P S b f cap ps x y t dfs ctx m= .mk o d':=by
 unfold cW at e ⊢
 rw[NH.new_eq] at e ⊢
 cases hc:cS P S a f (.yld m.next::cap) (m.add (.loop 0 .none t ps x y)) with
 |fail=>rw[hc] at e;cases e
 |val v c m'=>rw[hc] at e;rw[ef h hc (by simp)];exact e
 |pan v c m'=>rw[hc] at e;rw[ef h hc (by simp)];exact e
theorem zG (h:Le a b):Le (pW P S a) (pW P S b):=by
 intro r c d o d' e
 cases c with
 |skip=>exact e
 |reg l=>exact jU h _ _ _ _ e
 |regD l=>
  have e':(match cu P S a r l [] [] d with| .mk (.pan v) d=>Res.mk (.pan v) ⟨qG l d.t,d.dfs,d.ctx,d.h⟩|r=>r)= .mk o d':=e
  show (match cu P S b r l [] [] d with| .mk (.pan v) d=>Res.mk (.pan v) ⟨qG l d.t,d.dfs,d.ctx,d.h⟩|r=>r)= .mk o d'
  cases hr:cu P S a r l [] [] d with
  |fail=>rw[hr] at e';cases e'
  |mk o2 d2=>rw[hr] at e';rw[nN h _ _ _ _ _ _ hr];exact e'
 |seq x y=>
  have e':(match a r x d with| .mk o d=>(match o with| .norm=>a r y d|o=> .mk o d)| .fail=> .fail)=Res.mk o d':=(AL (cf:=P) (S:=S)).symm.trans e
  refine (AL (cf:=P) (S:=S)).trans ?_
  show (match b r x d with| .mk o d=>(match o with| .norm=>b r y d|o=> .mk o d)| .fail=> .fail)=Res.mk o d'
  cases hx:a r x d with
  |fail=>rw[hx] at e';cases e'
  |mk o2 d2=>
   rw[hx] at e'
   rw[h _ _ _ _ _ hx]
   cases o2 with
   |norm=>exact h _ _ _ _ _ e'
   |_=>exact e'
 |cond g x y=>
  have e':(match ρ d.t g with|some (.bool c)=>(Bool.rec (a r y d) (a r x d) c:Res)|_=> .fail)=Res.mk o d':=(tO (cf:=P) (S:=S)).symm.trans e
  refine (tO (cf:=P) (S:=S)).trans ?_
  show (match ρ d.t g with|some (.bool c)=>(Bool.rec (b r y d) (b r x d) c:Res)|_=> .fail)=Res.mk o d'
  cases hg:ρ d.t g with
  |none=>rw[hg] at e';cases e'
  |some v=>
   rw[hg] at e'
   cases v with
   |bool q=>cases q<;>exact h _ _ _ _ _ e'
   |_=>cases e'
 |block id x=>
  have e':(match a r x d with| .mk o d=>(match o with| .exit i=>cond (Nat.beq i id) (.mk .norm d) (.mk (.exit i) d)|o=> .mk o d)| .fail=> .fail)=Res.mk o d':=(qY (cf:=P) (S:=S)).symm.trans e
  refine (qY (cf:=P) (S:=S)).trans ?_
  show (match b r x d with| .mk o d=>(match o with| .exit i=>cond (Nat.beq i id) (.mk .norm d) (.mk (.exit i) d)|o=> .mk o d)| .fail=> .fail)=Res.mk o d'
  cases hx:a r x d with
  |fail=>rw[hx] at e';cases e'
  |mk o2 d2=>rw[hx] at e';rw[h _ _ _ _ _ hx];exact e'
 |loop x=>
  have e':(match a r x d with| .mk o d=>(match o with| .norm=>a r (.loop x) d|o=> .mk o d)| .fail=> .fail)=Res.mk o d':=(mh (cf:=P) (S:=S)).symm.trans e
  refine (mh (cf:=P) (S:=S)).trans ?_
  show (match b r x d with| .mk o d=>(match o with| .norm=>b r (.loop x) d|o=> .mk o d)| .fail=> .fail)=Res.mk o d'
  cases hx:a r x d with
  |fail=>rw[hx] at e';cases e'
  |mk o2 d2=>
   rw[hx] at e'
   rw[h _ _ _ _ _ hx]
   cases o2 with
   |norm=>exact h _ _ _ _ _ e'
   |_=>exact e'
 |rangeFunc f ps x y=>
  obtain ⟨t,dfs,ctx,m⟩:=d
  have e':(match ρ t f with
   |some (.fn f cap)=>(match (generalizing:=false) r with
    |none=>m.new (.defd true) fun q m=>cW P S a f cap ps x y t (.mark q::dfs) ctx m
    |some l=>(match m.get l with
     |some (.loop ..)=>cW P S a f cap ps x y t dfs ctx m
     |_=> .fail))
   |_=> .fail)=Res.mk o d':=e
  show (match ρ t f with
   |some (.fn f cap)=>(match (generalizing:=false) r with
    |none=>m.new (.defd true) fun q m=>cW P S b f cap ps x y t (.mark q::dfs) ctx m
    |some l=>(match m.get l with
     |some (.loop ..)=>cW P S b f cap ps x y t dfs ctx m
     |_=> .fail))
   |_=> .fail)=Res.mk o d'
  cases hf:ρ t f with
  |none=>rw[hf] at e';cases e'
  |some v=>
   rw[hf] at e'
   cases v with
   |fn f cap=>
    dsimp only at e' ⊢
    cases r with
    |none=>
     dsimp only at e' ⊢
     rw[NH.new_eq] at e' ⊢
     exact mt h e'
    |some l=>
     dsimp only at e' ⊢
     split at e'
     ·exact mt h e'
     ·cases e'
   |_=>cases e'
 |exit id=>exact e
 |ret=>exact e
theorem NS:∀n,Le (ev P S n) (ev P S (n+1)):=by
 intro n
 induction n with
 |zero=>intro r c d o d' e;cases e
 |succ n ih=>exact zG ih
theorem cK {n m:Nat} (hnm:n<=m):Le (ev P S n) (ev P S m):=by
 induction m with
 |zero=>
  have:n=0:=by omega
  subst this;exact fun _ _ _ _ _ e=>e
 |succ m ih=>
  by_cases h:n=m+1
  ·subst h;exact fun _ _ _ _ _ e=>e
  ·exact fun r c d o d' e=>NS m r c d o d' (ih (by omega) r c d o d' e)
end
def fJ (P:Program) (S:Nat->List NV->Option NV) (r:Option D4) (c:NC) (d:Dyn) (o:Out) (d':Dyn):Prop:=∃n,ev P S n r c d= .mk o d'
def Call (P:Program) (S:Nat->List NV->Option NV) (f:Nat) (l:List NV) (m:NH) (x:CR):Prop:=x≠.fail/\∃n,cS P S (ev P S n) f l m=x
def o9 (P:Program) (S:Nat->List NV->Option NV) (r:Option D4) (l:List NOper) (d:Dyn) (o:Out) (d':Dyn):Prop:=∃n,dV P S (ev P S n) r l d= .mk o d'
section
variable {P:Program} {S:Nat->List NV->Option NV} {r:Option D4}
theorem fJ.skip (d:Dyn):fJ P S r .skip d .norm d:=⟨1,rfl⟩
theorem fJ.ret (d:Dyn):fJ P S r .ret d .ret d:=⟨1,rfl⟩
theorem fJ.exit (id:Nat) (d:Dyn):fJ P S r (.exit id) d (.exit id) d:=⟨1,rfl⟩
theorem fJ.seq  {d2:Dyn} (hx:fJ P S r x d .norm d1) (hy:fJ P S r y d1 o d2):fJ P S r (.seq x y) d o d2:=by
 obtain ⟨n,hn⟩:=hx
 obtain ⟨m,hm⟩:=hy
 refine ⟨max n m+1, ?_⟩
 refine zu.trans ?_
 show (match ev P S (max n m) r x d with| .mk o d=>(match o with| .norm=>ev P S (max n m) r y d|o=> .mk o d)| .fail=> .fail)=Res.mk o d2
 rw[cK (Nat.le_max_left n m) _ _ _ _ _ hn]
 exact cK (Nat.le_max_right n m) _ _ _ _ _ hm
theorem fJ.seq_out  (hx:fJ P S r x d o d1) (ho:o≠.norm):fJ P S r (.seq x y) d o d1:=by
 obtain ⟨n,hn⟩:=hx
 refine ⟨n+1, ?_⟩
 refine zu.trans ?_
 show (match ev P S n r x d with| .mk o d=>(match o with| .norm=>ev P S n r y d|o=> .mk o d)| .fail=> .fail)=Res.mk o d1
 rw[hn]
 cases o<;>first|rfl|exact W9 rfl ho
theorem fJ.cond {g:NOpd} {q:Bool} (hg:ρ d.t g=some (.bool q)) (h:fJ P S r (if q then x else y) d o d1):fJ P S r (.cond g x y) d o d1:=by
 obtain ⟨n,hn⟩:=h
 refine ⟨n+1, ?_⟩
 refine DG.trans ?_
 show (match ρ d.t g with|some (.bool c)=>(Bool.rec (ev P S n r y d) (ev P S n r x d) c:Res)|_=> .fail)=Res.mk o d1
 rw[hg]
 cases q<;>exact hn
theorem fJ.block {id:Nat} (h:fJ P S r x d o d1):fJ P S r (.block id x) d (match o with| .exit i=>_root_.cond (Nat.beq i id) .norm (.exit i)|o=>o) d1:=by
 obtain ⟨n,hn⟩:=h
 refine ⟨n+1, ?_⟩
 refine xq.trans ?_
 show (match ev P S n r x d with| .mk o d=>(match o with| .exit i=>_root_.cond (Nat.beq i id) (Res.mk .norm d) (Res.mk (.exit i) d)|o=>Res.mk o d)| .fail=>Res.fail)=_
 rw[hn]
 cases o with
 |exit i=>dsimp only;cases Nat.beq i id<;>rfl
 |_=>rfl
theorem fJ.loop  {d2:Dyn} (hx:fJ P S r x d .norm d1) (hy:fJ P S r (.loop x) d1 o d2):fJ P S r (.loop x) d o d2:=by
 obtain ⟨n,hn⟩:=hx
 obtain ⟨m,hm⟩:=hy
 refine ⟨max n m+1, ?_⟩
 refine uM.trans ?_
 show (match ev P S (max n m) r x d with| .mk o d=>(match o with| .norm=>ev P S (max n m) r (.loop x) d|o=> .mk o d)| .fail=> .fail)=Res.mk o d2
 rw[cK (Nat.le_max_left n m) _ _ _ _ _ hn]
 exact cK (Nat.le_max_right n m) _ _ _ _ _ hm
theorem fJ.loop_out  (hx:fJ P S r x d o d1) (ho:o≠.norm):fJ P S r (.loop x) d o d1:=by
 obtain ⟨n,hn⟩:=hx
 refine ⟨n+1, ?_⟩
 refine uM.trans ?_
 show (match ev P S n r x d with| .mk o d=>(match o with| .norm=>ev P S n r (.loop x) d|o=> .mk o d)| .fail=> .fail)=Res.mk o d1
 rw[hn]
 cases o<;>first|rfl|exact W9 rfl ho
theorem fJ.reg  (h:o9 P S r l d o d1):fJ P S r (.reg l) d o d1:=by
 obtain ⟨n,hn⟩:=h
 exact ⟨n+1,hn⟩
theorem o9.nil (d:Dyn):o9 P S r [] d .norm d:=⟨0,rfl⟩
theorem o9.val {x:NOper} (hg:aB t x.guard=some true) (hop:ag x.op t m= .val v)
 (h:o9 P S r l ⟨aO x.dst v t,dfs,ctx,m⟩ o d1):o9 P S r (x::l) ⟨t,dfs,ctx,m⟩ o d1:=by
 obtain ⟨n,hn⟩:=h
 refine ⟨n, ?_⟩
 rw[dz,hg,hop]
 exact hn
theorem o9.mem {x:NOper} {m':NH} (hg:aB t x.guard=some true) (hop:ag x.op t m= .mem v m')
 (h:o9 P S r l ⟨aO x.dst v t,dfs,ctx,m'⟩ o d1):o9 P S r (x::l) ⟨t,dfs,ctx,m⟩ o d1:=by
 obtain ⟨n,hn⟩:=h
 refine ⟨n, ?_⟩
 rw[dz,hg,hop]
 exact hn
theorem o9.off {x:NOper} (hg:aB t x.guard=some false)
 (h:o9 P S r l ⟨aO x.dst aT t,dfs,ctx,m⟩ o d1):o9 P S r (x::l) ⟨t,dfs,ctx,m⟩ o d1:=by
 obtain ⟨n,hn⟩:=h
 refine ⟨n, ?_⟩
 rw[dz,hg]
 exact hn
theorem o9.call {x:NOper} {m':NH} {c:Option NV} (hg:aB t x.guard=some true) (hop:ag x.op t m= .call f args)
 (hc:Call P S f args m (.val v c m')) (h:o9 P S r l ⟨aO x.dst v t,dfs,ctx,m'⟩ o d1):o9 P S r (x::l) ⟨t,dfs,ctx,m⟩ o d1:=by
 obtain ⟨n,hn⟩:=h
 obtain ⟨hne,k,hk⟩:=hc
 refine ⟨max n k, ?_⟩
 rw[dz,hg,hop]
 show GB x.dst (dV P S (ev P S (max n k)) r l) t dfs ctx (CS dfs ctx (cS P S (ev P S (max n k)) f args m))=_
 rw[ef (cK (Nat.le_max_right n k)) hk hne]
 exact jU (cK (Nat.le_max_left n k)) _ _ _ _ hn
theorem Call.of_run  {nf:NFun} (hs:∀l,S f l=none) (hf:an P f=some (.code nf)) (ho:o= .norm∨o= .ret) (h:fJ P S none nf.body ⟨ew args 0 .leaf, [],none,m⟩ o d) (hd:d.dfs= [])
 {x:CR} (hx:cY d.h d.t nf.results .fail (fun l=> .val (jF l) d.ctx d.h)=x) (hne:x≠.fail):Call P S f args m x:=by
 obtain ⟨n,hn⟩:=h
 refine ⟨hne,n, ?_⟩
 unfold cS
 rw[hs]
 dsimp only
 rw[hf]
 dsimp only
 rw[gI,hf]
 dsimp only
 rw[hn]
 rcases ho with rfl|rfl<;>(dsimp only;rw[hd];exact hx)
theorem HG (hM:P.follows .mixedOrders=true) (hP:P.check= .ok ()) (hS:mT P S) {m':NH} {c:Option NV} {nf:NFun} (hf:an P f=some (.code nf)) (hs:S f args=none) (hc:Call P S f args m (.val v c m'))
 {ι:bi} {w:World} (hR:Rel P ι w.heap.size m w) (hlive:∀i p,ι i=some p->¬Live (m.get i)) {args':List Value} (ha:VRL ι args args'):
 Calls P f args'.toArray w fun e w'=>(∃ι' v',e= .returned v'/\VR ι' v v'/\ι.le ι'/\Rel P ι' w.heap.size m' w')/\Below w.heap.size w w':=by
 intro cs
 obtain ⟨_,n,hn⟩:=hc
 have hn':dx P (ev P S n) 3 f args none m= .val v c m':=by
  unfold cS at hn
  rw[hs] at hn
  dsimp only at hn
  rw[hf] at hn
  exact hn
 obtain ⟨hO,_⟩:=qk hM (np hP) hS n
 have hD:=jO (np hP) hO 3 f args none m
 obtain ⟨_,hF⟩:=hD (by rw[hn'];simp)
 have hF:=hF w.heap.size ι w args' .normal cs hR (Nat.le_refl _) ha (fun b hb=>by unfold tryRecover;rw[hb])
 rw[hn'] at hF
 obtain ⟨ι',v',w',cs',fr,f1,f2,f3,f4,f5,f6,f7,f8,f9⟩:=hF
 obtain ⟨rfl,_⟩:=f5.none
 refine ⟨.returned v',w',fr,⟨⟨ι',v',rfl,f1,f4.le,f2⟩,⟨f4.os,f4.tape,f4.output,f4.size,fun k hk=>f4.frame k hk fun i p hi hl=>W9 hl (hlive i p hi)⟩⟩,f6,f8,fe f7 f9⟩
end
end Nm
namespace Nm
open Go Go.RowKit
variable {a b:Int} {k:IntKind}
noncomputable def ah:List (D4×NV)->Tm->Tm
 | [],t=>t
 |p::l,t=>NT.put p.1 p.2 (ah l t)
noncomputable def fH (k:D4):List (D4×NV)->Option NV->Option NV
 | [],d=>d
 |p::l,d=>cond (bG k p.1) (some p.2) (fH k l d)
theorem qE (k:D4):bG k k=true:=by
 induction k with
 |e=>rfl
 |a d ih=>exact ih
 |b d ih=>exact ih
 |c d ih=>exact ih
 |f d ih=>exact ih
theorem gn (k:D4) (l:List (D4×NV)) (t:Tm):NT.get k (ah l t)=fH k l (NT.get k t):=by
 induction l with
 |nil=>rfl
 |cons p l ih=>
  show NT.get k (NT.put p.1 p.2 (ah l t))=cond (bG k p.1) (some p.2) (fH k l (NT.get k t))
  cases h:bG k p.1 with
  |true=>rw[km h,NT.get_put_same];rfl
  |false=>
   have hne:k≠p.1:=fun e=>by rw[e,qE] at h;cases h
   rw[NT.get_put_ne hne,ih];rfl
def bW (P:Program) (S:Nat->List NV->Option NV) (r:Option D4) (l:List NOper) (hs:List (Nat×NH)) (rs:List (Nat×(NH->NR)×NV)) (d:Dyn) (o:Out) (d':Dyn):Prop:=∃n,cu P S (ev P S n) r l hs rs d= .mk o d'
section
variable {P:Program} {S:Nat->List NV->Option NV} {r:Option D4} {x:NOper} {l:List NOper} {hs:List (Nat×NH)} {rs:List (Nat×(NH->NR)×NV)} {t:Tm} {dfs:List Dfr} {ctx:Option NV} {m m':NH} {o:Out} {d d1:Dyn} {v:NV}
theorem fJ.regD (h:bW P S r l [] [] d .norm d1):fJ P S r (.regD l) d .norm d1:=by
 obtain ⟨n,hn⟩:=h
 refine ⟨n+1, ?_⟩
 show (match cu P S (ev P S n) r l [] [] d with| .mk (.pan v) d=>Res.mk (.pan v) ⟨qG l d.t,d.dfs,d.ctx,d.h⟩|r=>r)=_
 rw[hn]
theorem bW.nil (d:Dyn):bW P S r [] hs rs d .norm d:=⟨0,rfl⟩
theorem bW.off (hg:aB t x.guard=some false) (h:bW P S r l hs rs ⟨aO x.dst aT t,dfs,ctx,m⟩ o d1):bW P S r (x::l) hs rs ⟨t,dfs,ctx,m⟩ o d1:=by
 obtain ⟨n,hn⟩:=h
 exact ⟨n,by rw[cN,hg];exact hn⟩
theorem bW.pure (hg:aB t x.guard=some true) (hc:ay x.op= .pure) (hop:ag x.op t m= .val v) (h:bW P S r l hs rs ⟨aO x.dst v t,dfs,ctx,m⟩ o d1):bW P S r (x::l) hs rs ⟨t,dfs,ctx,m⟩ o d1:=by
 obtain ⟨n,hn⟩:=h
 exact ⟨n,by rw[cN,hg];dsimp only;rw[hc];dsimp only;rw[hop];exact hn⟩
theorem bW.alloc (hg:aB t x.guard=some true) (hc:ay x.op= .alloc) (ha:ahead x.pre hs=true) (hop:ag x.op t m= .mem v m') (h:bW P S r l hs rs ⟨aO x.dst v t,dfs,ctx,m'⟩ o d1):bW P S r (x::l) hs rs ⟨t,dfs,ctx,m⟩ o d1:=by
 obtain ⟨n,hn⟩:=h
 exact ⟨n,by rw[cN,hg];dsimp only;rw[hc];dsimp only;rw[ha,hop];exact hn⟩
theorem bW.read (hg:aB t x.guard=some true) (hc:ay x.op= .read) (hop:ag x.op t m= .val v) (ha:dP x.pre (ag x.op t) v hs=true)
 (h:bW P S r l hs ((x.idx,ag x.op t,v)::rs) ⟨aO x.dst v t,dfs,ctx,m⟩ o d1):bW P S r (x::l) hs rs ⟨t,dfs,ctx,m⟩ o d1:=by
 obtain ⟨n,hn⟩:=h
 exact ⟨n,by rw[cN,hg];dsimp only;rw[hc];dsimp only;rw[hop];dsimp only;rw[ha];exact hn⟩
theorem bW.eff (hg:aB t x.guard=some true) (hc:ay x.op= .eff) (ha:ahead x.pre hs=true) (hop:ag x.op t m= .mem v m') (hst:stays x.pre m' rs=true)
 (h:bW P S r l ((x.idx,m)::hs) rs ⟨aO x.dst v t,dfs,ctx,m'⟩ .norm d1):bW P S r (x::l) hs rs ⟨t,dfs,ctx,m⟩ .norm d1:=by
 obtain ⟨n,hn⟩:=h
 refine ⟨n, ?_⟩
 rw[cN,hg];dsimp only;rw[hc];dsimp only;rw[ha,hop]
 show dY (cZ x.idx l) (cond (stays x.pre m' rs) (cu P S (ev P S n) r l ((x.idx,m)::hs) rs ⟨aO x.dst v t,dfs,ctx,m'⟩) .fail)=_
 rw[hst]
 show dY (cZ x.idx l) (cu P S (ev P S n) r l ((x.idx,m)::hs) rs ⟨aO x.dst v t,dfs,ctx,m'⟩)=_
 rw[hn];rfl
theorem bW.effv (hg:aB t x.guard=some true) (hc:ay x.op= .eff) (ha:ahead x.pre hs=true) (hop:ag x.op t m= .val v) (hst:stays x.pre m rs=true)
 (h:bW P S r l ((x.idx,m)::hs) rs ⟨aO x.dst v t,dfs,ctx,m⟩ .norm d1):bW P S r (x::l) hs rs ⟨t,dfs,ctx,m⟩ .norm d1:=by
 obtain ⟨n,hn⟩:=h
 refine ⟨n, ?_⟩
 rw[cN,hg];dsimp only;rw[hc];dsimp only;rw[ha,hop]
 show dY (cZ x.idx l) (cond (stays x.pre m rs) (cu P S (ev P S n) r l ((x.idx,m)::hs) rs ⟨aO x.dst v t,dfs,ctx,m⟩) .fail)=_
 rw[hst]
 show dY (cZ x.idx l) (cu P S (ev P S n) r l ((x.idx,m)::hs) rs ⟨aO x.dst v t,dfs,ctx,m⟩)=_
 rw[hn];rfl
theorem bW.call {f:Nat} {args:List NV} {c:Option NV} (hg:aB t x.guard=some true) (hc:ay x.op= .eff) (ha:ahead x.pre hs=true) (hop:ag x.op t m= .call f args) (hcall:Call P S f args m (.val v c m')) (hst:stays x.pre m' rs=true)
 (h:bW P S r l ((x.idx,m)::hs) rs ⟨aO x.dst v t,dfs,ctx,m'⟩ .norm d1):bW P S r (x::l) hs rs ⟨t,dfs,ctx,m⟩ .norm d1:=by
 obtain ⟨n,hn⟩:=h
 obtain ⟨hne,k,hk⟩:=hcall
 refine ⟨max n k, ?_⟩
 rw[cN,hg];dsimp only;rw[hc];dsimp only;rw[ha,hop]
 show dY (cZ x.idx l) (GB x.dst (fun d=>cond (stays x.pre d.h rs) (cu P S (ev P S (max n k)) r l ((x.idx,m)::hs) rs d) .fail) t dfs ctx (CS dfs ctx (cS P S (ev P S (max n k)) f args m)))=_
 rw[ef (cK (Nat.le_max_right n k)) hk hne]
 show dY (cZ x.idx l) (cond (stays x.pre m' rs) (cu P S (ev P S (max n k)) r l ((x.idx,m)::hs) rs ⟨aO x.dst v t,dfs,ctx,m'⟩) .fail)=_
 rw[hst]
 show dY (cZ x.idx l) (cu P S (ev P S (max n k)) r l ((x.idx,m)::hs) rs ⟨aO x.dst v t,dfs,ctx,m'⟩)=_
 rw[nN (cK (Nat.le_max_left n k)) _ _ _ _ _ _ hn];rfl
end
def BW (P:Program) (S:Nat->List NV->Option NV) (l:D4) (args:List NV) (m:NH) (x:CR):Prop:=x≠.fail/\∃n,round (ev P S n) l args m=x
section
variable {P:Program} {S:Nat->List NV->Option NV} {r:Option D4} {x:NOper} {l:List NOper} {hs:List (Nat×NH)} {rs:List (Nat×(NH->NR)×NV)} {t:Tm} {dfs:List Dfr} {ctx:Option NV} {m m':NH} {o:Out} {d1:Dyn} {v:NV} {q:D4} {args:List NV} {c:Option NV}
theorem o9.yld (hg:aB t x.guard=some true) (hop:ag x.op t m= .yld q args) (hc:BW P S q args m (.val v c m')) (h:o9 P S r l ⟨aO x.dst v t,dfs,ctx,m'⟩ o d1):o9 P S r (x::l) ⟨t,dfs,ctx,m⟩ o d1:=by
 obtain ⟨n,hn⟩:=h
 obtain ⟨hne,k,hk⟩:=hc
 refine ⟨max n k, ?_⟩
 rw[dz,hg,hop]
 show GB x.dst (dV P S (ev P S (max n k)) r l) t dfs ctx (CS dfs ctx (round (ev P S (max n k)) q args m))=_
 rw[gH (cK (Nat.le_max_right n k)) hk hne]
 exact jU (cK (Nat.le_max_left n k)) _ _ _ _ hn
theorem bW.yld (hg:aB t x.guard=some true) (hc:ay x.op= .eff) (ha:ahead x.pre hs=true) (hop:ag x.op t m= .yld q args) (hcall:BW P S q args m (.val v c m')) (hst:stays x.pre m' rs=true)
 (h:bW P S r l ((x.idx,m)::hs) rs ⟨aO x.dst v t,dfs,ctx,m'⟩ .norm d1):bW P S r (x::l) hs rs ⟨t,dfs,ctx,m⟩ .norm d1:=by
 obtain ⟨n,hn⟩:=h
 obtain ⟨hne,k,hk⟩:=hcall
 refine ⟨max n k, ?_⟩
 rw[cN,hg];dsimp only;rw[hc];dsimp only;rw[ha,hop]
 show dY (cZ x.idx l) (GB x.dst (fun d=>cond (stays x.pre d.h rs) (cu P S (ev P S (max n k)) r l ((x.idx,m)::hs) rs d) .fail) t dfs ctx (CS dfs ctx (round (ev P S (max n k)) q args m)))=_
 rw[gH (cK (Nat.le_max_right n k)) hk hne]
 show dY (cZ x.idx l) (cond (stays x.pre m' rs) (cu P S (ev P S (max n k)) r l ((x.idx,m)::hs) rs ⟨aO x.dst v t,dfs,ctx,m'⟩) .fail)=_
 rw[hst]
 show dY (cZ x.idx l) (cu P S (ev P S (max n k)) r l ((x.idx,m)::hs) rs ⟨aO x.dst v t,dfs,ctx,m'⟩)=_
 rw[nN (cK (Nat.le_max_left n k)) _ _ _ _ _ _ hn];rfl
end
section
variable {P:Program} {S:Nat->List NV->Option NV} {r:Option D4} {x:NOper} {l:List NOper} {hs:List (Nat×NH)} {rs:List (Nat×(NH->NR)×NV)} {L:List (D4×NV)} {t:Tm} {dfs:List Dfr} {ctx:Option NV} {m m':NH} {o:Out} {d1:Dyn} {v:NV} {k:D4}
theorem bW.p (hd:x.dst=some k) (hg:aB (ah L t) x.guard=some true) (hc:ay x.op= .pure) (hop:ag x.op (ah L t) m= .val v) (h:bW P S r l hs rs ⟨ah ((k,v)::L) t,dfs,ctx,m⟩ o d1):bW P S r (x::l) hs rs ⟨ah L t,dfs,ctx,m⟩ o d1:=
 bW.pure hg hc hop (by rw[hd];exact h)
theorem bW.rd (hd:x.dst=some k) (hg:aB (ah L t) x.guard=some true) (hc:ay x.op= .read) (hop:ag x.op (ah L t) m= .val v) (ha:dP x.pre (ag x.op (ah L t)) v hs=true)
 (h:bW P S r l hs ((x.idx,ag x.op (ah L t),v)::rs) ⟨ah ((k,v)::L) t,dfs,ctx,m⟩ o d1):bW P S r (x::l) hs rs ⟨ah L t,dfs,ctx,m⟩ o d1:=
 bW.read hg hc hop ha (by rw[hd];exact h)
theorem bW.e (hd:x.dst=some k) (hg:aB (ah L t) x.guard=some true) (hc:ay x.op= .eff) (ha:ahead x.pre hs=true) (hop:ag x.op (ah L t) m= .mem v m') (hst:stays x.pre m' rs=true)
 (h:bW P S r l ((x.idx,m)::hs) rs ⟨ah ((k,v)::L) t,dfs,ctx,m'⟩ .norm d1):bW P S r (x::l) hs rs ⟨ah L t,dfs,ctx,m⟩ .norm d1:=
 bW.eff hg hc ha hop hst (by rw[hd];exact h)
theorem bW.c {f:Nat} {args:List NV} {c:Option NV} (hd:x.dst=some k) (hg:aB (ah L t) x.guard=some true) (hc:ay x.op= .eff) (ha:ahead x.pre hs=true) (hop:ag x.op (ah L t) m= .call f args) (hcall:Call P S f args m (.val v c m')) (hst:stays x.pre m' rs=true)
 (h:bW P S r l ((x.idx,m)::hs) rs ⟨ah ((k,v)::L) t,dfs,ctx,m'⟩ .norm d1):bW P S r (x::l) hs rs ⟨ah L t,dfs,ctx,m⟩ .norm d1:=
 bW.call hg hc ha hop hcall hst (by rw[hd];exact h)
end
section
variable {t:Tm} {m:NH}
theorem iU {op:BinOp} (h:fU op=false):dN .num op (.int k (.lit a)) (.int k (.lit b))=dR op k a b:=by
 show cond (fU op) (dR op k a b) (cond (FE k k) (dR op k a b) none)=_
 rw[show FE k k=true by cases k<;>rfl,h];rfl
theorem TN :dN .num .lss (.int k (.lit a)) (.int k (.lit b))=some (.bool (decide (a<b))):=
 (iU rfl).trans (by show cq (yM a b)=_;rw[jg,bA])
theorem UC :dN .num .leq (.int k (.lit a)) (.int k (.lit b))=some (.bool (decide (a<=b))):=
 (iU rfl).trans (by show cq (OL a b)=_;rw[qn,bA])
theorem T0 :dN .num .gtr (.int k (.lit a)) (.int k (.lit b))=some (.bool (decide (b<a))):=
 (iU rfl).trans (by show cq (yM b a)=_;rw[jg,bA])
theorem TI :dN .num .geq (.int k (.lit a)) (.int k (.lit b))=some (.bool (decide (b<=a))):=
 (iU rfl).trans (by show cq (OL b a)=_;rw[qn,bA])
theorem UU :dN .num .eql (.int k (.lit a)) (.int k (.lit b))=some (.bool (decide (a=b))):=
 (iU rfl).trans (by show cq (vw a b)=_;rw[fI,bA];rfl)
theorem Tk :dN .num .neq (.int k (.lit a)) (.int k (.lit b))=some (.bool (decide (a≠b))):=
 (iU rfl).trans (by show cq (n4 (vw a b))=_;rw[fI,bA,ij];by_cases h:a=b<;>simp[h])
theorem wrap_small {n:Int} (h:-9223372036854775808<=n) (h':n<9223372036854775808):bF .i64 n=n:=by
 cases n with
 |ofNat m=>
  show cond (Nat.ble (Nat.succ m) 9223372036854775808) (Int.ofNat m) _=_
  rw[Nat.ble_eq_true_of_le (by have:(m:Int)<9223372036854775808:=h';omega)];rfl
 |negSucc m=>
  show cond (Nat.ble (Nat.succ m) 9223372036854775808) (Int.negSucc m) _=_
  rw[Nat.ble_eq_true_of_le (by have:-9223372036854775808<=Int.negSucc m:=h;omega)];rfl
theorem Td  (h:-9223372036854775808<=a+b) (h':a+b<9223372036854775808):dN .num .add (.int .i64 (.lit a)) (.int .i64 (.lit b))=some (.int .i64 (.lit (a+b))):=by
 refine (iU rfl).trans ?_
 show cD .i64 (bF .i64 (AD a b))=_
 have e:AD a b=a+b:=by cases a<;>cases b<;>rfl
 rw[e,wrap_small h h']
 exact kA _ _
end
end Nm
namespace Nm
open Go Go.RowKit
def dC (K:Dyn->Prop) (Q:Out->Dyn->Prop) (o:Out) (d:Dyn):Prop:=match o with| .norm=>K d|o=>Q o d
def jn (i:Nat) (Q:Out->Dyn->Prop) (o:Out) (d:Dyn):Prop:=match o with| .exit j=>Q (if j=i then .norm else .exit j) d|o=>Q o d
def wB (o:Option NV) (A B:Prop):Prop:=match o with|some (.bool q)=>(q=true->A)/\(q=false->B)|_=>False
section
variable (P:Program) (S:Nat->List NV->Option NV) (r:Option D4)
def W (c:NC) (d:Dyn) (Q:Out->Dyn->Prop):Prop:=∃o d',fJ P S r c d o d'/\Q o d'
def wN (dst:Option D4) (t:Tm) (dfs:List Dfr) (ctx:Option NV) (m:NH) (x:NR) (K:Dyn->Prop):Prop:=match x with
 | .val v=>K ⟨aO dst v t,dfs,ctx,m⟩
 | .mem v m'=>K ⟨aO dst v t,dfs,ctx,m'⟩
 | .call f args=>∃v c m',Call P S f args m (.val v c m')/\K ⟨aO dst v t,dfs,ctx,m'⟩
 | .yld q args=>∃v c m',BW P S q args m (.val v c m')/\K ⟨aO dst v t,dfs,ctx,m'⟩
 |_=>False
def wO:List NOper->Dyn->(Dyn->Prop)->Prop
 | [],d,K=>K d
 |x::l,d,K=>match aB d.t x.guard with
  |some true=>wN P S x.dst d.t d.dfs d.ctx d.h (ag x.op d.t d.h) fun d=>wO l d K
  |some false=>wO l ⟨aO x.dst aT d.t,d.dfs,d.ctx,d.h⟩ K
  |none=>False
def wD:List NOper->List (Nat×NH)->List (Nat×(NH->NR)×NV)->Dyn->(Dyn->Prop)->Prop
 | [],_,_,d,K=>K d
 |x::l,hs,rs,d,K=>match aB d.t x.guard with
  |some true=>(match ay x.op with
   | .pure=>(match ag x.op d.t d.h with| .val v=>wD l hs rs ⟨aO x.dst v d.t,d.dfs,d.ctx,d.h⟩ K|_=>False)
   | .alloc=>ahead x.pre hs=true/\(match ag x.op d.t d.h with| .mem v m'=>wD l hs rs ⟨aO x.dst v d.t,d.dfs,d.ctx,m'⟩ K|_=>False)
   | .read=>(match ag x.op d.t d.h with| .val v=>dP x.pre (ag x.op d.t) v hs=true/\wD l hs ((x.idx,ag x.op d.t,v)::rs) ⟨aO x.dst v d.t,d.dfs,d.ctx,d.h⟩ K|_=>False)
   | .eff=>ahead x.pre hs=true/\wN P S x.dst d.t d.dfs d.ctx d.h (ag x.op d.t d.h) fun d'=>stays x.pre d'.h rs=true/\wD l ((x.idx,d.h)::hs) rs d' K)
  |some false=>wD l hs rs ⟨aO x.dst aT d.t,d.dfs,d.ctx,d.h⟩ K
  |none=>False
def wp:NC->Dyn->(Out->Dyn->Prop)->Prop
 | .skip,d,Q=>Q .norm d
 | .ret,d,Q=>Q .ret d
 | .exit i,d,Q=>Q (.exit i) d
 | .seq a b,d,Q=>wp a d (dC (fun d=>wp b d Q) Q)
 | .cond g a b,d,Q=>wB (ρ d.t g) (wp a d Q) (wp b d Q)
 | .block i a,d,Q=>wp a d (jn i Q)
 | .reg l,d,Q=>wO P S l d (Q .norm)
 | .regD l,d,Q=>wD P S l [] [] d (Q .norm)
 | .loop a,d,Q=>W P S r (.loop a) d Q
 | .rangeFunc f ps a b,d,Q=>W P S r (.rangeFunc f ps a b) d Q
end
section
variable {P:Program} {S:Nat->List NV->Option NV} {r:Option D4}
theorem JD:∀(l:List NOper) (d:Dyn) (K:Dyn->Prop),wO P S l d K->∃d',o9 P S r l d .norm d'/\K d':=by
 intro l
 induction l with
 |nil=>exact fun d K h=>⟨d,o9.nil d,h⟩
 |cons x l ih=>
  rintro ⟨t,dfs,ctx,m⟩ K h
  unfold wO at h
  dsimp only at h
  split at h
  ·rename_i hg
   cases hop:ag x.op t m with
   |val v=>rw[hop] at h;obtain ⟨d',h1,h2⟩:=ih _ _ h;exact ⟨d',o9.val hg hop h1,h2⟩
   |mem v m'=>rw[hop] at h;obtain ⟨d',h1,h2⟩:=ih _ _ h;exact ⟨d',o9.mem hg hop h1,h2⟩
   |call f args=>
    rw[hop] at h
    obtain ⟨v,c,m',hc,h⟩:=h
    obtain ⟨d',h1,h2⟩:=ih _ _ h
    exact ⟨d',o9.call hg hop hc h1,h2⟩
   |yld q args=>
    rw[hop] at h
    obtain ⟨v,c,m',hc,h⟩:=h
    obtain ⟨d',h1,h2⟩:=ih _ _ h
    exact ⟨d',o9.yld hg hop hc h1,h2⟩
   |_=>rw[hop] at h;exact h.elim
  ·rename_i hg
   obtain ⟨d',h1,h2⟩:=ih _ _ h;exact ⟨d',o9.off hg h1,h2⟩
  ·exact h.elim
theorem IX:∀(l:List NOper) (hs:List (Nat×NH)) (rs:List (Nat×(NH->NR)×NV)) (d:Dyn) (K:Dyn->Prop),wD P S l hs rs d K->∃d',bW P S r l hs rs d .norm d'/\K d':=by
 intro l
 induction l with
 |nil=>exact fun hs rs d K h=>⟨d,bW.nil d,h⟩
 |cons x l ih=>
  rintro hs rs ⟨t,dfs,ctx,m⟩ K h
  unfold wD at h
  dsimp only at h
  split at h
  ·rename_i hg
   split at h
   ·rename_i hcl
    cases hop:ag x.op t m with
    |val v=>rw[hop] at h;obtain ⟨d',h1,h2⟩:=ih _ _ _ _ h;exact ⟨d',bW.pure hg hcl hop h1,h2⟩
    |_=>rw[hop] at h;exact h.elim
   ·rename_i hcl
    obtain ⟨ha,h⟩:=h
    cases hop:ag x.op t m with
    |mem v m'=>rw[hop] at h;obtain ⟨d',h1,h2⟩:=ih _ _ _ _ h;exact ⟨d',bW.alloc hg hcl ha hop h1,h2⟩
    |_=>rw[hop] at h;exact h.elim
   ·rename_i hcl
    cases hop:ag x.op t m with
    |val v=>rw[hop] at h;obtain ⟨ha,h⟩:=h;obtain ⟨d',h1,h2⟩:=ih _ _ _ _ h;exact ⟨d',bW.read hg hcl hop ha h1,h2⟩
    |_=>rw[hop] at h;exact h.elim
   ·rename_i hcl
    obtain ⟨ha,h⟩:=h
    cases hop:ag x.op t m with
    |val v=>rw[hop] at h;obtain ⟨hst,h⟩:=h;obtain ⟨d',h1,h2⟩:=ih _ _ _ _ h;exact ⟨d',bW.effv hg hcl ha hop hst h1,h2⟩
    |mem v m'=>rw[hop] at h;obtain ⟨hst,h⟩:=h;obtain ⟨d',h1,h2⟩:=ih _ _ _ _ h;exact ⟨d',bW.eff hg hcl ha hop hst h1,h2⟩
    |call f args=>
     rw[hop] at h
     obtain ⟨v,c,m',hc,hst,h⟩:=h
     obtain ⟨d',h1,h2⟩:=ih _ _ _ _ h
     exact ⟨d',bW.call hg hcl ha hop hc hst h1,h2⟩
    |yld q args=>
     rw[hop] at h
     obtain ⟨v,c,m',hc,hst,h⟩:=h
     obtain ⟨d',h1,h2⟩:=ih _ _ _ _ h
     exact ⟨d',bW.yld hg hcl ha hop hc hst h1,h2⟩
    |_=>rw[hop] at h;exact h.elim
  ·rename_i hg
   obtain ⟨d',h1,h2⟩:=ih _ _ _ _ h;exact ⟨d',bW.off hg h1,h2⟩
  ·exact h.elim
theorem ax:∀(c:NC) (d:Dyn) (Q:Out->Dyn->Prop),wp P S r c d Q->W P S r c d Q:=by
 intro c
 induction c with
 |skip=>exact fun d Q h=>⟨_,_,fJ.skip d,h⟩
 |ret=>exact fun d Q h=>⟨_,_,fJ.ret d,h⟩
 |exit i=>exact fun d Q h=>⟨_,_,fJ.exit i d,h⟩
 |seq a b iha ihb=>
  intro d Q h
  obtain ⟨o,d1,h1,h2⟩:=iha _ _ h
  cases o with
  |norm=>obtain ⟨o,d2,h3,h4⟩:=ihb _ _ h2;exact ⟨o,d2,fJ.seq h1 h3,h4⟩
  |_=>exact ⟨_,_,fJ.seq_out h1 (by simp),h2⟩
 |cond g a b iha ihb=>
  intro d Q h
  unfold wp wB at h
  split at h
  ·rename_i q hq
   cases q with
   |true=>obtain ⟨o,d1,h1,h2⟩:=iha _ _ (h.1 rfl);exact ⟨o,d1,fJ.cond hq (by simpa using h1),h2⟩
   |false=>obtain ⟨o,d1,h1,h2⟩:=ihb _ _ (h.2 rfl);exact ⟨o,d1,fJ.cond hq (by simpa using h1),h2⟩
  ·exact h.elim
 |block i a iha=>
  intro d Q h
  obtain ⟨o,d1,h1,h2⟩:=iha _ _ h
  refine ⟨_,d1,fJ.block h1, ?_⟩
  cases o with
  |exit j=>
   dsimp only
   change Q (if j=i then .norm else .exit j) d1 at h2
   by_cases e:j=i
   ·subst e;rw[Xb rfl] at h2;rw[Nat.beq_refl];exact h2
   ·rw[Xa e] at h2
    rw[show Nat.beq j i=false from by cases hb:Nat.beq j i with|false=>rfl|true=>exact W9 (Xg hb) e];exact h2
  |_=>exact h2
 |reg l=>
  intro d Q h
  obtain ⟨d',h1,h2⟩:=JD (r:=r) _ _ _ h
  exact ⟨_,_,fJ.reg h1,h2⟩
 |regD l=>
  intro d Q h
  obtain ⟨d',h1,h2⟩:=IX (r:=r) _ _ _ _ _ h
  exact ⟨_,_,fJ.regD h1,h2⟩
 |loop a _=>exact fun d Q h=>h
 |rangeFunc f ps a b _ _=>exact fun d Q h=>h
theorem W.loop {c:NC} {Q:Out->Dyn->Prop} (I:Nat->Dyn->Prop) (h:∀k d,I k d->W P S r c d (fun o d'=>match o with| .norm=>∃j,j<k/\I j d'|o=>Q o d')):∀k d,I k d->W P S r (.loop c) d Q:=by
 intro k
 induction k using Nat.strongRecOn with
 |ind k ih=>
  intro d hd
  obtain ⟨o,d',h1,h2⟩:=h k d hd
  cases o with
  |norm=>
   obtain ⟨j,hj,hI⟩:=h2
   obtain ⟨o,d2,h3,h4⟩:=ih j hj d' hI
   exact ⟨o,d2,fJ.loop h1 h3,h4⟩
  |_=>exact ⟨_,_,fJ.loop_out h1 (by simp),h2⟩
theorem W.mono {c:NC} {d:Dyn} {Q Q':Out->Dyn->Prop} (h:W P S r c d Q) (hq:∀o d,Q o d->Q' o d):W P S r c d Q':=by
 obtain ⟨o,d',h1,h2⟩:=h
 exact ⟨o,d',h1,hq _ _ h2⟩
end
end Nm
namespace Nm
open Go Go.RowKit
variable {x:NOpd} {i:Nat} {o:Option NV}
section
variable {P:Program} {S:Nat->List NV->Option NV} {r:Option D4} {dst:Option D4} {op:NOp} {pre idx:Nat} {l:List NOper} {hs:List (Nat×NH)} {rs:List (Nat×(NH->NR)×NV)}
 {L:List (D4×NV)} {t:Tm} {dfs:List Dfr} {ctx:Option NV} {m m':NH} {v:NV} {k k':D4} {d:Dyn} {Q:Out->Dyn->Prop} {K:Dyn->Prop} {A B:Prop}
theorem Ry:wp P S r .skip d Q=Q .norm d:=_root_.id rfl
theorem S1:wp P S r .ret d Q=Q .ret d:=_root_.id rfl
theorem R3 :wp P S r (.exit i) d Q=Q (.exit i) d:=_root_.id rfl
theorem tW  {a:NC}:wp P S r (.block i a) d Q=wp P S r a d (jn i Q):=_root_.id rfl
theorem Ta:wp P S r (.reg l) d Q=wO P S l d (Q .norm):=_root_.id rfl
theorem O0:wp P S r (.regD l) d Q=wD P S l [] [] d (Q .norm):=_root_.id rfl
theorem QJ {a:NC}:wp P S r (.loop a) d Q=W P S r (.loop a) d Q:=_root_.id rfl
theorem Qi:dC K Q .norm d=K d:=_root_.id rfl
theorem Pk:dC K Q .ret d=Q .ret d:=_root_.id rfl
theorem LX :dC K Q (.exit i) d=Q (.exit i) d:=_root_.id rfl
theorem Lb :jn i Q .norm d=Q .norm d:=_root_.id rfl
theorem Qr :jn i Q .ret d=Q .ret d:=_root_.id rfl
theorem Mn  {j:Nat}:jn i Q (.exit j) d=Q (if j=i then .norm else .exit j) d:=_root_.id rfl
theorem TF:wO P S [] d K=K d:=_root_.id rfl
def wX (c:lU) (x:NR) (P:Program) (S:Nat->List NV->Option NV) (f:NH->NR) (dst:Option D4) (pre idx:Nat) (l:List NOper) (hs:List (Nat×NH)) (rs:List (Nat×(NH->NR)×NV)) (d:Dyn) (K:Dyn->Prop):Prop:=
 match c with
 | .pure=>(match x with| .val v=>wD P S l hs rs ⟨aO dst v d.t,d.dfs,d.ctx,d.h⟩ K|_=>False)
 | .alloc=>ahead pre hs=true/\(match x with| .mem v m'=>wD P S l hs rs ⟨aO dst v d.t,d.dfs,d.ctx,m'⟩ K|_=>False)
 | .read=>(match x with| .val v=>dP pre f v hs=true/\wD P S l hs ((idx,f,v)::rs) ⟨aO dst v d.t,d.dfs,d.ctx,d.h⟩ K|_=>False)
 | .eff=>ahead pre hs=true/\wN P S dst d.t d.dfs d.ctx d.h x fun d'=>stays pre d'.h rs=true/\wD P S l ((idx,d.h)::hs) rs d' K
theorem Qs:wD P S [] hs rs d K=K d:=_root_.id rfl
theorem LT:wD P S (⟨dst,op,none,pre,idx⟩::l) hs rs ⟨ah L t,dfs,ctx,m⟩ K=wX (ay op) (ag op (ah L t) m) P S (ag op (ah L t)) dst pre idx l hs rs ⟨ah L t,dfs,ctx,m⟩ K:=by
 cases h:ay op<;>simp only[wD,aB,h,wX]<;>cases ag op (ah L t) m<;>rfl
section
variable {f:NH->NR}
theorem LY:wX .pure (.val v) P S f (some k) pre idx l hs rs ⟨ah L t,dfs,ctx,m⟩ K=wD P S l hs rs ⟨ah ((k,v)::L) t,dfs,ctx,m⟩ K:=_root_.id rfl
theorem HX:wX .alloc (.mem v m') P S f (some k) pre idx l hs rs ⟨ah L t,dfs,ctx,m⟩ K=(ahead pre hs=true/\wD P S l hs rs ⟨ah ((k,v)::L) t,dfs,ctx,m'⟩ K):=_root_.id rfl
theorem Mu:wX .read (.val v) P S f (some k) pre idx l hs rs ⟨ah L t,dfs,ctx,m⟩ K=(dP pre f v hs=true/\wD P S l hs ((idx,f,v)::rs) ⟨ah ((k,v)::L) t,dfs,ctx,m⟩ K):=_root_.id rfl
theorem I8:dP pre f v []=true:=_root_.id rfl
theorem JV:ahead pre []=true:=_root_.id rfl
theorem Kr:stays pre m []=true:=_root_.id rfl
end
theorem Uk:NT.get k (ah L t)=fH k L (NT.get k t):=gn k L t
theorem Uz:ρ (ah L t) (.tmp k)=fH k L (NT.get k t):=gn k L t
theorem Nq:ρ t (.const v)=some v:=_root_.id rfl
theorem NX :fH k [] o=o:=_root_.id rfl
theorem Q5 :fH k ((k',v)::L) o=cond (bG k k') (some v) (fH k L o):=_root_.id rfl
theorem Wf:bG .e .e=true:=_root_.id rfl
theorem Wz:bG .e (.a k)=false:=_root_.id rfl
theorem VP:bG .e (.b k)=false:=_root_.id rfl
theorem VD:bG .e (.c k)=false:=_root_.id rfl
theorem VF:bG .e (.f k)=false:=_root_.id rfl
theorem Vw:bG (.a k) .e=false:=_root_.id rfl
theorem VC:bG (.a k) (.a k')=bG k k':=_root_.id rfl
theorem VL:bG (.a k) (.b k')=false:=_root_.id rfl
theorem V2:bG (.a k) (.c k')=false:=_root_.id rfl
theorem Vu:bG (.a k) (.f k')=false:=_root_.id rfl
theorem Wg:bG (.b k) .e=false:=_root_.id rfl
theorem Wd:bG (.b k) (.a k')=false:=_root_.id rfl
theorem Vy:bG (.b k) (.b k')=bG k k':=_root_.id rfl
theorem Wb:bG (.b k) (.c k')=false:=_root_.id rfl
theorem Vt:bG (.b k) (.f k')=false:=_root_.id rfl
theorem Vv:bG (.c k) .e=false:=_root_.id rfl
theorem VI:bG (.c k) (.a k')=false:=_root_.id rfl
theorem Wl:bG (.c k) (.b k')=false:=_root_.id rfl
theorem Vr:bG (.c k) (.c k')=bG k k':=_root_.id rfl
theorem VB:bG (.c k) (.f k')=false:=_root_.id rfl
theorem WB:bG (.f k) .e=false:=_root_.id rfl
theorem We:bG (.f k) (.a k')=false:=_root_.id rfl
theorem VJ:bG (.f k) (.b k')=false:=_root_.id rfl
theorem WG:bG (.f k) (.c k')=false:=_root_.id rfl
theorem Wh:bG (.f k) (.f k')=bG k k':=_root_.id rfl
end
def oN (o:Option NV) (K:NV->NR):NR:=match o with|some v=>K v|none=> .fail
theorem V8 {v:NV} {K:NV->NR}:oN (some v) K=K v:=_root_.id rfl
theorem cC {t:Tm} {K:NV->NR}:wV t x K=oN (ρ t x) K:=by
 unfold wV oN;cases ρ t x<;>rfl
theorem VS {v:NV}:vr (some v)= .val v:=_root_.id rfl
def FT (v:NV):NR:=match v with| .slc _ _ n _ _=> .val (.int .i64 (.lit (.ofNat n)))| .nils=> .val (.int .i64 (.lit (.ofNat 0)))|_=> .fail
def ix (n:Nat) (s i:NV):NR:=match s,i with| .slc id off len _ _,.int _ (.lit (.ofNat i))=>if i<len then .val (.ptr id (off+i*n)) else .fail|_,_=> .fail
noncomputable def Mh (m:NH) (p:NV):NR:=match p with| .ptr id off=>(match m.get id with|some (.cells _ c)=>oN c[off]? .val|_=> .fail)|_=> .fail
noncomputable def Mj (n:Nat) (m:NH) (p:NV):NR:=match p with| .ptr id off=>(match m.get id with|some (.cells _ c)=>if off+n<=c.length then .val (.agg ((c.drop off).take n)) else .fail|_=> .fail)|_=> .fail
def U7 (k:Nat) (p:NV):NR:=match p with| .ptr id off=> .val (.ptr id (off+k))|_=> .fail
def UW (k:Nat) (a:NV):NR:=match a with| .agg l=>oN l[k]? .val|_=> .fail
section
variable {t:Tm} {m:NH}
theorem PW :ag (.move x) t m=oN (ρ t x) .val:=cC
theorem Ut {c:BC} {op:BinOp} {y:NOpd}:ag (.bin c op x y) t m=oN (ρ t x) fun a=>oN (ρ t y) fun b=>vr (dN c op a b):=by
 show wV t x (fun a=>wV t y fun b=>vr (dN c op a b))=_
 simp only[cC]
theorem Vs {u:UnOp}:ag (.un u x) t m=oN (ρ t x) fun v=>vr (Vd u v):=cC
theorem SM :ag (.lenSlc x) t m=oN (ρ t x) FT:=by
 show wV t x _=_
 rw[cC];cases ρ t x with
 |none=>rfl
 |some v=>cases v<;>rfl
theorem TL {n:Nat} {i:NOpd}:ag (.indexSlc n x i) t m=oN (ρ t x) fun s=>oN (ρ t i) fun i=>ix n s i:=by
 show wV t x (fun v=>gR t i fun i=>match v with
  | .slc id off len _ _=>cond (Nat.ble (Nat.succ i) len) (aD (Nat.add off (Nat.mul i n)) fun o=> .val (.ptr id o)) .fail
  |_=> .fail)=_
 unfold gR
 simp only[cC]
 cases ρ t x with
 |none=>rfl
 |some s=>
  show oN (ρ t i) _=oN (ρ t i) _
  cases ρ t i with
  |none=>rfl
  |some j=>
   show aV (kV j) _=ix n s j
   cases j with
   |int k z=>
    cases z with
    |lit z=>
     cases z with
     |ofNat q=>
      cases s with
      |slc id off len e kc=>
       show cond (Nat.ble (Nat.succ q) len) (aD (Nat.add off (Nat.mul q n)) fun o=>NR.val (.ptr id o)) .fail=if q<len then _ else _
       rw[ai]
       by_cases hq:q<len
       ·rw[Xb hq,Nat.ble_eq_true_of_le hq];rfl
       ·rw[Xa hq,show Nat.ble (Nat.succ q) len=false from by cases hb:Nat.ble (Nat.succ q) len with|false=>rfl|true=>exact W9 (Nat.le_of_ble_eq_true hb) hq];rfl
      |_=>rfl
     |negSucc q=>cases s<;>rfl
   |_=>cases s<;>rfl
theorem Tr :ag (.load1 x) t m=oN (ρ t x) (Mh m):=by
 show wV t x (fun a=>match a with| .ptr id off=>cA m id fun c=>aV (bw c off) .val|_=> .fail)=_
 rw[cC]
 cases ρ t x with
 |none=>rfl
 |some v=>
  cases v with
  |ptr id off=>
   show cA m id (fun c=>aV (bw c off) .val)=Mh m (.ptr id off)
   unfold cA Mh
   dsimp only
   split<;>rename_i hm
   ·rw[hm];dsimp only;rw[fQ];cases (_:List NV)[off]? <;>rfl
   ·split<;>rename_i h2
    ·exact W9 h2 (hm _ _)
    ·rfl
  |_=>rfl
theorem UX {k:Nat}:ag (.fieldAddr k x) t m=oN (ρ t x) (U7 k):=by
 show wV t x (fun v=>match v with| .ptr id o=>aD (Nat.add o k) fun o=> .val (.ptr id o)|_=> .fail)=_
 rw[cC]
 cases ρ t x with
 |none=>rfl
 |some v=>cases v<;>first|rfl|exact ai (R:=NR) _ (fun o=> .val (.ptr _ o))
theorem UB {k off:Nat} {id:D4}:U7 k (.ptr id off)= .val (.ptr id (off+k)):=_root_.id rfl
end
theorem UE {b:Bool}:Vd .not (.bool b)=some (.bool (!b)):=by cases b<;>rfl
end Nm
namespace Nm
open Go Go.RowKit
def rK (o:Option NV) (K:NV->Prop):Prop:=match o with|some v=>K v|none=>False
def Fz (rs:List NRes) (K:NV->NH->Prop) (o:Out) (d:Dyn):Prop:=(o= .norm∨o= .ret)/\d.dfs= []/\∃v,cY d.h d.t rs .fail (fun l=> .val (jF l) d.ctx d.h)= .val v d.ctx d.h/\K v d.h
section
variable {P:Program} {S:Nat->List NV->Option NV} {L:List (D4×NV)} {t:Tm} {ctx:Option NV} {m:NH} {K:NV->NH->Prop} {k k1 k2 k3:D4}
theorem US {o:Out} (ho:o= .norm∨o= .ret):Fz [.tmp k] K o ⟨ah L t, [],ctx,m⟩=rK (fH k L (NT.get k t)) fun v=>K v m:=by
 apply propext
 have e:∀x,NT.get k (ah L t)=x->cY m (ah L t) [.tmp k] .fail (fun l=> .val (jF l) ctx m)=(match x with|some v=>CR.val v ctx m|none=> .fail):=by
  rintro x rfl
  show (match (match NT.get k (ah L t) with|some v=>NR.val v|none=>NR.fail) with| .val v=>CR.val (jF [v]) ctx m|_=>CR.fail)=_
  cases NT.get k (ah L t)<;>rfl
 constructor
 ·rintro ⟨_,_,v,h1,h2⟩
  change cY m (ah L t) [.tmp k] .fail (fun l=> .val (jF l) ctx m)=_ at h1
  rw[e _ (gn _ _ _)] at h1
  cases hx:fH k L (NT.get k t) with
  |none=>rw[hx] at h1;cases h1
  |some u=>rw[hx] at h1;cases h1;exact h2
 ·intro h
  cases hx:fH k L (NT.get k t) with
  |none=>rw[hx] at h;exact h.elim
  |some u=>rw[hx] at h;exact ⟨ho,rfl,u,(e _ ((gn _ _ _).trans hx)),h⟩
theorem RL:Fz [.tmp k] K .ret ⟨ah L t, [],ctx,m⟩=rK (fH k L (NT.get k t)) fun v=>K v m:=US (.inr rfl)
theorem Wx {v:NV} {K:NV->Prop}:rK (some v) K=K v:=_root_.id rfl
def WF (P:Program) (S:Nat->List NV->Option NV) (f:Nat) (args:List NV) (m:NH) (K:NV->NH->Prop):Prop:=∃v c m',Call P S f args m (.val v c m')/\K v m'
theorem WF.of_wp (hs:∀f l,S f l=none) {f:Nat} {nf:NFun} (hf:an P f=some (.code nf)) {args:List NV} {K:NV->NH->Prop} (hL:ew args 0 .leaf=ah L .leaf)
 (h:wp P S none nf.body ⟨ah L .leaf, [],none,m⟩ (Fz nf.results K)):WF P S f args m K:=by
 obtain ⟨o,d,h1,ho,hd,v,hv,hK⟩:=ax _ _ _ h
 rw[←hL] at h1
 exact ⟨v,d.ctx,d.h,Call.of_run (hs f) hf ho h1 hd hv (by simp),hK⟩
end
end Nm
namespace Nm
open Go Go.RowKit
variable {m:NH} {d:Option NO} {i j:Nat} {S:List D4} {K:NV->NH->Prop}
def na (m:NH) (j:Nat):D4:=D4.of (m.next.toNat+j)
def am (m:NH) (id:D4):Prop:=id.toNat<m.next.toNat
instance (m:NH) (id:D4):Decidable (am m id):=inferInstanceAs (Decidable (_<_))
inductive AK where
 |n (j:Nat)
 |o (id:D4)
variable {l:List (AK×NO)}
noncomputable def yw (m:NH):List (AK×NO)->NT NO
 | []=>m.m
 |(.n j,x)::l=>NT.put (na m j) x (yw m l)
 |(.o id,x)::l=>if am m id then NT.put id x (yw m l) else yw m l
noncomputable def hp (l:List (AK×NO)) (k:Nat) (m:NH):NH:=⟨yw m l,na m k⟩
def kY (j:Nat):List (AK×NO)->Option NO->Option NO
 | [],d=>d
 |(.n i,x)::l,d=>if j=i then some x else kY j l d
 |(.o _,_)::l,d=>kY j l d
noncomputable def jS (id:D4):List (AK×NO)->Option NO->Option NO
 | [],d=>d
 |(.n _,_)::l,d=>jS id l d
 |(.o i,x)::l,d=>@ite _ (id=i) (Classical.propDecidable _) (some x) (jS id l d)
theorem jM  (h:na m i=na m j):i=j:=by
 have:=D4.of_inj h;omega
theorem oE :(na m i=na m j)=(i=j):=propext ⟨jM,fun h=>by rw[h]⟩
theorem Qk (m:NH) (k:Nat):(na m k).nxt=na m (k+1):=by
 apply D4.toNat_inj
 rw[D4.toNat_nxt];unfold na;rw[D4.toNat_of,D4.toNat_of];omega
theorem uJ (m:NH):na m 0=m.next:=D4.of_toNat _
theorem aa (m:NH):hp [] 0 m=m:=by
 show NH.mk m.m (na m 0)=m
 rw[uJ]
theorem am.ne  {id:D4} (h:am m id) (j:Nat):id≠na m j:=by
 intro e
 unfold am at h
 rw[e] at h;unfold na at h;rw[D4.toNat_of] at h;omega
section
variable {m:NH} {l:List (AK×NO)} {k j:Nat} {o:NO} {id:D4}
theorem QA:(hp l k m).next=na m k:=_root_.id rfl
theorem DV:(hp l k m).add o=hp ((.n k,o)::l) (k+1) m:=by
 show NH.mk (NT.put (na m k) o (yw m l)) (na m k).nxt=NH.mk (NT.put (na m k) o (yw m l)) (na m (k+1))
 rw[Qk]
theorem PB:(hp l k m).put (na m j) o=hp ((.n j,o)::l) k m:=_root_.id rfl
theorem bX (h:am m id):(hp l k m).put id o=hp ((.o id,o)::l) k m:=by
 show NH.mk (NT.put id o (yw m l)) (na m k)=NH.mk (if am m id then NT.put id o (yw m l) else yw m l) (na m k)
 rw[Xb h]
theorem bI:(hp l k m).get (na m j)=kY j l (m.get (na m j)):=by
 show NT.get (na m j) (yw m l)=_
 induction l with
 |nil=>rfl
 |cons p l ih=>
  obtain ⟨a,x⟩:=p
  cases a with
  |n i=>
   show NT.get (na m j) (NT.put (na m i) x (yw m l))=if j=i then some x else kY j l _
   split
   ·rename_i h;rw[h];exact NT.get_put_same _ _ _
   ·rename_i h;rw[NT.get_put_ne (fun e=>h (jM e))];exact ih
  |o i=>
   show NT.get (na m j) (if am m i then NT.put i x (yw m l) else yw m l)=kY j l _
   split
   ·rename_i h;rw[NT.get_put_ne (fun e=>h.ne j e.symm)];exact ih
   ·exact ih
theorem aE (h:am m id):(hp l k m).get id=jS id l (m.get id):=by
 show NT.get id (yw m l)=_
 induction l with
 |nil=>rfl
 |cons p l ih=>
  obtain ⟨a,x⟩:=p
  cases a with
  |n i=>
   show NT.get id (NT.put (na m i) x (yw m l))=jS id l _
   rw[NT.get_put_ne (h.ne _)];exact ih
  |o i=>
   show NT.get id (if am m i then NT.put i x (yw m l) else yw m l)=@ite _ (id=i) (Classical.propDecidable _) (some x) (jS id l _)
   by_cases e:id=i
   ·rw[Xb e,←e,Xb h];exact NT.get_put_same _ _ _
   ·rw[Xa e]
    split
    ·rw[NT.get_put_ne e];exact ih
    ·exact ih
theorem Hr :kY j ((.n i,o)::l) d=if j=i then some o else kY j l d:=_root_.id rfl
theorem HP {i:D4}:kY j ((.o i,o)::l) d=kY j l d:=_root_.id rfl
theorem HY :jS id [] d=d:=_root_.id rfl
theorem wq :jS id ((.n i,o)::l) d=jS id l d:=_root_.id rfl
theorem aq :jS id ((.o id,o)::l) d=some o:=Xb rfl
theorem bm {i:D4} (h:id≠i):jS id ((.o i,o)::l) d=jS id l d:=Xa h
end
structure Chg (S:List D4) (m m':NH):Prop where
 next:m.next.toNat<=m'.next.toNat
 get:∀{id},am m id->id∉S->m'.get id=m.get id
theorem Chg.old  {m':NH} {id:D4} (h:Chg S m m') (ho:am m id):am m' id:=Nat.lt_of_lt_of_le ho h.next
theorem Chg.refl (m:NH):Chg [] m m:=⟨Nat.le_refl _,fun _ _=>rfl⟩
theorem Chg.weak  {T:List D4} {a b:NH} (h:Chg S a b) (hs:∀id,id∈S->am a id->id∈T):Chg T a b:=
 ⟨h.1,fun {id} ho hi=>h.2 ho fun q=>hi (hs id q ho)⟩
theorem Chg.trans  {T:List D4} {a b c:NH} (h:Chg S a b) (h':Chg T b c) (hs:∀id,id∈T->am a id->id∈S):Chg S a c:=
 ⟨Nat.le_trans h.1 h'.1,fun {id} ho hi=>(h'.2 (h.old ho) fun q=>hi (hs id q ho)).trans (h.2 ho hi)⟩
def aC:List (AK×NO)->List D4
 | []=> []
 |(.n _,_)::l=>aC l
 |(.o i,_)::l=>i::aC l
theorem dg (l:List (AK×NO)) (k:Nat) (m:NH):Chg (aC l) m (hp l k m):=by
 refine ⟨by show m.next.toNat<=(na m k).toNat;unfold na;rw[D4.toNat_of];omega,fun {id} ho hi=> ?_⟩
 rw[aE ho]
 induction l with
 |nil=>rfl
 |cons p l ih=>
  obtain ⟨a,x⟩:=p
  cases a with
  |n i=>rw[wq];exact ih hi
  |o i=>
   have hi:id∉i::aC l:=hi
   rw[Xf] at hi
   rw[bm (fun e=>hi (Or.inl e))]
   exact ih fun q=>hi (Or.inr q)
theorem bN  {k:Nat} (h:j<k):am (hp l k m) (na m j):=by
 show (na m j).toNat<(na m k).toNat
 unfold na;rw[D4.toNat_of,D4.toNat_of];omega
theorem cG  {k:Nat} {id:D4} (h:am m id):am (hp l k m) id:=(dg l k m).old h
theorem aA :¬am m (na m j):=by
 show ¬(na m j).toNat<m.next.toNat
 unfold na;rw[D4.toNat_of];omega
def tF (P:Program) (S:Nat->List NV->Option NV) (f:Nat) (args:List NV) (m:NH) (v:NV) (m':NH):Prop:=∃c,Call P S f args m (.val v c m')
section
variable {P:Program} {S:Nat->List NV->Option NV} {f:Nat} {args:List NV} {m:NH}
theorem WF.ret  (h:WF P S f args m K):∃v m',tF P S f args m v m'/\K v m':=by
 obtain ⟨v,c,m',hc,hk⟩:=h;exact ⟨v,m',⟨c,hc⟩,hk⟩
theorem Call.det {x y:CR} (h:Call P S f args m x) (h':Call P S f args m y):x=y:=by
 obtain ⟨hn,n,e⟩:=h
 obtain ⟨hn',k,e'⟩:=h'
 rw[←ef (cK (Nat.le_max_left n k)) e hn,ef (cK (Nat.le_max_right n k)) e' hn']
theorem tF.wf {v:NV} {m':NH} (h:tF P S f args m v m'):WF P S f args m K=K v (hp [] 0 m'):=by
 rw[aa]
 apply propext
 constructor
 ·rintro ⟨u,c,n,hc,hk⟩
  obtain ⟨c',h'⟩:=h
  have:=Call.det hc h'
  injection this with a _ b
  rw[←a,←b];exact hk
 ·intro hk
  obtain ⟨c,h⟩:=h
  exact ⟨v,c,m',h,hk⟩
end
section
variable {t:Tm} {m:NH}
theorem Pn {x:NOpd} {ty:Nat}:ag (.box x ty) t m=oN (ρ t x) fun v=>match cellsOf v with|some cs=> .mem (.ptr m.next 0) (m.add (.cells true cs))|none=> .fail:=by
 show wV t x (fun v=>aV (cellsOf v) fun cs=>m.new (.cells true cs) fun id h=> .mem (.ptr id 0) h)=_
 rw[cC]
 cases ρ t x with
 |none=>rfl
 |some v=>
  show aV (cellsOf v) _=(match cellsOf v with|some cs=>_|none=>NR.fail)
  cases cellsOf v with
  |none=>rfl
  |some cs=>exact NH.new_eq m (.cells true cs) (fun id h=>NR.mem (.ptr id 0) h)
theorem Nf {z:List NV} {ty:Nat}:ag (.alloc z ty) t m= .mem (.ptr m.next 0) (m.add (.cells true z)):=NH.new_eq m (.cells true z) (fun id h=>NR.mem (.ptr id 0) h)
end
end Nm
namespace Nm
open Go Go.RowKit
section
variable {P:Program} {S:Nat->List NV->Option NV}
theorem BW.of {l:D4} {args:List NV} {m:NH} {p p1:Jump} {tm tm1:NT NV} {ps ps1:List D4} {a b a1 b1:NC} {d1 d2:Dyn} {o:Out} {x:CR}
 (hm:m.get l=some (.loop 0 p tm ps a b)) (hlen:args.length=ps.length) (ha:fJ P S (some l) a ⟨putP ps args tm, [],none,m⟩ .norm d1) (hd1:d1.dfs= [])
 (hm1:d1.h.get l=some (.loop 0 p1 tm1 ps1 a1 b1)) (hb:fJ P S (some l) b ⟨d1.t, [],none,d1.h.put l (.loop 1 p1 tm1 ps1 a1 b1)⟩ o d2) (ho:∀v,o≠.pan v) (hr:eD l o d2.h=x) (hne:x≠.fail):BW P S l args m x:=by
 obtain ⟨n,hn⟩:=ha
 obtain ⟨k,hk⟩:=hb
 refine ⟨hne,max n k, ?_⟩
 have key:∀(ps:List D4) (args:List NV) (tm:Tm) (K:Tm->CR),args.length=ps.length->ez .fail ps args tm K=K (putP ps args tm):=by
  intro ps
  induction ps with
  |nil=>intro args tm K h;cases args with
   |nil=>rfl
   |cons=>simp at h
  |cons q ps ih=>
   intro args tm K h
   cases args with
   |nil=>simp at h
   |cons v vs=>
    have e:ez .fail (q::ps) (v::vs) tm K=NT.set q v tm fun t=>ez .fail ps vs t K:=rfl
    rw[e,NT.set_eq]
    exact ih _ _ _ (by simpa using h)
 unfold round
 rw[hm]
 show ez .fail ps args tm (fun t=>match ev P S (max n k) (some l) a ⟨t, [],none,m⟩ with
  | .mk .norm d=>(match d.dfs with| []=>dr (ev P S (max n k)) l b d.t d.h|_=> .fail)
  |_=> .fail)=x
 rw[key _ _ _ _ hlen,cK (Nat.le_max_left n k) _ _ _ _ _ hn]
 show (match d1.dfs with| []=>dr (ev P S (max n k)) l b d1.t d1.h|_=> .fail)=x
 rw[hd1]
 show dr (ev P S (max n k)) l b d1.t d1.h=x
 unfold dr
 rw[hm1]
 show (d1.h.set l (.loop 1 p1 tm1 ps1 a1 b1) fun h=>(match ev P S (max n k) (some l) b ⟨d1.t, [],none,h⟩ with
  | .mk o d=>(match o with
   | .pan v=>(match d.dfs with| []=>CR.pan v none d.h|_=> .fail)
   |o=>eD l o d.h)
  | .fail=> .fail))=x
 rw[NH.set_eq,cK (Nat.le_max_right n k) _ _ _ _ _ hk]
 cases o with
 |pan v=>exact W9 rfl (ho v)
 |_=>exact hr
theorem fJ.range {f:Nat} {cap:List NV} {fx:NOpd} {ps:List D4} {a b:NC} {t:Tm} {dfs:List Dfr} {ctx:Option NV} {m m':NH} {v:NV} {c:Option NV} {o:Out} {d:Dyn}
 (hf:ρ t fx=some (.fn f cap)) (hc:Call P S f (.yld (m.add (.defd true)).next::cap) ((m.add (.defd true)).add (.loop 0 .none t ps a b)) (.val v c m'))
 (he:fu (m.add (.defd true)).next t (.mark m.next::dfs) ctx m'= .mk o d):fJ P S none (.rangeFunc fx ps a b) ⟨t,dfs,ctx,m⟩ o d:=by
 obtain ⟨hne,k,hk⟩:=hc
 refine ⟨k+1, ?_⟩
 show (match ρ t fx with
  |some (.fn f cap)=>m.new (.defd true) fun q m=>cW P S (ev P S k) f cap ps a b t (.mark q::dfs) ctx m
  |_=>Res.fail)=_
 rw[hf]
 try dsimp only
 rw[NH.new_eq]
 unfold cW
 rw[NH.new_eq,hk]
 exact he
end
end Nm
namespace Nm
open Go Go.RowKit
variable {x:NOpd} {l:List NV} {K:List NV->NR}
section
variable {t:Tm} {m:NH}
theorem JJ {k:Nat}:ag (.field1 k x) t m=oN (ρ t x) (UW k):=by
 show wV t x (fun v=>match v with| .agg l=>aV (bw l k) .val|_=> .fail)=_
 rw[cC]
 cases ρ t x with
 |none=>rfl
 |some v=>
  cases v with
  |agg l=>show aV (bw l k) .val=oN l[k]? .val;rw[fQ];cases l[k]? <;>rfl
  |_=>rfl
theorem Ui {k:Nat}:UW k (.agg l)=oN l[k]? .val:=_root_.id rfl
theorem Ti {n:Nat}:ag (.loadN n x) t m=oN (ρ t x) (Mj n m):=by
 show wV t x (fun a=>match a with| .ptr id off=>cA m id fun c=>aV (iD c off n) fun l=> .val (.agg l)|_=> .fail)=_
 rw[cC]
 cases ρ t x with
 |none=>rfl
 |some v=>
  cases v with
  |ptr id off=>
   show cA m id (fun c=>aV (iD c off n) fun l=> .val (.agg l))=Mj n m (.ptr id off)
   unfold cA Mj
   dsimp only
   split<;>rename_i hm
   ·rw[hm];dsimp only;rw[lZ];split<;>rfl
   ·split<;>rename_i h2
    ·exact W9 h2 (hm _ _)
    ·rfl
  |_=>rfl
def UT (i:Nat) (a:NV):NR:=match a with| .tup l=>oN l[i]? .val|_=> .fail
theorem GG {i:Nat}:ag (.extract x i) t m=oN (ρ t x) (UT i):=by
 show wV t x (fun v=>match v with| .tup l=>aV (bw l i) .val|_=> .fail)=_
 rw[cC]
 cases ρ t x with
 |none=>rfl
 |some v=>
  cases v with
  |tup l=>show aV (bw l i) .val=oN l[i]? .val;rw[fQ];cases l[i]? <;>rfl
  |_=>rfl
theorem TH {i:Nat}:UT i (.tup l)=oN l[i]? .val:=_root_.id rfl
def CV (f:NV) (l:List NV):NR:=match f with| .fn f cap=> .call f (l++cap)| .yld r=> .yld r l|_=> .fail
noncomputable def K7 (t:Tm):List NOpd->(List NV->NR)->NR
 | [],K=>K []
 |x::l,K=>oN (ρ t x) fun v=>K7 t l fun l=>K (v::l)
theorem uq {l:List NOpd}:zn t l .fail K=K7 t l K:=by
 induction l generalizing K with
 |nil=>rfl
 |cons x l ih=>
  show Option.rec NR.fail (fun v=>zn t l .fail fun l=>K (v::l)) (ρ t x)=oN (ρ t x) fun v=>K7 t l fun l=>K (v::l)
  cases ρ t x with
  |none=>rfl
  |some v=>exact ih
theorem QH :K7 t [] K=K []:=_root_.id rfl
theorem SK  {l:List NOpd}:K7 t (x::l) K=oN (ρ t x) fun v=>K7 t l fun l=>K (v::l):=_root_.id rfl
theorem Sh {f:NOpd} {args:List NOpd}:ag (.call f args) t m=oN (ρ t f) fun f=>K7 t args (CV f):=by
 show wV t f (fun f=>zn t args .fail fun l=>match f with| .fn f cap=>jH l cap fun l=> .call f l| .yld r=> .yld r l|_=> .fail)=_
 rw[cC]
 cases ρ t f with
 |none=>rfl
 |some f=>
  show zn t args .fail _=K7 t args (CV f)
  rw[uq]
  congr 1
  funext l
  cases f with
  |fn f cap=>exact fX l cap (fun l=>NR.call f l)
  |_=>rfl
theorem Qe {f:Nat} {cap:List NV}:CV (.fn f cap) l= .call f (l++cap):=_root_.id rfl
theorem Uj {q:D4}:CV (.yld q) l= .yld q l:=_root_.id rfl
theorem OX {f:Nat} {l:List NOpd}:ag (.mkFn f l) t m=K7 t l fun l=> .val (.fn f l):=uq
end
end Nm
namespace Nm
open Go Go.RowKit
section
variable {t:Tm} {m:NH}
noncomputable def Vi (n:Nat) (m:NH) (a v:NV):NR:=match a with
 | .ptr id off=>(match cellsOf v with
  |some cs=>if cs.length=n then (match m.get id with
   |some (.cells true c)=>if off+cs.length<=c.length then .mem aT (m.put id (.cells true (c.take off++cs++c.drop (off+cs.length)))) else .fail
   |_=> .fail) else .fail
  |none=> .fail)
 |_=> .fail
theorem NW {n:Nat} {a x:NOpd}:ag (.store n a x) t m=oN (ρ t a) fun a=>oN (ρ t x) fun v=>Vi n m a v:=by
 show wV t a (fun a=>wV t x fun v=>match a with
  | .ptr id off=>aV (cellsOf v) fun cs=>eN cs fun k=>cond (Nat.beq k n) (storeAt m id off cs fun h=> .mem aT h) .fail
  |_=> .fail)=_
 simp only[cC]
 cases ρ t a with
 |none=>rfl
 |some a=>
  show oN (ρ t x) _=oN (ρ t x) _
  cases ρ t x with
  |none=>rfl
  |some v=>
   cases a with
   |ptr id off=>
    show aV (cellsOf v) (fun cs=>eN cs fun k=>cond (Nat.beq k n) (storeAt m id off cs fun h=> .mem aT h) .fail)=Vi n m (.ptr id off) v
    unfold Vi
    cases cellsOf v with
    |none=>rfl
    |some cs=>
     show eN cs (fun k=>cond (Nat.beq k n) (storeAt m id off cs fun h=> .mem aT h) .fail)=if cs.length=n then _ else _
     rw[du]
     cases hb:Nat.beq cs.length n with
     |false=>rw[Xa (Nat.ne_of_beq_eq_false hb)];rfl
     |true=>
      rw[Xb (Xg hb)]
      show storeAt m id off cs (fun h=> .mem aT h)=_
      unfold storeAt fg
      cases hm:m.get id with
      |none=>rfl
      |some o=>
       cases o with
       |cells w c=>
        cases w with
        |false=>rfl
        |true=>
         show aV (dX cs off c) (fun c=>m.set id (.cells true c) fun h=> .mem aT h)=if off+cs.length<=c.length then _ else _
         rw[fF]
         split
         ·exact NH.set_eq m id _ (fun h=>NR.mem aT h)
         ·rfl
       |_=>rfl
   |_=>rfl
end
end Nm
namespace Nm
open Go Go.RowKit
section
variable {t:Tm} {m:NH}
noncomputable def WV (n len:Nat) (m:NH) (o:Option (List NV)):NR:=match o with|some l=> .mem (.slc m.next 0 len n len) (m.add (.cells true l))|none=> .fail
theorem Qu {z:List NV} {n len ty:Nat} {ps:List (Nat×Nat×NOpd)}:ag (.buildSlice z n len ty ps) t m=WV n len m (c9 t ps 0 z):=by
 show aV (c9 t ps 0 z) (fun l=>m.new (.cells true l) fun id h=> .mem (.slc id 0 len n len) h)=_
 cases c9 t ps 0 z with
 |none=>rfl
 |some l=>exact NH.new_eq m (.cells true l) (fun id h=>NR.mem (.slc id 0 len n len) h)
theorem Wr {n len:Nat} {l:List NV}:WV n len m (some l)= .mem (.slc m.next 0 len n len) (m.add (.cells true l)):=_root_.id rfl
def oO {α β:Type} (o:Option α) (K:α->Option β):Option β:=match o with|some x=>K x|none=>none
theorem VV {α β:Type} {x:α} {K:α->Option β}:oO (some x) K=K x:=_root_.id rfl
end
end Nm
namespace Nm
open Go Go.RowKit
variable {n i:Nat}
def wQ (q:Bool) (A B:Dyn->Prop) (d:Dyn):Prop:=(q=true->A d)/\(q=false->B d)
def wC (o:Option NV) (A B:Dyn->Prop) (d:Dyn):Prop:=wB o (A d) (B d)
def wG (o:Option NV) (b:Bool) (A B:Dyn->Prop) (d:Dyn):Prop:=match o with
 |some (.bool q)=>wQ (q==b) A B d
 |some _=>B d
 |none=>False
def GT (F:Tm->List Dfr->Option NV->NH->Prop) (d:Dyn):Prop:=F d.t d.dfs d.ctx d.h
noncomputable def zj (x:NR) (v:NV):Bool:=match x with| .val u=>bg 4 u v|_=>false
section
variable {P:Program} {S:Nat->List NV->Option NV} {r:Option D4} {dst:Option D4} {op:NOp} {pre idx:Nat} {l:List NOper} {hs:List (Nat×NH)} {rs:List (Nat×(NH->NR)×NV)}
 {L:List (D4×NV)} {t:Tm} {dfs:List Dfr} {ctx:Option NV} {m m':NH} {v:NV} {k k' g:D4} {d:Dyn} {Q:Out->Dyn->Prop} {K:Dyn->Prop} {A B:Dyn->Prop} {b q:Bool}
theorem Wu:wC (some (.bool q)) A B d=wQ q A B d:=_root_.id rfl
theorem Uf:wQ true A B d=A d:=by simp[wQ]
theorem TY:wQ false A B d=B d:=by simp[wQ]
theorem Wi:wG (some (.bool q)) b A B d=wQ (q==b) A B d:=_root_.id rfl
theorem U1:wG (some aT) b A B d=B d:=_root_.id rfl
theorem NB:wO P S (⟨dst,op,some (g,b),pre,idx⟩::l) ⟨ah L t,dfs,ctx,m⟩ K=wG (fH g L (NT.get g t)) b (GT fun t dfs ctx m=>wN P S dst t dfs ctx m (ag op t m) fun d=>wO P S l d K) (GT fun t dfs ctx m=>wO P S l ⟨aO dst aT t,dfs,ctx,m⟩ K) ⟨ah L t,dfs,ctx,m⟩:=by
 unfold wG
 rw[←gn]
 show (match aB (ah L t) (some (g,b)) with|some true=>_|some false=>_|none=>False)=_
 have e:aB (ah L t) (some (g,b))=(match NT.get g (ah L t) with|some (.bool q)=>some (q==b)|some _=>some false|none=>none):=by
  show Option.rec (motive:=fun _=>Option Bool) none (fun v=>NV.onBool (some false) (fun c=>some (gh b c)) v) (NT.get g (ah L t))=_
  cases NT.get g (ah L t) with
  |none=>rfl
  |some v=>cases v with
   |bool q=>cases q<;>cases b<;>rfl
   |_=>rfl
 rw[e]
 cases NT.get g (ah L t) with
 |none=>rfl
 |some v=>cases v with
  |bool q=>
   dsimp only
   unfold wQ GT
   cases (q==b)<;>simp
  |_=>rfl
theorem J5:wD P S (⟨dst,op,some (g,b),pre,idx⟩::l) hs rs ⟨ah L t,dfs,ctx,m⟩ K=wG (fH g L (NT.get g t)) b (GT fun t dfs ctx m=>wX (ay op) (ag op t m) P S (ag op t) dst pre idx l hs rs ⟨t,dfs,ctx,m⟩ K) (GT fun t dfs ctx m=>wD P S l hs rs ⟨aO dst aT t,dfs,ctx,m⟩ K) ⟨ah L t,dfs,ctx,m⟩:=by
 unfold wG
 rw[←gn]
 have e:aB (ah L t) (some (g,b))=(match NT.get g (ah L t) with|some (.bool q)=>some (q==b)|some _=>some false|none=>none):=by
  show Option.rec (motive:=fun _=>Option Bool) none (fun v=>NV.onBool (some false) (fun c=>some (gh b c)) v) (NT.get g (ah L t))=_
  cases NT.get g (ah L t) with
  |none=>rfl
  |some v=>cases v with
   |bool q=>cases q<;>cases b<;>rfl
   |_=>rfl
 have e2:wD P S (⟨dst,op,some (g,b),pre,idx⟩::l) hs rs ⟨ah L t,dfs,ctx,m⟩ K=(match aB (ah L t) (some (g,b)) with
  |some true=>wX (ay op) (ag op (ah L t) m) P S (ag op (ah L t)) dst pre idx l hs rs ⟨ah L t,dfs,ctx,m⟩ K
  |some false=>wD P S l hs rs ⟨aO dst aT (ah L t),dfs,ctx,m⟩ K
  |none=>False):=by
  unfold wX
  simp only[wD]
  all_goals (cases aB (ah L t) (some (g,b)) with
   |none=>rfl
   |some q=>cases q with
    |false=>rfl
    |true=>cases ay op<;>cases ag op (ah L t) m<;>rfl)
 rw[e2,e]
 cases NT.get g (ah L t) with
 |none=>rfl
 |some v=>cases v with
  |bool q=>
   dsimp only
   unfold wQ GT
   cases (q==b)<;>simp
  |_=>rfl
theorem Ld  {f:NH->NR}:dP pre f v ((i,m)::hs)=cond (Nat.testBit pre i) (dP pre f v hs) (zj (f m) v&&dP pre f v hs):=by
 show cond (Nat.testBit pre i) (dP pre f v hs) (match f m with| .val u=>cond (bg 4 u v) (dP pre f v hs) false|_=>false)=_
 congr 1
 cases f m with
 |val u=>show cond (bg 4 u v) _ false=(bg 4 u v&&_);cases bg 4 u v<;>rfl
 |_=>rfl
theorem MW  {f:NH->NR} {u:NV}:stays pre m ((i,f,u)::rs)=cond (Nat.testBit pre i) (stays pre m rs) (zj (f m) u&&stays pre m rs):=by
 show cond (Nat.testBit pre i) (stays pre m rs) (match f m with| .val v=>cond (bg 4 v u) (stays pre m rs) false|_=>false)=_
 congr 1
 cases f m with
 |val u'=>show cond (bg 4 u' u) _ false=(bg 4 u' u&&_);cases bg 4 u' u<;>rfl
 |_=>rfl
theorem LR :ahead pre ((i,m)::hs)=cond (Nat.testBit pre i) (ahead pre hs) false:=_root_.id rfl
theorem Jk {u:NV}:zj (.val u) v=bg 4 u v:=_root_.id rfl
end
theorem jm (d:D4):bG d d=true:=qE d
theorem yF (l:List Nat):Fm l l=true:=by
 induction l with
 |nil=>rfl
 |cons x l ih=>show cond (Nat.beq x x) (Fm l l) false=true;rw[Nat.beq_refl];exact ih
def ES (v:NV):Prop:=match v with| .agg _| .tup _| .fn _ _| .ifc _ _=>False|_=>True
theorem iA  {v:NV} (h:ES v):bg (n+1) v v=true:=by
 show EY (bg n) v v=true
 have hi:∀z:Int,vw z z=true:=fun z=>by rw[fI];simp
 cases v with
 |bool b=>cases b<;>rfl
 |int k x=>cases x with
  |lit z=>show cond (FE k k) (vw z z) false=true;rw[hi];cases k<;>rfl
 |str s=>exact yF s
 |ptr id o=>show cond (bG id id) (Nat.beq o o) false=true;rw[jm];simp
 |slc id o n e k=>show cond (bG id id) (cond (Nat.beq o o) (cond (Nat.beq n n) (cond (Nat.beq e e) (Nat.beq k k) false) false) false) false=true;rw[jm];simp
 |map id=>exact jm id
 |yld id=>exact jm id
 |agg l=>exact h.elim
 |tup l=>exact h.elim
 |fn f c=>exact h.elim
 |ifc t v=>exact h.elim
 |_=>rfl
theorem AV  {l:List NV} (h:∀v∈l,ES v):kj (bg (n+1)) l l=true:=by
 induction l with
 |nil=>rfl
 |cons x l ih=>
  show cond (bg (n+1) x x) (kj (bg (n+1)) l l) false=true
  rw[iA (h x (List.mem_cons_self ..))]
  exact ih fun v hv=>h v (List.mem_cons_of_mem _ hv)
theorem dH  {l:List NV} (h:∀v∈l,ES v):bg (n+2) (.agg l) (.agg l)=true:=AV h
theorem L6  {k:IntKind} {z:Int}:bg (n+1) (.int k (.lit z)) (.int k (.lit z))=true:=iA trivial
theorem Ob  {l:List Nat}:bg (n+1) (.str l) (.str l)=true:=iA trivial
theorem NZ  {o:Nat} {i:D4}:bg (n+1) (.ptr i o) (.ptr i o)=true:=iA trivial
end Nm
namespace Nm
open Go Go.RowKit
variable {n bytes:Nat} {id:D4} {l cs z:List NV} {a b:Int} {ps:List (Nat×Nat×NOpd)} {k:IntKind}
theorem TA  (h:-9223372036854775808<=a - b) (h':a - b<9223372036854775808):dN .num .sub (.int .i64 (.lit a)) (.int .i64 (.lit b))=some (.int .i64 (.lit (a - b))):=by
 refine (iU rfl).trans ?_
 show cD .i64 (bF .i64 (wz a b))=_
 rw[kI,wrap_small h h']
 exact kA _ _
theorem OI  (h:-9223372036854775808<=a*b) (h':a*b<9223372036854775808):dN .num .mul (.int .i64 (.lit a)) (.int .i64 (.lit b))=some (.int .i64 (.lit (a*b))):=by
 refine (iU rfl).trans ?_
 show cD .i64 (bF .i64 (wP a b))=_
 rw[kP,wrap_small h h']
 exact kA _ _
theorem OU {p:Prop} [Decidable p] (h:p):decide p=true:=by simp[h]
theorem Nu {p:Prop} [Decidable p] (h:¬p):decide p=false:=by simp[h]
section
variable {m:NH}
theorem Ux  {off e kc:Nat}:FT (.slc id off n e kc)= .val (.int .i64 (.lit (n:Int))):=_root_.id rfl
theorem QT:FT .nils= .val (.int .i64 (.lit 0)):=_root_.id rfl
theorem HM  {off len e kc:Nat} {ik:IntKind} {z:Int} (h0:0<=z) (h1:z<len):ix n (.slc id off len e kc) (.int ik (.lit z))= .val (.ptr id (off+z.toNat*n)):=by
 obtain ⟨i,rfl⟩:=Xh h0
 show (if i<len then NR.val (.ptr id (off+i*n)) else .fail)= .val (.ptr id (off+i*n))
 rw[Xb (by omega)]
noncomputable def U8 (off:Nat) (o:Option NO):NR:=match o with|some (.cells _ c)=>oN c[off]? .val|_=> .fail
noncomputable def Ua (n off:Nat) (o:Option NO):NR:=match o with|some (.cells _ c)=>if off+n<=c.length then .val (.agg ((c.drop off).take n)) else .fail|_=> .fail
theorem Tg  {off:Nat}:Mh m (.ptr id off)=U8 off (m.get id):=_root_.id rfl
theorem Ts  {off:Nat}:Mj n m (.ptr id off)=Ua n off (m.get id):=_root_.id rfl
theorem Qc {off:Nat} {w:Bool} {c:List NV}:U8 off (some (.cells w c))=oN c[off]? .val:=_root_.id rfl
theorem Pm  {off:Nat} {w:Bool} {c:List NV} (h:off+n<=c.length):Ua n off (some (.cells w c))= .val (.agg ((c.drop off).take n)):=Xb h
noncomputable def Wp (n:Nat) (id:D4) (off:Nat) (m:NH) (cs:Option (List NV)) (o:Option NO):NR:=match cs with
 |some cs=>if cs.length=n then (match o with
  |some (.cells true c)=>if off+cs.length<=c.length then .mem aT (m.put id (.cells true (c.take off++cs++c.drop (off+cs.length)))) else .fail
  |_=> .fail) else .fail
 |none=> .fail
theorem VT  {off:Nat} {v:NV}:Vi n m (.ptr id off) v=Wp n id off m (cellsOf v) (m.get id):=_root_.id rfl
theorem kX {c:List NV} {off:Nat} {x:NV} (h:off<c.length):c.take off++ [x]++c.drop (off+1)=c.set off x:=by
 rw[List.set_eq_take_append_cons_drop,Xb h]
 simp
theorem Uu {off:Nat} {x:NV} {c:List NV} (h:off<c.length):Wp 1 id off m (some [x]) (some (.cells true c))= .mem aT (m.put id (.cells true (c.set off x))):=by
 show (if [x].length=1 then (if off+ [x].length<=c.length then NR.mem aT (m.put id (.cells true (c.take off++ [x]++c.drop (off+ [x].length)))) else .fail) else .fail)=_
 rw[Xb (show [x].length=1 from rfl),Xb (by show off+1<=_;omega)]
 show NR.mem aT (m.put id (.cells true (c.take off++ [x]++c.drop (off+1))))=_
 rw[kX h]
theorem SQ  {off:Nat} {c:List NV} (h:cs.length=n+2) (h':off+(n+2)<=c.length):Wp (n+2) id off m (some cs) (some (.cells true c))= .mem aT (m.put id (.cells true (c.take off++cs++c.drop (off+(n+2))))):=by
 rw[←h] at h' ⊢
 show (if cs.length=cs.length then (if off+cs.length<=c.length then NR.mem aT (m.put id (.cells true (c.take off++cs++c.drop (off+cs.length)))) else .fail) else .fail)=_
 rw[Xb rfl,Xb h']
end
section
variable {t:Tm} {m:NH}
def ET (c:NV) (a b:Option NV):NR:=match c with| .bool c=>(if c then oN a .val else oN b .val)|_=> .fail
theorem Qz {c a b:NOpd}:ag (.pick c a b) t m=oN (ρ t c) fun c=>ET c (ρ t a) (ρ t b):=by
 show wV t c (fun c=>match c with| .bool c=>Bool.rec (wV t b .val) (wV t a .val) c|_=> .fail)=_
 rw[cC]
 cases ρ t c with
 |none=>rfl
 |some v=>
  cases v with
  |bool q=>show Bool.rec (wV t b .val) (wV t a .val) q=if q then oN (ρ t a) .val else oN (ρ t b) .val;rw[cC,cC];cases q<;>rfl
  |_=>rfl
theorem My {a b:Option NV}:ET (.bool true) a b=oN a .val:=_root_.id rfl
theorem Ls {a b:Option NV}:ET (.bool false) a b=oN b .val:=_root_.id rfl
theorem Nb {q p r:Bool}:ET (.bool q) (some (.bool p)) (some (.bool r))= .val (.bool (if q then p else r)):=by cases q<;>rfl
theorem Jq {mx:Bool} {l:List NOpd}:ag (.minmax mx l) t m=K7 t l fun l=>oN (GI mx l) .val:=by
 show zn t l .fail (fun l=>aV (GI mx l) .val)=_
 rw[uq]
 congr 1
 funext l
 cases GI mx l<;>rfl
theorem T9 :GI true [.int k (.lit a),.int k (.lit b)]=some (.int k (.lit (max a b))):=by
 show Option.rec (motive:=fun _=>Option NV) none some (cond (cond true (yM a b) (yM b a)) (some (NV.int k (.lit b))) (some (.int k (.lit a))))=_
 rw[jg]
 by_cases h:a<b
 ·simp[h,Int.max_def,show a<=b by omega]
 ·simp[h,Int.max_def];omega
theorem U6 :GI false [.int k (.lit a),.int k (.lit b)]=some (.int k (.lit (min a b))):=by
 show Option.rec (motive:=fun _=>Option NV) none some (cond (cond false (yM a b) (yM b a)) (some (NV.int k (.lit b))) (some (.int k (.lit a))))=_
 rw[jg a b,jg b a]
 by_cases h:b<a
 ·rw[Xd h,Int.min_eq_right (by omega)];rfl
 ·rw[Xc h,Int.min_eq_left (by omega)];rfl
noncomputable def KZ (z:List NV) (n bytes:Nat) (m:NH) (l c:Nat):NR:=cond (Nat.ble l c) (cond (room c bytes) (.mem (.slc m.next 0 l n c) (m.add (.cells true (rep c z)))) .fail) .fail
theorem F8  {ty:Nat} {l c:NOpd}:ag (.mkSlice z n bytes ty l c) t m=oN (ρ t l) fun l=>aV (kV l) fun l=>oN (ρ t c) fun c=>aV (kV c) fun c=>KZ z n bytes m l c:=by
 show gR t l (fun l=>gR t c fun c=>cond (Nat.ble l c) (cond (room c bytes) (FY c z fun cs=>m.new (.cells true cs) fun id h=> .mem (.slc id 0 l n c) h) .fail) .fail)=_
 unfold gR
 rw[cC]
 congr 1
 funext lv
 congr 1
 funext i
 rw[cC]
 congr 1
 funext cv
 congr 1
 funext j
 rw[jp,NH.new_eq]
 rfl
theorem PY  {K:Nat->NR} (h:0<=a):aV (kV (.int k (.lit a))) K=K a.toNat:=by
 obtain ⟨i,rfl⟩:=Xh h
 rfl
theorem QG  {i:Nat} (h1:i*bytes<=1099511627776) (h2:i<=1099511627776):KZ z n bytes m i i= .mem (.slc m.next 0 i n i) (m.add (.cells true (rep i z))):=by
 unfold KZ
 rw[Nat.ble_eq_true_of_le (Nat.le_refl i)]
 have e:room i bytes=true:=by
  unfold room
  rw[show Nat.ble (Nat.mul i bytes) 1099511627776=true from Nat.ble_eq_true_of_le h1,show Nat.ble i 1099511627776=true from Nat.ble_eq_true_of_le h2]
  rfl
 rw[e];rfl
noncomputable def AJ (n bytes:Nat) (m:NH) (s x:NV):NR:=ip n m x fun k new=>g9 n bytes m s k new
theorem Hs  {ty:Nat} {s x:NOpd}:ag (.append n bytes ty s x) t m=oN (ρ t s) fun s=>oN (ρ t x) fun x=>AJ n bytes m s x:=by
 show wV t s (fun s=>wV t x fun x=>ip n m x fun k new=>g9 n bytes m s k new)=_
 rw[cC];congr 1;funext s;rw[cC];rfl
noncomputable def WN (o:Option (List NV)):NR:=match o with|some l=> .val (.agg l)|none=> .fail
theorem Lv :ag (.build z ps) t m=WN (dl t ps z):=by
 show aV (dl t ps z) (fun l=> .val (.agg l))=_
 cases dl t ps z<;>rfl
theorem VK :WN (some l)= .val (.agg l):=_root_.id rfl
theorem TK :dl t [] l=some l:=_root_.id rfl
noncomputable def T6 (t:Tm) (ps:List (Nat×Nat×NOpd)) (off k:Nat) (l:List NV) (o:Option (List NV)):Option (List NV):=match o with
 |some cs=>if cs.length=k then (match dX cs off l with|some l=>dl t ps l|none=>none) else none
 |none=>none
theorem Vz  {off k:Nat} {x:NOpd}:dl t ((off,k,x)::ps) l=oO (ρ t x) fun v=>T6 t ps off k l (cellsOf v):=by
 show Option.rec (motive:=fun _=>Option (List NV)) none (fun v:NV=>Option.rec (motive:=fun _=>Option (List NV)) none (fun cs=>eN cs fun j=>cond (Nat.beq j k) (Option.rec (motive:=fun _=>Option (List NV)) none (dl t ps) (dX cs off l)) none) (cellsOf v)) (ρ t x)=_
 cases ρ t x with
 |none=>rfl
 |some v=>
  show Option.rec (motive:=fun _=>Option (List NV)) none (fun cs=>eN cs fun j=>cond (Nat.beq j k) (Option.rec (motive:=fun _=>Option (List NV)) none (dl t ps) (dX cs off l)) none) (cellsOf v)=T6 t ps off k l (cellsOf v)
  cases cellsOf v with
  |none=>rfl
  |some cs=>
   show eN cs (fun j=>cond (Nat.beq j k) (Option.rec (motive:=fun _=>Option (List NV)) none (dl t ps) (dX cs off l)) none)=if cs.length=k then _ else _
   rw[du]
   cases hb:Nat.beq cs.length k with
   |false=>rw[Xa (Nat.ne_of_beq_eq_false hb)];rfl
   |true=>rw[Xb (Xg hb)];cases dX cs off l<;>rfl
theorem Uc  {off:Nat} {x:NV} (h:off<l.length):T6 t ps off 1 l (some [x])=dl t ps (l.set off x):=by
 show (if [x].length=1 then (match dX [x] off l with|some l=>dl t ps l|none=>none) else none)=_
 rw[Xb (show [x].length=1 from rfl),fF,Xb (by show off+1<=_;omega)]
 show dl t ps (l.take off++ [x]++l.drop (off+1))=_
 rw[kX h]
theorem Rz  {off k:Nat} (h:cs.length=k) (h':off+k<=l.length):T6 t ps off k l (some cs)=dl t ps (l.take off++cs++l.drop (off+k)):=by
 subst h
 show (if cs.length=cs.length then (match dX cs off l with|some l=>dl t ps l|none=>none) else none)=_
 rw[Xb rfl,fF,Xb h']
theorem TC  {off k:Nat} (h:cs.length=k+2) (h':off+(k+2)<=l.length):T6 t ps off (k+2) l (some cs)=dl t ps (l.take off++cs++l.drop (off+(k+2))):=Rz h h'
end
end Nm
namespace Nm
open Go Go.RowKit
variable {n d:Nat} {K:Nat->NR} {lo hi:Option NOpd}
section
variable {t:Tm} {m:NH}
noncomputable def ji (t:Tm) (x:Option NOpd) (d:Nat) (K:Nat->NR):NR:=match x with|none=>K d|some x=>oN (ρ t x) fun v=>aV (kV v) K
theorem ga {x:Option NOpd}:dU t x d K=ji t x d K:=by
 cases x with
 |none=>rfl
 |some x=>show wV t x _=_;rw[cC];rfl
noncomputable def LI (n:Nat) (id:D4) (off len e kc a b:Nat):NR:=cond (Nat.ble a b) (cond (Nat.ble b (Bool.rec kc len (Nat.ble kc len))) (cond (Nat.beq e n) (.val (.slc id (off+a*n) (b - a) n (kc - a))) .fail) .fail) .fail
noncomputable def AA (n:Nat) (t:Tm) (lo hi:Option NOpd) (v:NV):NR:=match v with
 | .slc id off len e kc=>ji t hi len fun b=>ji t lo 0 fun a=>LI n id off len e kc a b
 | .nils=>ji t hi 0 fun b=>ji t lo 0 fun a=>cond (Nat.beq a 0) (cond (Nat.beq b 0) (.val .nils) .fail) .fail
 |_=> .fail
theorem T3  {x:NOpd}:ag (.sliceSlc n x lo hi) t m=oN (ρ t x) (AA n t lo hi):=by
 show wV t x (fun v=>match v with
  | .slc id off len e kc=>dU t hi len fun b=>dU t lo 0 fun a=>cond (Nat.ble a b) (cond (Nat.ble b (Bool.rec kc len (Nat.ble kc len))) (cond (Nat.beq e n)
   (aD (Nat.add off (Nat.mul a n)) fun o=>aD (Nat.sub b a) fun m=>aD (Nat.sub kc a) fun k=> .val (.slc id o m n k)) .fail) .fail) .fail
  | .nils=>dU t hi 0 fun b=>dU t lo 0 fun a=>cond (Nat.beq a 0) (cond (Nat.beq b 0) (.val .nils) .fail) .fail
  |_=> .fail)=_
 rw[cC]
 congr 1
 funext v
 cases v with
 |slc id off len e kc=>
  dsimp only[AA]
  rw[ga]
  congr 1
  funext b
  rw[ga]
  congr 1
  funext a
  simp only[ai]
  rfl
 |nils=>
  dsimp only[AA]
  rw[ga]
  congr 1
  funext b
  rw[ga]
 |_=>rfl
theorem Sq :ji t none d K=K d:=_root_.id rfl
theorem Us {x:NOpd}:ji t (some x) d K=oN (ρ t x) fun v=>aV (kV v) K:=_root_.id rfl
theorem HN  {off len e kc:Nat} {id:D4}:AA n t lo hi (.slc id off len e kc)=ji t hi len fun b=>ji t lo 0 fun a=>LI n id off len e kc a b:=_root_.id rfl
theorem Kq :AA n t lo hi .nils=ji t hi 0 fun b=>ji t lo 0 fun a=>cond (Nat.beq a 0) (cond (Nat.beq b 0) (.val .nils) .fail) .fail:=_root_.id rfl
theorem OA  {a b off len kc:Nat} {id:D4} (h:a<=b) (h':b<=len):LI n id off len n kc a b= .val (.slc id (off+a*n) (b - a) n (kc - a)):=by
 unfold LI
 rw[Nat.ble_eq_true_of_le h,Nat.beq_refl,show Nat.ble b (Bool.rec kc len (Nat.ble kc len))=true from Nat.ble_eq_true_of_le (by
  cases hb:Nat.ble kc len with
  |true=>exact h'
  |false=>
   have:¬kc<=len:=fun q=>by rw[Nat.ble_eq_true_of_le q] at hb;cases hb
   show b<=kc
   omega)]
 rfl
end
end Nm
namespace Nm
open Go Go.RowKit
variable {B m:NH} {n bytes:Nat} {C D:List (List NV)}
def ids:NV->List D4
 | .slc id _ _ _ _=> [id]
 |_=> []
def Sl (m:NH) (v:NV) (e:Nat) (C:List (List NV)):Prop:=(∀x∈C,x.length=e)/\((v= .nils/\C= [])∨
 ∃id off kc w c,v= .slc id off C.length e kc/\m.get id=some (.cells w c)/\am m id/\off+C.length*e<=c.length/\(c.drop off).take (C.length*e)=C.flatten)
def aY (B m:NH) (v:NV) (e:Nat) (C:List (List NV)):Prop:=(∀x∈C,x.length=e)/\((v= .nils/\C= [])∨
 ∃id off kc c,v= .slc id off C.length e kc/\¬am B id/\m.get id=some (.cells true c)/\am m id/\off+C.length*e<=c.length/\off+kc*e<=c.length/\(c.drop off).take (C.length*e)=C.flatten)
theorem fj {e:Nat} (h:∀x∈C,x.length=e):C.flatten.length=C.length*e:=by
 induction C with
 |nil=>simp
 |cons a C ih=>
  rw[List.flatten_cons,List.length_append,h a (List.mem_cons_self ..),ih fun x hx=>h x (List.mem_cons_of_mem _ hx),List.length_cons,Nat.succ_mul]
  omega
theorem F6 {e:Nat}:∀{C:List (List NV)} (_:∀x∈C,x.length=e) (i:Nat) (hi:i<C.length),(C.flatten.drop (i*e)).take e=C[i]:=by
 intro C
 induction C with
 |nil=>intro _ i hi;simp at hi
 |cons a C ih=>
  intro h i hi
  have ha:=h a (List.mem_cons_self ..)
  cases i with
  |zero=>
   rw[Nat.zero_mul,List.drop_zero,List.flatten_cons,List.take_append,ha,Nat.sub_self,List.take_zero,List.append_nil,←ha]
   simp
  |succ i=>
   rw[List.flatten_cons,List.drop_append,Nat.succ_mul,List.drop_eq_nil_of_le (by omega),List.nil_append,ha,Nat.add_sub_cancel]
   exact ih (fun x hx=>h x (List.mem_cons_of_mem _ hx)) i (by simpa using hi)
theorem aY.sl  {v:NV} {e:Nat} (h:aY B m v e C):Sl m v e C:=by
 obtain ⟨h0,h|⟨id,off,kc,c,h1,_,h2,h3,h4,_,h5⟩⟩:=h
 ·exact ⟨h0,Or.inl h⟩
 ·exact ⟨h0,Or.inr ⟨id,off,kc,true,c,h1,h2,h3,h4,h5⟩⟩
section
variable {m:NH} {v:NV} {e:Nat} {C:List (List NV)}
theorem Sl.len (h:Sl m v e C):FT v= .val (.int .i64 (.lit (C.length:Int))):=by
 obtain ⟨_,⟨rfl,rfl⟩|⟨id,off,kc,w,c,rfl,_⟩⟩:=h<;>rfl
theorem Sl.one (h:Sl m v e C):cellsOf v=some [v]:=by
 obtain ⟨_,⟨rfl,rfl⟩|⟨id,off,kc,w,c,rfl,_⟩⟩:=h<;>rfl
theorem EH {c:List NV} {off e:Nat} (h:∀x∈C,x.length=e) (hn:C.length=n) (hc:off+n*e<=c.length) (hf:(c.drop off).take (n*e)=C.flatten) (i:Nat) (hi:i<C.length):
 off+i*e+e<=c.length/\(c.drop (off+i*e)).take e=C[i]:=by
 subst hn
 have h1:i*e+e<=C.length*e:=by rw[←Nat.succ_mul];exact Nat.mul_le_mul_right e hi
 refine ⟨by omega, ?_⟩
 rw[←F6 h i hi,←hf,List.drop_take,List.take_take,List.drop_drop,Nat.min_eq_left (by omega)]
theorem Sl.at (h:Sl m v e C) (i:Nat) (hi:i<C.length):∃id off w c,ix e v (.int .i64 (.lit (i:Int)))= .val (.ptr id off)/\m.get id=some (.cells w c)/\am m id/\off+e<=c.length/\(c.drop off).take e=C[i]:=by
 obtain ⟨h0,⟨rfl,rfl⟩|⟨id,off,kc,w,c,rfl,h1,h2,h3,h4⟩⟩:=h
 ·simp at hi
 ·obtain ⟨h5,h6⟩:=EH h0 rfl h3 h4 i hi
  exact ⟨id,off+i*e,w,c,HM (by omega) (by omega),h1,h2,h5,h6⟩
theorem Sl.chg {T:List D4} {m':NH} (h:Sl m v e C) (hc:Chg T m m') (ht:∀id∈ids v,id∉T):Sl m' v e C:=by
 obtain ⟨h0,⟨rfl,rfl⟩|⟨id,off,kc,w,c,rfl,h1,h2,h3,h4⟩⟩:=h
 ·exact ⟨h0,Or.inl ⟨rfl,rfl⟩⟩
 ·exact ⟨h0,Or.inr ⟨id,off,kc,w,c,rfl,(hc.get h2 (ht id (List.mem_cons_self ..))).trans h1,hc.old h2,h3,h4⟩⟩
theorem Sl.grew {m':NH} (h:Sl m v e C) (hc:Chg [] m m'):Sl m' v e C:=h.chg hc fun _ _=>Xe
theorem Sl.old (h:Sl m v e C):∀id∈ids v,am m id:=by
 obtain ⟨h0,⟨rfl,rfl⟩|⟨id,off,kc,w,c,rfl,h1,h2,h3,h4⟩⟩:=h
 ·intro id hid;simp[ids] at hid
 ·intro i hi;simp[ids] at hi;rw[hi];exact h2
theorem aY.chg  {T:List D4} {m':NH} (h:aY B m v e C) (hc:Chg T m m') (ht:∀id∈ids v,id∉T):aY B m' v e C:=by
 obtain ⟨h0,⟨rfl,rfl⟩|⟨id,off,kc,c,rfl,hb,h1,h2,h3,h4⟩⟩:=h
 ·exact ⟨h0,Or.inl ⟨rfl,rfl⟩⟩
 ·exact ⟨h0,Or.inr ⟨id,off,kc,c,rfl,hb,(hc.get h2 (ht id (List.mem_cons_self ..))).trans h1,hc.old h2,h3,h4⟩⟩
theorem aY.new  (h:aY B m v e C):∀id∈ids v,¬am B id:=by
 obtain ⟨h0,⟨rfl,rfl⟩|⟨id,off,kc,c,rfl,hb,h1,h2,h3,h4⟩⟩:=h
 ·intro id hid;simp[ids] at hid
 ·intro i hi;simp[ids] at hi;rw[hi];exact hb
theorem aY.nil :aY B m .nils e []:=⟨fun x hx=>by simp at hx,Or.inl ⟨rfl,rfl⟩⟩
theorem Sl.nil:Sl m .nils e []:=⟨fun x hx=>by simp at hx,Or.inl ⟨rfl,rfl⟩⟩
theorem aY.of  {id:D4} {k:Nat} {c:List NV} (h:∀x∈C,x.length=e) (hb:¬am B id) (hg:m.get id=some (.cells true c)) (ho:am m id) (hc:c=C.flatten) (hn:n=C.length) (hk:k=C.length):aY B m (.slc id 0 n e k) e C:=by
 subst hn hk hc
 have hl:=fj h
 exact ⟨h,Or.inr ⟨id,0,_,_,rfl,hb,hg,ho,by omega,by omega,by rw[List.drop_zero,←hl,List.take_length]⟩⟩
theorem aY.back  {B':NH} (h:aY B m v e C) (hb:∀id,am B' id->am B id):aY B' m v e C:=by
 obtain ⟨h0,⟨rfl,rfl⟩|⟨id,off,kc,c,rfl,hb',h1,h2,h3,h4⟩⟩:=h
 ·exact ⟨h0,Or.inl ⟨rfl,rfl⟩⟩
 ·exact ⟨h0,Or.inr ⟨id,off,kc,c,rfl,fun q=>hb' (hb _ q),h1,h2,h3,h4⟩⟩
theorem nV  {x:NV} (h:Sl m x n D) {K:Nat->List NV->NR}:ip n m x K=K D.length D.flatten:=by
 obtain ⟨h0,⟨rfl,rfl⟩|⟨id,off,kc,w,c,rfl,h1,h2,h3,h4⟩⟩:=h
 ·rfl
 ·show cond (Nat.beq n n) (cA m id fun c=>aV (iD c off (Nat.mul D.length n)) fun l=>K D.length l) .fail=_
  rw[Nat.beq_refl]
  show cA m id (fun c=>aV (iD c off (Nat.mul D.length n)) fun l=>K D.length l)=_
  unfold cA
  rw[h1]
  show aV (iD c off (D.length*n)) (fun l=>K D.length l)=_
  rw[lZ,Xb h3,h4];rfl
theorem Chg.put (m:NH) (id:D4) (o:NO):Chg [id] m (m.put id o):=
 ⟨Nat.le_refl _,fun {i} _ hn=>NH.get_put_ne m o (by simpa using hn)⟩
theorem am.next_ne  {i:D4} (h:am m i):i≠m.next:=by
 intro e;rw[e] at h;exact Nat.lt_irrefl _ h
theorem Chg.add (m:NH) (o:NO):Chg [] m (m.add o):=
 ⟨by show m.next.toNat<=m.next.nxt.toNat;rw[D4.toNat_nxt];omega,fun {i} ho _=>NH.get_add_ne m o ho.next_ne⟩
theorem jY (m:NH) (o:NO):am (m.add o) m.next:=by
 show m.next.toNat<m.next.nxt.toNat;rw[D4.toNat_nxt];omega
theorem Ed  (h:n*bytes<=1099511627776) (h':n<=1099511627776):room n bytes=true:=by
 unfold room
 rw[show Nat.ble (Nat.mul n bytes) 1099511627776=true from Nat.ble_eq_true_of_le h,show Nat.ble n 1099511627776=true from Nat.ble_eq_true_of_le h']
 rfl
theorem aY.app  {x:NV} (hv:aY B m v e C) (hx:Sl m x e D) (hD:D≠ []) (hB:∀id,am B id->am m id) (hr:(C.length+D.length)*bytes<=1099511627776) (hr':C.length+D.length<=1099511627776):
 ∃v' m',AJ e bytes m v x= .mem v' m'/\aY B m' v' e (C++D)/\Chg (ids v) m m':=by
 unfold AJ
 rw[nV hx]
 have hDl:∀y∈D,y.length=e:=hx.1
 have hDp:0<D.length:=List.length_pos_iff.mpr hD
 obtain ⟨k,hk⟩:∃k,D.length=k+1:=⟨D.length - 1,by omega⟩
 have hall:∀y∈C++D,y.length=e:=fun y hy=>(List.mem_append.mp hy).elim (hv.1 y) (hDl y)
 have hnext:¬am B m.next:=fun q=>Nat.lt_irrefl _ (hB _ q)
 obtain ⟨h0,⟨rfl,rfl⟩|⟨id,off,kc,c,rfl,hb,h1,h2,h3,h3',h4⟩⟩:=hv
 ·refine ⟨.slc m.next 0 D.length e D.length,m.add (.cells true D.flatten), ?_, ?_,Chg.add m _⟩
  ·show Nat.rec (motive:=fun _=>NR) (.val .nils) (fun _ _=>cond (room D.length bytes) (m.new (.cells true D.flatten) fun id h=> .mem (.slc id 0 D.length e D.length) h) .fail) D.length=_
   rw[Ed (by simpa using hr) (by simpa using hr'),NH.new_eq,hk];rfl
  ·exact aY.of hall hnext (NH.get_add_same m _) (jY m _) (by simp) (by simp) (by simp)
 ·have e1:g9 e bytes m (.slc id off C.length e kc) D.length D.flatten=(cond (Nat.ble (C.length+D.length) kc)
   (aV (dX D.flatten (off+C.length*e) c) fun c=>m.set id (.cells true c) fun h=> .mem (.slc id off (C.length+D.length) e kc) h)
   (aV (d8 off c) fun c=>aV (jw (C.length*e) c) fun old=>cond (room (C.length+D.length) bytes)
    (jH old D.flatten fun l=>m.set id .dead fun h=>h.new (.cells true l) fun id h=> .mem (.slc id 0 (C.length+D.length) e (C.length+D.length)) h) .fail)):=by
   show cond (Nat.beq e e) (Nat.rec (motive:=fun _=>NR) (.val (.slc id off C.length e kc)) (fun _ _=>fg m id fun c=>aD (Nat.add C.length D.length) fun n=>cond (Nat.ble n kc)
    (aV (dX D.flatten (Nat.add off (Nat.mul C.length e)) c) fun c=>m.set id (.cells true c) fun h=> .mem (.slc id off n e kc) h)
    (aV (d8 off c) fun c=>aV (jw (Nat.mul C.length e) c) fun old=>cond (room n bytes)
     (jH old D.flatten fun l=>m.set id .dead fun h=>h.new (.cells true l) fun id h=> .mem (.slc id 0 n e n) h) .fail)) D.length) .fail=_
   rw[Nat.beq_refl,hk]
   show fg m id _=_
   unfold fg
   rw[h1]
   show aD (C.length+(k+1)) _=_
   rw[ai]
   rfl
  rw[e1]
  have fl:=fj hDl
  have fc:=fj h0
  cases hle:Nat.ble (C.length+D.length) kc with
  |true=>
   have hle:=Nat.le_of_ble_eq_true hle
   have hm:C.length*e+D.length*e<=kc*e:=by rw[←Nat.add_mul];exact Nat.mul_le_mul_right e hle
   refine ⟨.slc id off (C.length+D.length) e kc,m.put id (.cells true (c.take (off+C.length*e)++D.flatten++c.drop (off+C.length*e+D.flatten.length))), ?_, ?_,Chg.put m id _⟩
   ·show aV (dX D.flatten (off+C.length*e) c) _=_
    rw[fF,Xb (by omega)]
    show m.set id _ _=_
    rw[NH.set_eq]
   ·refine ⟨hall,Or.inr ⟨id,off,kc,_,by rw[List.length_append],hb,NH.get_put_same m id _,h2, ?_, ?_, ?_⟩⟩
    ·simp only[List.length_append,List.length_take,List.length_drop,Nat.add_mul];omega
    ·simp only[List.length_append,List.length_take,List.length_drop];omega
    ·have e3:c.take (off+C.length*e)=c.take off++C.flatten:=by rw[List.take_add,h4]
     have e4:(c.take off).length=off:=by rw[List.length_take];omega
     have e5:(c.take off++C.flatten++D.flatten++c.drop (off+C.length*e+D.flatten.length)).drop off=C.flatten++D.flatten++c.drop (off+C.length*e+D.flatten.length):=by
      rw[List.append_assoc,List.append_assoc]
      have:=List.drop_left (l₁:=c.take off) (l₂:=C.flatten++(D.flatten++c.drop (off+C.length*e+D.flatten.length)))
      rw[e4] at this
      rw[this,List.append_assoc]
     rw[e3,e5,List.flatten_append,List.length_append,Nat.add_mul]
     rw[show C.length*e+D.length*e=(C.flatten++D.flatten).length by rw[List.length_append,fl,fc]]
     exact List.take_left
  |false=>
   refine ⟨.slc m.next 0 (C.length+D.length) e (C.length+D.length),(m.put id .dead).add (.cells true (C.flatten++D.flatten)), ?_, ?_, ?_⟩
   ·show aV (d8 off c) _=_
    rw[gD,Xb (by omega)]
    show aV (jw (C.length*e) (c.drop off)) _=_
    rw[jP,Xb (by rw[List.length_drop];omega),h4]
    show cond (room (C.length+D.length) bytes) _ _=_
    rw[Ed hr hr']
    show jH C.flatten D.flatten _=_
    rw[fX,NH.set_eq,NH.new_eq];rfl
   ·exact aY.of hall hnext (NH.get_add_same (m.put id .dead) _) (jY (m.put id .dead) _) (by simp) (by simp) (by simp)
   ·exact (Chg.put m id .dead).trans (Chg.add _ _) fun i hi _=>by simp at hi
theorem Sl.appNil {x:NV} (hv:Sl m v e C) (hx:Sl m x e []):AJ e bytes m v x= .val v:=by
 unfold AJ
 rw[nV hx]
 obtain ⟨h0,⟨rfl,rfl⟩|⟨id,off,kc,w,c,rfl,h1,h2,h3,h4⟩⟩:=hv
 ·rfl
 ·show cond (Nat.beq e e) _ _=_
  rw[Nat.beq_refl];rfl
def qt (off:Nat):List (Nat×NV)->List NV->List NV
 | [],c=>c
 |(k,x)::us,c=>qt off us (c.set (off+k) x)
theorem pM {off:Nat}:∀(us:List (Nat×NV)) (c:List NV),(qt off us c).length=c.length:=by
 intro us
 induction us with
 |nil=>intro c;rfl
 |cons u us ih=>intro c;obtain ⟨k,x⟩:=u;show (qt off us (c.set (off+k) x)).length=_;rw[ih,List.length_set]
theorem aY.at  (h:aY B m v e C) (i:Nat) (hi:i<C.length):∃id off c,ix e v (.int .i64 (.lit (i:Int)))= .val (.ptr id off)/\ids v= [id]/\¬am B id/\m.get id=some (.cells true c)/\am m id/\off+e<=c.length/\(c.drop off).take e=C[i]/\
 ∀(us:List (Nat×NV)) (M:NH),(∀u∈us,u.1<e)->M.get id=some (.cells true (qt off us c))->am M id->aY B M v e (C.set i (qt 0 us C[i])):=by
 obtain ⟨h0,⟨rfl,rfl⟩|⟨id,off,kc,c,rfl,hb,h1,h2,h3,h3',h4⟩⟩:=h
 ·simp at hi
 ·obtain ⟨h5,h6⟩:=EH h0 rfl h3 h4 i hi
  refine ⟨id,off+i*e,c,HM (by omega) (by omega),rfl,hb,h1,h2,h5,h6,fun us M hk hM hMo=> ?_⟩
  have hlen:∀y∈C.set i (qt 0 us C[i]),y.length=e:=by
   intro y hy
   rcases List.mem_or_eq_of_mem_set hy with hy|hy
   ·exact h0 y hy
   ·rw[hy,pM];exact h0 _ (List.getElem_mem hi)
  refine ⟨hlen,Or.inr ⟨id,off,kc,_,by rw[List.length_set],hb,hM,hMo,by rw[pM,List.length_set];exact h3,by rw[pM];exact h3', ?_⟩⟩
  rw[List.length_set]
  have hone:∀(k:Nat) (x:NV) (_:k<e) (C:List (List NV)) (_:∀x∈C,x.length=e) (i:Nat) (hi:i<C.length),(C.set i (C[i].set k x)).flatten=C.flatten.set (i*e+k) x:=by
   intro k x hk C
   induction C with
   |nil=>intro _ i hi;simp at hi
   |cons a C ih=>
    intro h i hi
    have ha:=h a (List.mem_cons_self ..)
    cases i with
    |zero=>simp only[List.set_cons_zero,List.flatten_cons,List.getElem_cons_zero,Nat.zero_mul,Nat.zero_add];rw[List.set_append_left _ _ (by omega)]
    |succ i=>
     simp only[List.set_cons_succ,List.flatten_cons,List.getElem_cons_succ]
     rw[ih (fun x hx=>h x (List.mem_cons_of_mem _ hx)) i (by simpa using hi),List.set_append_right _ _ (by rw[ha,Nat.succ_mul];omega),ha,Nat.succ_mul]
     congr 2;omega
  have hall:∀(us:List (Nat×NV)) (_:∀u∈us,u.1<e) (c:List NV) (C:List (List NV)) (_:∀x∈C,x.length=e) (hi:i<C.length),(c.drop off).take (C.length*e)=C.flatten->
   ((qt (off+i*e) us c).drop off).take (C.length*e)=(C.set i (qt 0 us C[i])).flatten:=by
   intro us
   induction us with
   |nil=>intro _ c C _ hi hf;simp[qt];exact hf
   |cons u us ih=>
    obtain ⟨k,x⟩:=u
    intro hk c C hC hi hf
    have hk0:k<e:=hk (k,x) (List.mem_cons_self ..)
    have:=ih (fun u hu=>hk u (List.mem_cons_of_mem _ hu)) (c.set (off+i*e+k) x) (C.set i (C[i].set k x))
     (fun y hy=>by
      rcases List.mem_or_eq_of_mem_set hy with hy|hy
      ·exact hC y hy
      ·rw[hy,List.length_set];exact hC _ (List.getElem_mem hi))
     (by rw[List.length_set];exact hi)
     (by rw[List.length_set,hone k x hk0 C hC i hi,←hf,List.drop_set,Xa (by omega),List.take_set];congr 1;omega)
    rw[List.getElem_set_self,List.set_set] at this
    simp only[List.length_set] at this
    show ((qt (off+i*e) us (c.set (off+i*e+k) x)).drop off).take (C.length*e)=(C.set i (qt 0 us (C[i].set (0+k) x))).flatten
    rw[Nat.zero_add];exact this
  exact hall us hk c C h0 hi h4
theorem Sl.flat (h:Sl m v e C):ES v:=by
 obtain ⟨_,⟨rfl,rfl⟩|⟨id,off,kc,w,c,rfl,_⟩⟩:=h<;>trivial
theorem Sl.same (h:Sl m v e C):bg (n+1) v v=true:=iA h.flat
theorem Sl.ssl (h:Sl m v e C) {t:Tm} {lo hi:Option NOpd} {a b:Nat} (hab:a<=b) (hb:b<=C.length) (hlo:∀K:Nat->NR,ji t lo 0 K=K a) (hhi:∀(d:Nat) (K:Nat->NR),d=C.length->ji t hi d K=K b):
 ∃v',AA e t lo hi v= .val v'/\Sl m v' e ((C.drop a).take (b - a))/\(∀i∈ids v',i∈ids v):=by
 obtain ⟨h0,⟨rfl,rfl⟩|⟨id,off,kc,w,c,rfl,h1,h2,h3,h4⟩⟩:=h
 ·simp at hb
  subst hb
  have ha:a=0:=by omega
  subst ha
  refine ⟨.nils, ?_,⟨by simp,Or.inl ⟨rfl,by simp⟩⟩,fun _ h=>h⟩
  rw[Kq,hhi 0 _ rfl,hlo];rfl
 ·have hlen:((C.drop a).take (b - a)).length=b - a:=by rw[List.length_take,List.length_drop];omega
  have hall:∀x∈(C.drop a).take (b - a),x.length=e:=fun x hx=>h0 x (List.mem_of_mem_drop (List.mem_of_mem_take hx))
  have hmul:a*e+(b - a)*e<=C.length*e:=by rw[←Nat.add_mul];exact Nat.mul_le_mul_right e (by omega)
  refine ⟨.slc id (off+a*e) (b - a) e (kc - a), ?_,⟨hall,Or.inr ⟨id,off+a*e,kc - a,w,c,by rw[hlen],h1,h2,by rw[hlen];omega, ?_⟩⟩,fun _ h=>h⟩
  ·rw[HN,hhi _ _ rfl,hlo,OA hab hb]
  ·rw[hlen]
   have e1:(c.drop (off+a*e)).take ((b - a)*e)=(((c.drop off).take (C.length*e)).drop (a*e)).take ((b - a)*e):=by
    rw[List.drop_take,List.take_take,List.drop_drop,Nat.min_eq_left (by omega)]
   rw[e1,h4]
   have e2:C.flatten=(C.take a).flatten++(((C.drop a).take (b - a)).flatten++((C.drop a).drop (b - a)).flatten):=by
    rw[←List.flatten_append,List.take_append_drop,←List.flatten_append,List.take_append_drop]
   have e3:((C.take a).flatten).length=a*e:=by
    rw[fj fun x hx=>h0 x (List.mem_of_mem_take hx),List.length_take,Nat.min_eq_left (by omega)]
   have e4:(((C.drop a).take (b - a)).flatten).length=(b - a)*e:=by rw[fj hall,hlen]
   rw[e2,←e3,List.drop_left,←e4,List.take_left]
theorem qB {α:Type} (n:Nat) (z:List α):Nm.rep n z=(List.replicate n z).flatten:=by
 induction n with
 |zero=>rfl
 |succ n ih=>show z++Nm.rep n z=_;rw[ih,List.replicate_succ,List.flatten_cons]
theorem aF {c cs:List NV} {off e:Nat} (h:(c.drop off).take e=cs) (k:Nat) (hk:k<e):c[off+k]? =cs[k]? :=by
 rw[←h,List.getElem?_take_of_lt hk,List.getElem?_drop]
end
end Nm
namespace Nm
open Go Go.RowKit
variable {m:NH} {l cs:List NV} {t:Tm} {k cur:Nat} {ps:List (Nat×Nat×NOpd)} {S:Nat->List NV->Option NV} {C:List (List NV)}
section
variable {L:List (D4×NV)} {t:Tm} {ctx:Option NV} {m:NH} {K:NV->NH->Prop}
theorem Qf {q:Bool}:(q==true)=q:=by cases q<;>rfl
theorem Py {q:Bool}:(q==false)= !q:=by cases q<;>rfl
theorem aI {l:List (AK×NO)} {S:List D4} (h:aC l=S):Chg S m (hp l k m):=h▸dg l k m
def MS (f:List NV->List NV) (o:Option (List NV)):Option (List NV):=match o with|some l=>some (f l)|none=>none
theorem RV {f:List NV->List NV}:MS f (some l)=some (f l):=_root_.id rfl
noncomputable def VW (t:Tm) (ps:List (Nat×Nat×NOpd)) (off k cur:Nat) (l:List NV) (o:Option (List NV)):Option (List NV):=match o with
 |some cs=>if cs.length=k/\cur<=off/\off - cur+k<=l.length then MS (fun r=>l.take (off - cur)++(cs++r)) (c9 t ps (off+k) (l.drop (off - cur+k))) else none
 |none=>none
theorem Tz :c9 t [] cur l=some l:=_root_.id rfl
theorem HI {α:Type} (K:List α->Option (List α)):∀(k:Nat) (l:List α),gV k K l=if k<=l.length then (match K (l.drop k) with|some r=>some (l.take k++r)|none=>none) else none:=by
 intro k
 induction k with
 |zero=>intro l;show K l=_;simp;cases K l<;>rfl
 |succ k ih=>
  intro l
  cases l with
  |nil=>simp;rfl
  |cons a l=>
   show Option.rec (motive:=fun _=>Option (List α)) none (fun t'=>some (a::t')) (gV k K l)=_
   rw[ih]
   by_cases h:k<=l.length
   ·rw[Xb h,Xb (by simpa using h),List.drop_succ_cons]
    cases K (l.drop k)<;>rfl
   ·rw[Xa h,Xa (by simpa using h)]
theorem Ww  {off:Nat} {x:NOpd}:c9 t ((off,k,x)::ps) cur l=oO (ρ t x) fun v=>VW t ps off k cur l (cellsOf v):=by
 show Option.rec (motive:=fun _=>Option (List NV)) none (fun v:NV=>Option.rec (motive:=fun _=>Option (List NV)) none (fun cs=>eN cs fun j=>cond (Nat.beq j k) (cond (Nat.ble cur off)
  (gV (Nat.sub off cur) (fun l=>Option.rec (motive:=fun _=>Option (List NV)) none (fun l=>Option.rec (motive:=fun _=>Option (List NV)) none (fun l=>jH cs l some) (c9 t ps (Nat.add off j) l)) (d8 j l)) l) none) none) (cellsOf v)) (ρ t x)=_
 cases ρ t x with
 |none=>rfl
 |some v=>
  show Option.rec (motive:=fun _=>Option (List NV)) none (fun cs=>eN cs fun j=>cond (Nat.beq j k) (cond (Nat.ble cur off)
   (gV (Nat.sub off cur) (fun l=>Option.rec (motive:=fun _=>Option (List NV)) none (fun l=>Option.rec (motive:=fun _=>Option (List NV)) none (fun l=>jH cs l some) (c9 t ps (Nat.add off j) l)) (d8 j l)) l) none) none) (cellsOf v)=VW t ps off k cur l (cellsOf v)
  cases cellsOf v with
  |none=>rfl
  |some cs=>
   show eN cs (fun j=>cond (Nat.beq j k) (cond (Nat.ble cur off)
    (gV (Nat.sub off cur) (fun l=>Option.rec (motive:=fun _=>Option (List NV)) none (fun l=>Option.rec (motive:=fun _=>Option (List NV)) none (fun l=>jH cs l some) (c9 t ps (Nat.add off j) l)) (d8 j l)) l) none) none)=if cs.length=k/\cur<=off/\off - cur+k<=l.length then _ else _
   rw[du]
   cases hb:Nat.beq cs.length k with
   |false=>rw[Xa (fun h=>Nat.ne_of_beq_eq_false hb h.1)];rfl
   |true=>
    have hk:=Xg hb
    subst hk
    cases hle:Nat.ble cur off with
    |false=>rw[Xa (fun h=>by rw[Nat.ble_eq_true_of_le h.2.1] at hle;cases hle)];rfl
    |true=>
     have hle:=Nat.le_of_ble_eq_true hle
     show gV (off - cur) (fun l=>Option.rec (motive:=fun _=>Option (List NV)) none (fun l=>Option.rec (motive:=fun _=>Option (List NV)) none (fun l=>jH cs l some) (c9 t ps (off+cs.length) l)) (d8 cs.length l)) l=_
     rw[HI]
     by_cases h1:off - cur<=l.length
     ·rw[Xb h1,gD,List.length_drop]
      by_cases h2:cs.length<=l.length - (off - cur)
      ·rw[Xb h2,Xb ⟨rfl,hle,by omega⟩,List.drop_drop]
       dsimp only
       cases c9 t ps (off+cs.length) (l.drop (off - cur+cs.length)) with
       |none=>rfl
       |some r=>dsimp only[MS];rw[fX]
      ·rw[Xa h2,Xa (fun h=>h2 (by omega))]
     ·rw[Xa h1,Xa (fun h=>h1 (by omega))]
theorem UQ  {off:Nat} (h1:cs.length=k) (h2:cur<=off) (h3:off - cur+k<=l.length):
 VW t ps off k cur l (some cs)=MS (fun r=>l.take (off - cur)++(cs++r)) (c9 t ps (off+k) (l.drop (off - cur+k))):=Xb ⟨h1,h2,h3⟩
theorem tF.wf' {P:Program} {f:Nat} {args:List NV} {m':NH} {v:NV} (h:tF P S f args m v m') {K:NV->NH->Prop}:WF P S f args m K=K v m':=by
 rw[h.wf,aa]
theorem tH (m:NH) (o:NO):hp [(.n 0,o)] 1 m=m.add o:=by
 have:=DV (m:=m) (l:= []) (k:=0) (o:=o)
 rw[aa] at this
 exact this.symm
theorem aY.app1  {B:NH} {v:NV} {e:Nat} {x:D4} {w:Bool} {kc bytes:Nat} (hv:aY B m v e C) (hx:m.get x=some (.cells w cs)) (hox:am m x) (hl:cs.length=e) (hB:∀id,am B id->am m id)
 (hr:(C.length+1)*bytes<=1099511627776) (hr':C.length+1<=1099511627776):∃v' m',AJ e bytes m v (.slc x 0 1 e kc)= .mem v' m'/\aY B m' v' e (C++ [cs])/\Chg (ids v) m m':=
 hv.app (D:= [cs]) ⟨fun y hy=>by simp at hy;rw[hy];exact hl,Or.inr ⟨x,0,kc,w,cs,rfl,hx,hox,by subst hl;simp,by subst hl;simp⟩⟩ (by simp) hB hr hr'
theorem Lq {P:Program} {dst:D4} {L:List (D4×NV)} {dfs:List Dfr} {ctx:Option NV} {K:Dyn->Prop} {B:NH} {v:NV} {e:Nat} {x:D4} {w:Bool} {kc bytes:Nat} (hv:aY B m v e C) (hx:m.get x=some (.cells w cs)) (hox:am m x) (hl:cs.length=e) (hB:∀id,am B id->am m id)
 (hr:(C.length+1)*bytes<=1099511627776) (hr':C.length+1<=1099511627776) (h:∀v' m',aY B m' v' e (C++ [cs])->Chg (ids v) m m'->K ⟨ah ((dst,v')::L) t,dfs,ctx,hp [] 0 m'⟩):
 wN P S (some dst) (ah L t) dfs ctx m (AJ e bytes m v (.slc x 0 1 e kc)) K:=by
 obtain ⟨v',m',h1,h2,h3⟩:=hv.app1 (bytes:=bytes) (kc:=kc) hx hox hl hB hr hr'
 have:=h v' m' h2 h3
 rw[aa] at this
 rw[h1];exact this
theorem RN {b:Bool}:cellsOf (.bool b)=some [.bool b]:=_root_.id rfl
theorem Ul {k:IntKind} {x:SI}:cellsOf (.int k x)=some [.int k x]:=_root_.id rfl
theorem UD {l:List Nat}:cellsOf (.str l)=some [.str l]:=_root_.id rfl
theorem Q3:cellsOf (.nilp)=some [.nilp]:=_root_.id rfl
theorem Um {i:D4} {o:Nat}:cellsOf (.ptr i o)=some [.ptr i o]:=_root_.id rfl
theorem QU:cellsOf (.nils)=some [.nils]:=_root_.id rfl
theorem U2 {i:D4} {o n e:Nat}:cellsOf (.slc i o n e k)=some [.slc i o n e k]:=_root_.id rfl
theorem SO {i:D4}:cellsOf (.map i)=some [.map i]:=_root_.id rfl
theorem Ud :cellsOf (.agg l)=some l:=_root_.id rfl
noncomputable def Tu (m:NH) (o:Option (List NV)):NR:=match o with|some cs=> .mem (.ptr m.next 0) (m.add (.cells true cs))|none=> .fail
theorem U5  {x:NOpd} {ty:Nat}:ag (.box x ty) t m=oN (ρ t x) fun v=>Tu m (cellsOf v):=Pn
theorem TE :Tu m (some cs)= .mem (.ptr m.next 0) (m.add (.cells true cs)):=_root_.id rfl
abbrev ii (z:Int):NV:= .int .i64 (.lit z)
end
end Nm
namespace Nm
open Go Go.RowKit
variable {K Φ:NV->NH->Prop} {t:Tm} {ctx:Option NV} {dfs:List Dfr} {v:NV} {m':NH} {ps:List D4} {a b:NC} {tm:NT NV} {o:Out} {rs:List NRes} {Q:Out->Dyn->Prop}
def yY (P:Program) (S:Nat->List NV->Option NV) (q:D4) (args:List NV) (m:NH) (v:NV) (m':NH):Prop:=∃c,BW P S q args m (.val v c m')
def WY (P:Program) (S:Nat->List NV->Option NV) (q:D4) (args:List NV) (m:NH) (K:NV->NH->Prop):Prop:=∃v c m',BW P S q args m (.val v c m')/\K v m'
section
variable {P:Program} {S:Nat->List NV->Option NV} {f:Nat} {q:D4} {args:List NV} {m:NH}
theorem BW.det {x y:CR} (h:BW P S q args m x) (h':BW P S q args m y):x=y:=by
 obtain ⟨hn,n,e⟩:=h
 obtain ⟨hn',k,e'⟩:=h'
 rw[←gH (cK (Nat.le_max_left n k)) e hn,gH (cK (Nat.le_max_right n k)) e' hn']
theorem yY.wy  (h:yY P S q args m v m'):WY P S q args m K=K v (hp [] 0 m'):=by
 rw[aa]
 apply propext
 constructor
 ·rintro ⟨u,c,n,hc,hk⟩
  obtain ⟨c',h'⟩:=h
  have:=BW.det hc h'
  injection this with a _ b
  rw[←a,←b];exact hk
 ·intro hk
  obtain ⟨c,h⟩:=h
  exact ⟨v,c,m',h,hk⟩
def RH (q:D4) (K:NV->NH->Prop) (o:Out) (d:Dyn):Prop:=match d.h.get q with
 |some (.loop _ _ tm ps a b)=>(match o with
  | .norm=>K (.bool true) (d.h.put q (.loop 0 .none tm ps a b))
  | .ret=>K (.bool false) (d.h.put q (.loop 2 .ret tm ps a b))
  | .exit i=>K (.bool false) (d.h.put q (.loop 2 (.exit i) tm ps a b))
  | .pan _=>False)
 |_=>False
theorem WY.of_wp {p:Jump} {A B:NC} (hm:m.get q=some (.loop 0 p tm ps a b)) (hlen:args.length=ps.length) (ea:a=A) (eb:b=B)
 (h:wp P S (some q) A ⟨putP ps args tm, [],none,hp [] 0 m⟩ (fun o d=>o= .norm/\d.dfs= []/\d.h.get q=some (.loop 0 p tm ps a b)/\wp P S (some q) B ⟨d.t, [],none,d.h.put q (.loop 1 p tm ps a b)⟩ (RH q K))):WY P S q args m K:=by
 subst ea eb
 rw[aa] at h
 obtain ⟨o,d1,h1,rfl,hd,hq,h2⟩:=ax _ _ _ h
 obtain ⟨o,d2,h3,h4⟩:=ax _ _ _ h2
 unfold RH at h4
 cases hg:d2.h.get q with
 |none=>rw[hg] at h4;exact h4.elim
 |some w=>
  rw[hg] at h4
  cases w with
  |loop st p2 tm2 ps2 a2 b2=>
   cases o with
   |norm=>exact ⟨_,none,_,BW.of hm hlen h1 hd hq h3 (by simp) (by unfold eD;rw[hg];exact NH.set_eq _ _ _ _) (by simp),h4⟩
   |ret=>exact ⟨_,none,_,BW.of hm hlen h1 hd hq h3 (by simp) (by unfold eD;rw[hg];exact NH.set_eq _ _ _ _) (by simp),h4⟩
   |exit i=>exact ⟨_,none,_,BW.of hm hlen h1 hd hq h3 (by simp) (by unfold eD;rw[hg];exact NH.set_eq _ _ _ _) (by simp),h4⟩
   |pan v=>exact h4.elim
  |_=>exact h4.elim
noncomputable def V1 (q:D4) (K:NV->NH->Prop) (o:Out) (m:NH) (x:Option NO):Prop:=match x with
 |some (.loop _ _ tm ps a b)=>(match o with
  | .norm=>K (.bool true) (m.put q (.loop 0 .none tm ps a b))
  | .ret=>K (.bool false) (m.put q (.loop 2 .ret tm ps a b))
  | .exit i=>K (.bool false) (m.put q (.loop 2 (.exit i) tm ps a b))
  | .pan _=>False)
 |_=>False
theorem PV :RH q K o ⟨t,dfs,ctx,m⟩=V1 q K o m (m.get q):=_root_.id rfl
section
variable {K:NV->NH->Prop} {st:Nat} {p:Jump} {tm:NT NV} {ps:List D4} {a b:NC} {i:Nat}
theorem SX:V1 q K .norm m (some (.loop st p tm ps a b))=K (.bool true) (m.put q (.loop 0 .none tm ps a b)):=_root_.id rfl
theorem Tt:V1 q K .ret m (some (.loop st p tm ps a b))=K (.bool false) (m.put q (.loop 2 .ret tm ps a b)):=_root_.id rfl
end
theorem WY.ret  (h:WY P S q args m K):∃v m',yY P S q args m v m'/\K v m':=by
 obtain ⟨v,c,m',hc,hk⟩:=h;exact ⟨v,m',⟨c,hc⟩,hk⟩
theorem WY.ex  (h:∀K:NV->NH->Prop,(∀v m',Φ v m'->K v m')->WY P S q args m K):∃v m',yY P S q args m v m'/\Φ v m':=(h Φ fun _ _ h=>h).ret
theorem WF.ex  (h:∀K:NV->NH->Prop,(∀v m',Φ v m'->K v m')->WF P S f args m K):∃v m',tF P S f args m v m'/\Φ v m':=(h Φ fun _ _ h=>h).ret
theorem I9 :ah [] t=t:=rfl
def vK (ks:List D4) (t t':Tm):Prop:=∀k,k∉ks->NT.get k t'=NT.get k t
theorem vK.refl (ks:List D4) (t:Tm):vK ks t t:=fun _ _=>rfl
theorem vK.get {ks:List D4} {t':Tm} (h:vK ks t t') {k:D4} {v:Option NV} (g:NT.get k t=v) (hk:k∉ks):NT.get k t'=v:=(h k hk).trans g
theorem vK.trans {ks ls:List D4} {a b c:Tm} (h:vK ks a b) (h':vK ls b c) (hs:∀k∈ls,k∈ks):vK ks a c:=fun k hk=>(h' k fun q=>hk (hs k q)).trans (h k hk)
noncomputable def Gf:List Dfr->NH->Option NH
 | [],m=>some m
 | .mark id::l,m=>(match m.get id with|some (.defd true)=>Gf l (m.put id (.defd false))|_=>none)
 | .call ..::_,_=>none
def O7 (rs:List NRes) (K:NV->NH->Prop) (o:Out) (d:Dyn):Prop:=(o= .norm∨o= .ret)/\∃m',Gf d.dfs d.h=some m'/\∃v,cY m' d.t rs .fail (fun l=> .val (jF l) d.ctx m')= .val v d.ctx m'/\K v m'
theorem pR {F:Nat->List NV->Option NV->NH->CR} {K:Option NV->NH->CR}:∀(l:List Dfr) (m m':NH) (p:Option NV),Gf l m=some m'->unwind F K l p m=K p m':=by
 intro l
 induction l with
 |nil=>intro m m' p h;injection h with h;rw[←h];rfl
 |cons c l ih=>
  intro m m' p h
  cases c with
  |call f cap=>cases h
  |mark id=>
   show (match m.get id with
    |some (.defd true)=>m.set id (.defd false) fun h=>unwind F K l p h
    |_=>CR.fail)=_
   change (match m.get id with|some (.defd true)=>Gf l (m.put id (.defd false))|_=>none)=some m' at h
   cases hg:m.get id with
   |none=>rw[hg] at h;cases h
   |some o=>
    rw[hg] at h
    cases o with
    |defd b=>cases b with
     |true=>dsimp only at h ⊢;rw[NH.set_eq];exact ih _ _ _ h
     |false=>cases h
    |_=>cases h
theorem Call.of_runM {nf:NFun} (hs:∀l,S f l=none) (hf:an P f=some (.code nf)) {d:Dyn} (ho:o= .norm∨o= .ret) (h:fJ P S none nf.body ⟨ew args 0 .leaf, [],none,m⟩ o d)
 (hd:Gf d.dfs d.h=some m') (hv:cY m' d.t nf.results .fail (fun l=> .val (jF l) d.ctx m')= .val v d.ctx m'):Call P S f args m (.val v d.ctx m'):=by
 obtain ⟨n,hn⟩:=h
 refine ⟨by simp,n, ?_⟩
 unfold cS
 rw[hs args]
 dsimp only
 rw[hf]
 show dx P (ev P S n) 3 f args none m=_
 rw[gI,hf]
 dsimp only
 rw[hn]
 rcases ho with rfl|rfl
 ·show unwind _ (finish nf.results d) d.dfs none d.h=_
  rw[pR _ _ _ _ hd];exact hv
 ·show unwind _ (finish nf.results d) d.dfs none d.h=_
  rw[pR _ _ _ _ hd];exact hv
theorem WF.of_wpM {nf:NFun} (hs:∀l,S f l=none) (hf:an P f=some (.code nf)) {L:List (D4×NV)} (hL:ew args 0 .leaf=ah L .leaf)
 (h:wp P S none nf.body ⟨ah L .leaf, [],none,hp [] 0 m⟩ (O7 nf.results K)):WF P S f args m K:=by
 rw[aa] at h
 obtain ⟨o,d,h1,ho,m',hd,v,hv,hK⟩:=ax _ _ _ h
 rw[←hL] at h1
 exact ⟨v,d.ctx,m',Call.of_runM hs hf ho h1 hd hv,hK⟩
noncomputable def V5 (rs:List NRes) (K:NV->NH->Prop) (t:Tm) (ctx:Option NV) (o:Option NH):Prop:=match o with|some m'=>Fz rs K .ret ⟨t, [],ctx,m'⟩|none=>False
theorem ND  (ho:o= .norm∨o= .ret):O7 rs K o ⟨t,dfs,ctx,m⟩=V5 rs K t ctx (Gf dfs m):=by
 apply propext
 constructor
 ·rintro ⟨_,m',h1,v,h2,h3⟩
  change Gf dfs m=some m' at h1
  rw[h1]
  exact ⟨Or.inr rfl,rfl,v,h2,h3⟩
 ·intro h
  cases hu:Gf dfs m with
  |none=>rw[hu] at h;exact h.elim
  |some m'=>
   rw[hu] at h
   obtain ⟨_,_,v,h2,h3⟩:=h
   exact ⟨ho,m',hu,v,h2,h3⟩
theorem Pe :O7 rs K .ret ⟨t,dfs,ctx,m⟩=V5 rs K t ctx (Gf dfs m):=ND (.inr rfl)
theorem TS :V5 rs K t ctx (some m)=Fz rs K .ret ⟨t, [],ctx,m⟩:=_root_.id rfl
theorem Lw {r:Option D4} {g:NOpd} {d:Dyn}:wp P S r (.rangeFunc g ps a b) d Q=W P S r (.rangeFunc g ps a b) d Q:=_root_.id rfl
theorem Sn:Gf [] m=some m:=_root_.id rfl
noncomputable def SL (l:List Dfr) (i:D4) (m:NH) (o:Option NO):Option NH:=match o with|some (.defd true)=>Gf l (m.put i (.defd false))|_=>none
theorem UF {l:List Dfr} {i:D4}:Gf (.mark i::l) m=SL l i m (m.get i):=_root_.id rfl
theorem Q4 {l:List Dfr} {i:D4}:SL l i m (some (.defd true))=Gf l (m.put i (.defd false)):=_root_.id rfl
theorem W.range {cap:List NV} {fx:NOpd} {M:NH}
 (hf:ρ t fx=some (.fn f cap)) {x:D4} (hx:m.next=x) {y:D4} (hy:(m.add (.defd true)).next=y) (hM:(m.add (.defd true)).add (.loop 0 .none t ps a b)=M) (hc:tF P S f (.yld y::cap) M v m') {ps':List D4} {a' b':NC} (hl:m'.get y=some (.loop 0 .none tm ps' a' b')) (hQ:Q .norm ⟨t,.mark x::dfs,ctx,hp [] 0 (m'.put y (.loop 3 .none tm ps' a' b'))⟩):
 W P S none (.rangeFunc fx ps a b) ⟨t,dfs,ctx,m⟩ Q:=by
 subst hx hy hM
 rw[aa] at hQ
 obtain ⟨c,hc⟩:=hc
 refine ⟨_,_,fJ.range hf hc ?_,hQ⟩
 unfold fu
 rw[hl]
 dsimp only
 rw[show Nat.beq 0 1=false from rfl,cond_false,NH.set_eq]
theorem W.rangeN {cap:List NV} {fx:NOpd}
 (hf:ρ t fx=some (.fn f cap)) (hc:tF P S f (.yld (na m 1)::cap) (hp [(.n 1,.loop 0 .none t ps a b),(.n 0,.defd true)] 2 m) v m') {ps':List D4} {a' b':NC} (hl:m'.get (na m 1)=some (.loop 0 .none tm ps' a' b')) (hQ:Q .norm ⟨t,.mark (na m 0)::dfs,ctx,hp [(.o (na m 1),.loop 3 .none tm ps' a' b')] 0 m'⟩) (ho:am m' (na m 1)):
 W P S none (.rangeFunc fx ps a b) ⟨t,dfs,ctx,m⟩ Q:=by
 have e1:(m.add (.defd true)).next=na m 1:=by rw[←tH];rfl
 refine W.range hf (uJ m).symm e1 ?_ hc hl ?_
 ·rw[←tH m (.defd true),DV]
 ·rw[←bX ho,aa] at hQ
  rw[aa];exact hQ
end
end Nm
namespace Nm
open Go Go.RowKit
variable {args:List NV} {C:List (List NV)}
section
variable (P:Program) (S:Nat->List NV->Option NV) (r:Option D4)
def KI (c:NC) (Q:Out->Dyn->Prop) (d:Dyn):Prop:=wp P S r c d Q
def Ho (dst:Option D4) (t:Tm) (dfs:List Dfr) (ctx:Option NV) (m:NH) (x:NR) (l:List NOper) (K:Dyn->Prop):Prop:=wN P S dst t dfs ctx m x fun d=>wO P S l d K
def Ja (dst:Option D4) (t:Tm) (dfs:List Dfr) (ctx:Option NV) (l:List NOper) (K:Dyn->Prop) (v:NV) (m:NH):Prop:=wO P S l ⟨aO dst v t,dfs,ctx,m⟩ K
def gA (dst:Option D4) (op:NOp) (l:List NOper) (K:Dyn->Prop) (d:Dyn):Prop:=Ho P S dst d.t d.dfs d.ctx d.h (ag op d.t d.h) l K
def gB (dst:Option D4) (l:List NOper) (K:Dyn->Prop) (d:Dyn):Prop:=wO P S l ⟨aO dst aT d.t,d.dfs,d.ctx,d.h⟩ K
def dA (dst:Option D4) (op:NOp) (pre idx:Nat) (l:List NOper) (hs:List (Nat×NH)) (rs:List (Nat×(NH->NR)×NV)) (K:Dyn->Prop) (d:Dyn):Prop:=wX (ay op) (ag op d.t d.h) P S (ag op d.t) dst pre idx l hs rs d K
def dB (dst:Option D4) (l:List NOper) (hs:List (Nat×NH)) (rs:List (Nat×(NH->NR)×NV)) (K:Dyn->Prop) (d:Dyn):Prop:=wD P S l hs rs ⟨aO dst aT d.t,d.dfs,d.ctx,d.h⟩ K
def TV (pre idx:Nat) (m:NH) (l:List NOper) (hs:List (Nat×NH)) (rs:List (Nat×(NH->NR)×NV)) (K:Dyn->Prop) (d:Dyn):Prop:=stays pre d.h rs=true/\wD P S l ((idx,m)::hs) rs d K
def Oz (dst:Option D4) (t:Tm) (dfs:List Dfr) (ctx:Option NV) (K:Dyn->Prop) (v:NV) (m:NH):Prop:=K ⟨aO dst v t,dfs,ctx,m⟩
end
section
variable {P:Program} {S:Nat->List NV->Option NV} {r:Option D4} {dst:Option D4} {op:NOp} {pre idx:Nat} {l:List NOper} {hs:List (Nat×NH)} {rs:List (Nat×(NH->NR)×NV)}
 {L:List (D4×NV)} {t:Tm} {dfs:List Dfr} {ctx:Option NV} {m m':NH} {v:NV} {k g:D4} {d:Dyn} {Q:Out->Dyn->Prop} {K:Dyn->Prop} {b:Bool}
theorem UV {x y:NC}:wp P S r (.seq x y) d Q=wp P S r x d (dC (KI P S r y Q) Q):=_root_.id rfl
theorem Tw {c:NC}:KI P S r c Q d=wp P S r c d Q:=_root_.id rfl
theorem Sb {g:NOpd} {x y:NC}:wp P S r (.cond g x y) ⟨ah L t,dfs,ctx,m⟩ Q=wC (ρ (ah L t) g) (KI P S r x Q) (KI P S r y Q) ⟨ah L t,dfs,ctx,m⟩:=_root_.id rfl
theorem RW:wO P S (⟨dst,op,none,pre,idx⟩::l) ⟨ah L t,dfs,ctx,m⟩ K=Ho P S dst (ah L t) dfs ctx m (ag op (ah L t) m) l K:=_root_.id rfl
theorem UH:Ho P S (some k) (ah L t) dfs ctx m (.val v) l K=wO P S l ⟨ah ((k,v)::L) t,dfs,ctx,m⟩ K:=_root_.id rfl
theorem SW:Ho P S (some k) (ah L t) dfs ctx m (.mem v m') l K=wO P S l ⟨ah ((k,v)::L) t,dfs,ctx,m'⟩ K:=_root_.id rfl
theorem P5:Ho P S none (ah L t) dfs ctx m (.mem v m') l K=wO P S l ⟨ah L t,dfs,ctx,m'⟩ K:=_root_.id rfl
theorem Qp {f:Nat}:Ho P S dst t dfs ctx m (.call f args) l K=WF P S f args m (Ja P S dst t dfs ctx l K):=_root_.id rfl
theorem TQ {q:D4}:Ho P S dst t dfs ctx m (.yld q args) l K=WY P S q args m (Ja P S dst t dfs ctx l K):=_root_.id rfl
theorem K8:Ja P S (some k) (ah L t) dfs ctx l K v m=wO P S l ⟨ah ((k,v)::L) t,dfs,ctx,m⟩ K:=_root_.id rfl
theorem Md:wO P S (⟨dst,op,some (g,b),pre,idx⟩::l) ⟨ah L t,dfs,ctx,m⟩ K=wG (fH g L (NT.get g t)) b (gA P S dst op l K) (gB P S dst l K) ⟨ah L t,dfs,ctx,m⟩:=NB
theorem VM:gA P S dst op l K ⟨ah L t,dfs,ctx,m⟩=Ho P S dst (ah L t) dfs ctx m (ag op (ah L t) m) l K:=_root_.id rfl
theorem VE:gB P S (some k) l K ⟨ah L t,dfs,ctx,m⟩=wO P S l ⟨ah ((k,aT)::L) t,dfs,ctx,m⟩ K:=_root_.id rfl
theorem JY:wD P S (⟨dst,op,some (g,b),pre,idx⟩::l) hs rs ⟨ah L t,dfs,ctx,m⟩ K=wG (fH g L (NT.get g t)) b (dA P S dst op pre idx l hs rs K) (dB P S dst l hs rs K) ⟨ah L t,dfs,ctx,m⟩:=J5
theorem VX:dA P S dst op pre idx l hs rs K ⟨ah L t,dfs,ctx,m⟩=wX (ay op) (ag op (ah L t) m) P S (ag op (ah L t)) dst pre idx l hs rs ⟨ah L t,dfs,ctx,m⟩ K:=_root_.id rfl
theorem WC:dB P S (some k) l hs rs K ⟨ah L t,dfs,ctx,m⟩=wD P S l hs rs ⟨ah ((k,aT)::L) t,dfs,ctx,m⟩ K:=_root_.id rfl
def S6 (P:Program) (S:Nat->List NV->Option NV) (dst:Option D4) (t:Tm) (dfs:List Dfr) (ctx:Option NV) (m:NH) (x:NR) (K:Dyn->Prop):Prop:=wN P S dst t dfs ctx m x K
section
variable {f:NH->NR}
theorem PO {x:NR}:wX .eff x P S f dst pre idx l hs rs ⟨t,dfs,ctx,m⟩ K=(ahead pre hs=true/\S6 P S dst t dfs ctx m x (TV P S pre idx m l hs rs K)):=_root_.id rfl
end
theorem Il:S6 P S (some k) (ah L t) dfs ctx m (.mem v m') K=K ⟨ah ((k,v)::L) t,dfs,ctx,m'⟩:=_root_.id rfl
theorem MT:S6 P S none (ah L t) dfs ctx m (.mem v m') K=K ⟨ah L t,dfs,ctx,m'⟩:=_root_.id rfl
theorem NL {f:Nat}:S6 P S dst t dfs ctx m (.call f args) K=WF P S f args m (Oz dst t dfs ctx K):=_root_.id rfl
theorem Lj:Oz (some k) (ah L t) dfs ctx K v m=K ⟨ah ((k,v)::L) t,dfs,ctx,m⟩:=_root_.id rfl
theorem ON {m0:NH}:TV P S pre idx m0 l hs rs K ⟨t,dfs,ctx,m⟩=(stays pre m rs=true/\wD P S l ((idx,m0)::hs) rs ⟨t,dfs,ctx,m⟩ K):=_root_.id rfl
theorem xh {B:NH} {e:Nat} {x:D4} {w:Bool} {cs:List NV} {kc bytes:Nat} (hv:aY B m v e C) (hx:m.get x=some (.cells w cs)) (hox:am m x) (hl:cs.length=e) (hB:∀id,am B id->am m id)
 (hr:(C.length+1)*bytes<=1099511627776) (hr':C.length+1<=1099511627776) (h:∀v' m',aY B m' v' e (C++ [cs])->Chg (ids v) m m'->wO P S l ⟨ah ((k,v')::L) t,dfs,ctx,hp [] 0 m'⟩ K):
 Ho P S (some k) (ah L t) dfs ctx m (AJ e bytes m v (.slc x 0 1 e kc)) l K:=Lq hv hx hox hl hB hr hr' h
theorem EW {e a b:Nat} {lo hi:Option NOpd} (h:Sl m v e C) (hab:a<=b) (hb:b<=C.length) (hlo:∀K:Nat->NR,ji (ah L t) lo 0 K=K a) (hhi:∀(d:Nat) (K:Nat->NR),d=C.length->ji (ah L t) hi d K=K b)
 (hK:∀v',Sl m v' e ((C.drop a).take (b - a))->(∀i∈ids v',i∈ids v)->wO P S l ⟨ah ((k,v')::L) t,dfs,ctx,m⟩ K):Ho P S (some k) (ah L t) dfs ctx m (AA e (ah L t) lo hi v) l K:=by
 obtain ⟨v',h1,h2,h3⟩:=h.ssl hab hb hlo hhi
 rw[h1];exact hK v' h2 h3
end
end Nm
namespace Nm
open Go Go.RowKit
variable {x:NOpd} {s:List Nat} {k:IntKind} {b:Nat} {n a:Int} {K:NV->NH->Prop} {rs l:List NRes} {lo hi:Option NOpd} {ctx:Option NV}
section
variable {t:Tm} {m:NH}
def Og (v:NV):NR:=match v with| .str s=> .val (.int .i64 (.lit (s.length:Int)))|_=> .fail
theorem P4 :ag (.lenStr x) t m=oN (ρ t x) Og:=by
 show wV t x (fun v=>match v with| .str s=>eN s fun n=> .val (.int .i64 (.lit (.ofNat n)))|_=> .fail)=_
 rw[cC]
 congr 1
 funext v
 cases v with
 |str s=>exact du s (fun n=>NR.val (.int .i64 (.lit (.ofNat n))))
 |_=>rfl
theorem L9 :Og (.str s)= .val (.int .i64 (.lit (s.length:Int))):=_root_.id rfl
noncomputable def Qa (v i:NV):NR:=aV (kV i) fun i=>match v with| .str s=>aV s[i]? fun b=> .val (.int .u8 (.lit (.ofNat b)))|_=> .fail
theorem ST  {i:NOpd}:ag (.indexStr x i) t m=oN (ρ t x) fun v=>oN (ρ t i) fun i=>Qa v i:=by
 show wV t x (fun v=>gR t i fun i=>match v with
  | .str s=>aV (bw s i) fun b=> .val (.int .u8 (.lit (.ofNat b)))
  |_=> .fail)=_
 rw[cC]
 congr 1
 funext v
 unfold gR
 rw[cC]
 congr 1
 funext i
 unfold Qa
 congr 1
 funext i
 cases v with
 |str s=>dsimp only;rw[fQ]
 |_=>rfl
def PM (o:Option Nat):NR:=match o with|some b=> .val (.int .u8 (.lit (b:Int)))|none=> .fail
theorem SU  {z:Int} (h0:0<=z):Qa (.str s) (.int k (.lit z))=PM s[z.toNat]? :=by
 obtain ⟨i,rfl⟩:=Xh h0
 show aV s[i]? (fun b=> .val (.int .u8 (.lit (.ofNat b))))=PM s[i]?
 cases s[i]? <;>rfl
theorem PL :PM (some b)= .val (.int .u8 (.lit (b:Int))):=_root_.id rfl
noncomputable def MB (s:List Nat) (a b:Nat):NR:=cond (Nat.ble a b) (aV (jw b s) fun s=>aV (d8 a s) fun s=> .val (.str s)) .fail
noncomputable def Pi (t:Tm) (lo hi:Option NOpd) (v:NV):NR:=match v with
 | .str s=>ji t hi s.length fun b=>ji t lo 0 fun a=>MB s a b
 |_=> .fail
theorem Uw :ag (.sliceStr x lo hi) t m=oN (ρ t x) (Pi t lo hi):=by
 show wV t x (fun v=>match v with
  | .str s=>eN s fun n=>dU t hi n fun b=>dU t lo 0 fun a=>cond (Nat.ble a b) (aV (jw b s) fun s=>aV (d8 a s) fun s=> .val (.str s)) .fail
  |_=> .fail)=_
 rw[cC]
 congr 1
 funext v
 cases v with
 |str s=>
  dsimp only[Pi]
  rw[du,ga]
  congr 1
  funext b
  rw[ga]
  rfl
 |_=>rfl
theorem Qw :Pi t lo hi (.str s)=ji t hi s.length fun b=>ji t lo 0 fun a=>MB s a b:=_root_.id rfl
theorem SY  {a:Nat} (h:a<=b) (h':b<=s.length):MB s a b= .val (.str ((s.take b).drop a)):=by
 unfold MB
 rw[Nat.ble_eq_true_of_le h,jP,Xb h']
 show aV (d8 a (s.take b)) _=_
 rw[gD,Xb (by rw[List.length_take];omega)];rfl
abbrev qF (s:List Nat):List (List NV):=s.map fun (b:Nat)=> [NV.int .u8 (.lit (b:Int))]
noncomputable def LV (m:NH) (v:NV):NR:=ip 1 m v fun _ l=>aV (ff l) fun s=> .val (.str s)
theorem TW :ag (.bytesToStr x) t m=oN (ρ t x) (LV m):=by
 show wV t x (fun v=>ip 1 m v fun _ l=>aV (ff l) fun s=> .val (.str s))=_
 rw[cC];rfl
theorem Mx  (h:∀b∈s,b<256):ff (qF s).flatten=some s:=by
 induction s with
 |nil=>rfl
 |cons b s ih=>
  show Od (.int .u8 (.lit (.ofNat b))) (ff (qF s).flatten)=_
  rw[ih fun x hx=>h x (List.mem_cons_of_mem _ hx)]
  show cond (Nat.ble b 255) (some (b::s)) none=_
  rw[Nat.ble_eq_true_of_le (by have:=h b (List.mem_cons_self ..);omega)];rfl
theorem Sl.bts {v:NV} (h:Sl m v 1 (qF s)) (hb:∀b∈s,b<256):LV m v= .val (.str s):=by
 unfold LV
 rw[nV h,Mx hb];rfl
theorem TU {a b:List Nat}:dN .num .eql (.str a) (.str b)=some (.bool (decide (a=b))):=by
 show cq (Fm a b)=_
 rw[bA]
 congr 2
 rw[Bool.eq_iff_iff,decide_eq_true_eq]
 constructor
 ·intro h
  induction a generalizing b with
  |nil=>cases b with
   |nil=>rfl
   |cons=>cases h
  |cons x a ih=>cases b with
   |nil=>cases h
   |cons y b=>
    change cond (Nat.beq x y) (Fm a b) false=true at h
    cases hxy:Nat.beq x y with
    |false=>rw[hxy] at h;cases h
    |true=>rw[hxy] at h;rw[Xg hxy,ih h]
 ·rintro rfl;exact yF a
theorem wrap_u64 :bF .u64 n=n % 18446744073709551616:=by rw[cJ];rfl
theorem wrap_u8 :bF .u8 n=n % 256:=by rw[cJ];rfl
theorem Q9  {b:Int}:dN .num .add (.int .u64 (.lit a)) (.int .u64 (.lit b))=some (.int .u64 (.lit ((a+b) % 18446744073709551616))):=by
 refine (iU rfl).trans ?_
 show cD .u64 (bF .u64 (AD a b))=_
 rw[uS,wrap_u64,aS]
theorem Sr  {b:Int}:dN .num .sub (.int .u64 (.lit a)) (.int .u64 (.lit b))=some (.int .u64 (.lit ((a - b) % 18446744073709551616))):=by
 refine (iU rfl).trans ?_
 show cD .u64 (bF .u64 (wz a b))=_
 rw[kI,wrap_u64,aS]
theorem PU  {b:Int}:dN .num .mul (.int .u64 (.lit a)) (.int .u64 (.lit b))=some (.int .u64 (.lit ((a*b) % 18446744073709551616))):=by
 refine (iU rfl).trans ?_
 show cD .u64 (bF .u64 (wP a b))=_
 rw[kP,wrap_u64,aS]
theorem QV  {b:Int}:dN .num .sub (.int .u8 (.lit a)) (.int .u8 (.lit b))=some (.int .u8 (.lit ((a - b) % 256))):=by
 refine (iU rfl).trans ?_
 show cD .u8 (bF .u8 (wz a b))=_
 rw[kI,wrap_u8,aS]
theorem Ik  {a:Nat} (hb:0<b):dN .num .quo (.int .u64 (.lit (a:Int))) (.int .u64 (.lit (b:Int)))=some (.int .u64 (.lit (((a / b % 18446744073709551616:Nat)):Int))):=by
 refine (iU rfl).trans ?_
 show cond (QP (Int.ofNat b)) none (cD .u64 (bF .u64 (.ofNat (Nat.div a b))))=_
 rw[show QP (Int.ofNat b)=false from by show Nat.beq b 0=false;cases hz:Nat.beq b 0 with|false=>rfl|true=>have:=Xg hz;omega]
 show cD .u64 (bF .u64 (Int.ofNat (a / b)))=_
 rw[wrap_u64,aS]
 rfl
theorem Kc  {a:Nat} (ha:a<18446744073709551616) (hb:b<18446744073709551616):dN .num .and (.int .u64 (.lit (a:Int))) (.int .u64 (.lit (b:Int)))=some (.int .u64 (.lit ((a&&& b:Nat):Int))):=by
 refine (iU rfl).trans ?_
 show gK .and .u64 (Int.ofNat a) (Int.ofNat b)=_
 unfold gK
 dsimp only
 rw[show Nat.ble (Nat.succ a) (bB .u64)=true from Nat.ble_eq_true_of_le ha,show Nat.ble (Nat.succ b) (bB .u64)=true from Nat.ble_eq_true_of_le hb]
 show cD .u64 (.ofNat (Nat.land a b))=_
 rw[aS];rfl
noncomputable def IH (k:IntKind) (v:NV):NR:=match v with| .int _ (.lit n)=> .val (.int k (.lit (bF k n)))|_=> .fail
theorem T8 :ag (.toInt k x) t m=oN (ρ t x) (IH k):=by
 show wV t x (fun v=>match v with| .int _ (.lit n)=>vr (cD k (bF k n))|_=> .fail)=_
 rw[cC]
 congr 1
 funext v
 cases v with
 |int k' x=>cases x with
  |lit n=>show vr (cD k (bF k n))=_;rw[aS];rfl
 |_=>rfl
theorem Jf :IH .u64 (.int k (.lit n))= .val (.int .u64 (.lit (n % 18446744073709551616))):=by show NR.val (.int .u64 (.lit (bF .u64 n)))=_;rw[wrap_u64]
theorem OY  (h:-9223372036854775808<=n) (h':n<9223372036854775808):IH .i64 (.int k (.lit n))= .val (.int .i64 (.lit n)):=by show NR.val (.int .i64 (.lit (bF .i64 n)))=_;rw[wrap_small h h']
noncomputable def Oi (v:NV):NR:=match v with| .ptr i o=> .val (.ptr i o)| .fn f c=> .val (.fn f c)| .yld l=> .val (.yld l)|_=> .fail
theorem Ri :ag (.nilCheck x) t m=oN (ρ t x) Oi:=by
 show wV t x _=_
 rw[cC]
 cases ρ t x with
 |none=>rfl
 |some v=>cases v<;>rfl
theorem LP {i:D4} {o:Nat}:Oi (.ptr i o)= .val (.ptr i o):=_root_.id rfl
noncomputable def rR (x:NR) (K:NV->Prop):Prop:=match x with| .val v=>K v|_=>False
noncomputable def sT (t:Tm) (m:NH):List NRes->(List NV->Prop)->Prop
 | [],K=>K []
 | .tmp k::l,K=>rK (NT.get k t) fun v=>sT t m l fun vs=>K (v::vs)
 | .cell1 k::l,K=>rR (ag (.load1 (.tmp k)) t m) fun v=>sT t m l fun vs=>K (v::vs)
 | .cellN k n::l,K=>rR (ag (.loadN n (.tmp k)) t m) fun v=>sT t m l fun vs=>K (v::vs)
theorem JS:∀(rs:List NRes) (K:List NV->Prop) (G:List NV->CR),sT t m rs K->∃l,cY m t rs .fail G=G l/\K l:=by
 intro rs
 induction rs with
 |nil=>intro K G h;exact ⟨[],rfl,h⟩
 |cons r rs ih=>
  intro K G h
  cases r with
  |tmp k=>
   cases hv:NT.get k t with
   |none=>unfold sT at h;rw[hv] at h;exact h.elim
   |some v=>
    unfold sT at h;rw[hv] at h
    obtain ⟨l,h1,h2⟩:=ih (fun vs=>K (v::vs)) (fun l=>G (v::l)) h
    refine ⟨v::l, ?_,h2⟩
    show (match (match NT.get k t with|some v=>NR.val v|none=> .fail) with| .val v=>cY m t rs .fail (fun l=>G (v::l))|_=> .fail)=_
    rw[hv];exact h1
  |cell1 k=>
   cases hv:ag (.load1 (.tmp k)) t m with
   |val v=>
    unfold sT at h;rw[hv] at h
    obtain ⟨l,h1,h2⟩:=ih (fun vs=>K (v::vs)) (fun l=>G (v::l)) h
    refine ⟨v::l, ?_,h2⟩
    change gW (.tmp k) t m= .val v at hv
    show (match gW (.tmp k) t m with| .val v=>cY m t rs .fail (fun l=>G (v::l))|_=> .fail)=_
    rw[hv];exact h1
   |_=>unfold sT at h;rw[hv] at h;exact h.elim
  |cellN k n=>
   cases hv:ag (.loadN n (.tmp k)) t m with
   |val v=>
    unfold sT at h;rw[hv] at h
    obtain ⟨l,h1,h2⟩:=ih (fun vs=>K (v::vs)) (fun l=>G (v::l)) h
    refine ⟨v::l, ?_,h2⟩
    change ie n (.tmp k) t m= .val v at hv
    show (match ie n (.tmp k) t m with| .val v=>cY m t rs .fail (fun l=>G (v::l))|_=> .fail)=_
    rw[hv];exact h1
   |_=>unfold sT at h;rw[hv] at h;exact h.elim
def zT (rs:List NRes) (K:NV->NH->Prop) (o:Out) (d:Dyn):Prop:=(o= .norm∨o= .ret)/\d.dfs= []/\sT d.t d.h rs fun l=>K (jF l) d.h
theorem zP  {o:Out} {d:Dyn} (h:zT rs K o d):Fz rs K o d:=by
 obtain ⟨h1,h2,h3⟩:=h
 obtain ⟨l,h4,h5⟩:=JS rs _ (fun l=> .val (jF l) d.ctx d.h) h3
 exact ⟨h1,h2,jF l,h4,h5⟩
theorem yW :zT rs K .ret ⟨t, [],ctx,m⟩=sT t m rs (fun l=>K (jF l) m):=propext ⟨fun h=>h.2.2,fun h=>⟨.inr rfl,rfl,h⟩⟩
theorem MQ :zT rs K .norm ⟨t, [],ctx,m⟩=sT t m rs (fun l=>K (jF l) m):=propext ⟨fun h=>h.2.2,fun h=>⟨.inl rfl,rfl,h⟩⟩
theorem Th {K:List NV->Prop}:sT t m [] K=K []:=_root_.id rfl
theorem UM {K:List NV->Prop} {k:D4}:sT t m (.tmp k::l) K=rK (NT.get k t) fun v=>sT t m l fun vs=>K (v::vs):=_root_.id rfl
theorem T4 {K:List NV->Prop} {k:D4}:sT t m (.cell1 k::l) K=rR (ag (.load1 (.tmp k)) t m) fun v=>sT t m l fun vs=>K (v::vs):=_root_.id rfl
theorem UA {K:List NV->Prop} {k:D4} {n:Nat}:sT t m (.cellN k n::l) K=rR (ag (.loadN n (.tmp k)) t m) fun v=>sT t m l fun vs=>K (v::vs):=_root_.id rfl
theorem V3 {v:NV} {K:NV->Prop}:rR (.val v) K=K v:=_root_.id rfl
theorem NA {v:NV}:jF [v]=v:=_root_.id rfl
theorem L5 {a b:NV} {l:List NV}:jF (a::b::l)= .tup (a::b::l):=_root_.id rfl
theorem WF.of_wpG {P:Program} {S:Nat->List NV->Option NV} {f:Nat} {args:List NV} {nf:NFun} (hs:∀l,S f l=none) (hf:an P f=some (.code nf)) {L:List (D4×NV)} (hL:ew args 0 .leaf=ah L .leaf)
 (h:wp P S none nf.body ⟨ah L .leaf, [],none,hp [] 0 m⟩ (zT nf.results K)):WF P S f args m K:=by
 rw[aa] at h
 obtain ⟨o,d,h1,h2⟩:=ax _ _ _ h
 obtain ⟨ho,hd,v,hv,hK⟩:=zP h2
 rw[←hL] at h1
 exact ⟨v,d.ctx,d.h,Call.of_run hs hf ho h1 hd hv (by simp),hK⟩
end
end Nm
namespace Nm
open Go Go.RowKit
variable {s ok:Bool} {L:List (List Nat)}
section
variable {t:Tm} {m:NH}
noncomputable def Tc (s:Bool) (z:NV) (ok:Bool) (k:NV) (l:List (NV×NV)):NR:=aV (kZ s k l) fun r=>Option.rec (Bool.rec (.val z) (.val (.tup [z,.bool false])) ok) (fun v=>Bool.rec (.val v) (.val (.tup [v,.bool true])) ok) r
noncomputable def VO (s:Bool) (z:NV) (ok:Bool) (k:NV) (o:Option NO):NR:=match o with|some (.map l)=>Tc s z ok k l|_=> .fail
noncomputable def WO (s:Bool) (z:NV) (ok:Bool) (m:NH) (x k:NV):NR:=match x with| .nilm=>Tc s z ok k []| .map id=>VO s z ok k (m.get id)|_=> .fail
theorem I5  {z:NV} {x i:NOpd}:ag (.lookup s z ok x i) t m=oN (ρ t x) fun x=>oN (ρ t i) fun k=>WO s z ok m x k:=by
 show wV t x (fun x=>wV t i fun k=>qZ m x fun l=>aV (kZ s k l) fun r=>Option.rec (Bool.rec (.val z) (.val (.tup [z,.bool false])) ok) (fun v=>Bool.rec (.val v) (.val (.tup [v,.bool true])) ok) r)=_
 simp only[cC]
 cases ρ t x with
 |none=>rfl
 |some a=>
  cases ρ t i with
  |none=>rfl
  |some k=>
   cases a<;>try rfl
theorem V4  {z k:NV} {id:D4}:WO s z ok m (.map id) k=VO s z ok k (m.get id):=_root_.id rfl
theorem T7  {z k:NV} {l:List (NV×NV)}:VO s z ok k (some (.map l))=Tc s z ok k l:=_root_.id rfl
theorem LM:ag .mkMap t m= .mem (.map m.next) (m.add (.map [])):=NH.new_eq m (.map []) (fun id h=>NR.mem (.map id) h)
noncomputable def Uq (s:Bool) (id:D4) (k v:NV) (m:NH) (o:Option NO):NR:=match o with|some (.map l)=>aV (qa s k v l) fun l=> .mem aT (m.put id (.map l))|_=> .fail
noncomputable def WL (s:Bool) (m:NH) (x k v:NV):NR:=match x with| .map id=>Uq s id k v m (m.get id)|_=> .fail
theorem Ni  {x i v:NOpd}:ag (.mapUpdate s x i v) t m=oN (ρ t x) fun x=>oN (ρ t i) fun k=>oN (ρ t v) fun v=>WL s m x k v:=by
 show wV t x (fun m'=>wV t i fun k=>wV t v fun v=>match m' with
  | .map id=>qZ m (.map id) fun l=>aV (qa s k v l) fun l=>m.set id (.map l) fun h=> .mem aT h
  |_=> .fail)=_
 simp only[cC]
 cases ρ t x with
 |none=>rfl
 |some a=>
  cases ρ t i with
  |none=>rfl
  |some k=>
   cases ρ t v with
   |none=>rfl
   |some v=>
    cases a<;>first|rfl|skip
    rename_i id
    show (match m.get id with|some (.map l)=>aV (qa s k v l) (fun l=>m.set id (.map l) fun h=> .mem aT h)|_=> .fail)=Uq s id k v m (m.get id)
    cases m.get id with
    |none=>rfl
    |some o=>
     cases o<;>first|rfl|skip
     dsimp only[Uq]
     congr 1;funext l;rw[NH.set_eq]
theorem VY  {k v:NV} {id:D4}:WL s m (.map id) k v=Uq s id k v m (m.get id):=_root_.id rfl
abbrev ir (L:List (List Nat)):List (NV×NV):=L.map fun s=>(.str s,.bool true)
theorem sJ {a b:List Nat}:gY true (.str a) (.str b)=some (decide (a=b)):=by
 show some (Fm a b)=_
 rw[nW];by_cases h:a=b<;>simp[h]
theorem GU {s:List Nat}:∀L:List (List Nat),kZ true (.str s) (ir L)=some (if s∈L then some (.bool true) else none):=by
 intro L
 induction L with
 |nil=>rfl
 |cons a L ih=>
  show Option.rec (motive:=fun _=>Option (Option NV)) none (fun b=>cond b (some (some (.bool true))) (kZ true (.str s) (ir L))) (gY true (.str s) (.str a))=_
  rw[sJ,ih]
  show cond (decide (s=a)) _ _=_
  by_cases h:s=a
  ·subst h;simp
  ·simp[h]
theorem TD {s:List Nat}:Tc true (.bool false) false (.str s) (ir L)= .val (.bool (decide (s∈L))):=by
 unfold Tc
 rw[GU]
 by_cases h:s∈L
 ·rw[Xb h];simp only[h,decide_true];rfl
 ·rw[Xa h];simp only[h,decide_false];rfl
def aJ (l:List (List Nat)) (s:List Nat):List (List Nat):=if s∈l then l else l++ [s]
theorem Jm {s:List Nat}:∀L:List (List Nat),qa true (.str s) (.bool true) (ir L)=some (ir (aJ L s)):=by
 intro L
 induction L with
 |nil=>rfl
 |cons a L ih=>
  show Option.rec (motive:=fun _=>Option (List (NV×NV))) none (fun b=>cond b (some ((.str s,.bool true)::ir L)) (Option.rec none (fun t=>some ((.str a,.bool true)::t)) (qa true (.str s) (.bool true) (ir L)))) (gY true (.str s) (.str a))=_
  rw[sJ,ih]
  show cond (decide (s=a)) _ _=_
  by_cases h:s=a
  ·subst h;simp[aJ]
  ·simp only[h,decide_false,aJ,Xf,false_or]
   by_cases h2:s∈L<;>simp[h2]
theorem S5 {id:D4} {s:List Nat}:Uq true id (.str s) (.bool true) m (some (.map (ir L)))= .mem aT (m.put id (.map (ir (aJ L s)))):=by
 show aV (qa true (.str s) (.bool true) (ir L)) _=_
 rw[Jm];rfl
end
end Nm
namespace Nm
open Go Go.RowKit
variable {v:NV} {Φ:NH->Prop} {m:NH} {L:List (D4×NV)}
theorem yj {k:D4} {t:Tm}:NT.put k v (ah L t)=ah ((k,v)::L) t:=_root_.id rfl
theorem Sg {k:D4} {t:Tm}:NT.put k v (ah L t)=ah ((k,v)::L) t:=_root_.id rfl
theorem P0  {id:D4}:(hp [] 0 m).get id=m.get id:=by rw[aa]
def IL:Jump->Out
 | .none=> .norm
 | .ret=> .ret
 | .exit i=> .exit i
section
variable {P:Program} {S:Nat->List NV->Option NV}
theorem W.rangeJ {cap:List NV} {fx:NOpd} {ps:List D4} {a b:NC} {t:Tm} {dfs:List Dfr} {ctx:Option NV} {Q:Out->Dyn->Prop} {m':NH} {f:Nat}
 (hf:ρ t fx=some (.fn f cap)) (hc:tF P S f (.yld (na m 1)::cap) (hp [(.n 1,.loop 0 .none t ps a b),(.n 0,.defd true)] 2 m) v m')
 {st:Nat} {p:Jump} {tm:NT NV} {ps':List D4} {a' b':NC} (hl:m'.get (na m 1)=some (.loop st p tm ps' a' b')) (hst:st≠1) (hQ:Q (IL p) ⟨t,.mark (na m 0)::dfs,ctx,hp [(.o (na m 1),.loop 3 p tm ps' a' b')] 0 m'⟩) (ho:am m' (na m 1)):
 W P S none (.rangeFunc fx ps a b) ⟨t,dfs,ctx,m⟩ Q:=by
 have e1:(m.add (.defd true)).next=na m 1:=by rw[←tH];rfl
 have e0:m.next=na m 0:=(uJ m).symm
 have e2:(m.add (.defd true)).add (.loop 0 .none t ps a b)=hp [(.n 1,.loop 0 .none t ps a b),(.n 0,.defd true)] 2 m:=by rw[←tH m (.defd true),DV]
 rw[←bX ho,aa] at hQ
 rw[←e1] at hQ hl hc
 rw[←e2] at hc
 rw[←e0] at hQ
 obtain ⟨c,hc⟩:=hc
 refine ⟨_,_,fJ.range hf hc ?_,hQ⟩
 unfold fu
 rw[hl]
 dsimp only
 rw[show Nat.beq st 1=false from by cases h:Nat.beq st 1 with|false=>rfl|true=>exact W9 (Xg h) hst,cond_false,NH.set_eq]
 cases p<;>rfl
end
theorem QF {e bytes:Nat} {m':NH} {x v':NV} (h:AJ e bytes m v x= .mem v' m'):∀i∈ids v',i∈ids v∨¬am m i:=by
 have hn:¬am m m.next:=fun q=>Nat.lt_irrefl _ q
 have new:∀{a b c d:Nat},∀i∈ids (.slc m.next a b c d),i∈ids v∨¬am m i:=by
  intro a b c d i hi
  rcases List.mem_cons.mp hi with rfl|hi
  ·exact Or.inr hn
  ·exact W9 hi (by simp)
 have key:∀(k:Nat) (nw:List NV),g9 e bytes m v k nw= .mem v' m'->∀i∈ids v',i∈ids v∨¬am m i:=by
  intro k nw h
  cases v with
  |nils=>
   cases k with
   |zero=>cases h
   |succ k=>
    obtain ⟨-,h⟩:=bf (show cond (room (k+1) bytes) (m.new (.cells true nw) fun id h=>NR.mem (.slc id 0 (k+1) e (k+1)) h) .fail=_ from h) (by simp)
    rw[NH.new_eq] at h;cases h;exact new
  |slc id off len e' kc=>
   cases k with
   |zero=>
    obtain ⟨-,h⟩:=bf (show cond (Nat.beq e' e) (NR.val (.slc id off len e' kc)) .fail=_ from h) (by simp)
    cases h
   |succ k=>
    obtain ⟨-,h⟩:=bf (show cond (Nat.beq e' e) (fg m id fun c=>aD (Nat.add len (k+1)) fun n=>cond (Nat.ble n kc)
     (aV (dX nw (Nat.add off (Nat.mul len e)) c) fun c=>m.set id (.cells true c) fun h=>NR.mem (.slc id off n e kc) h)
     (aV (d8 off c) fun c=>aV (jw (Nat.mul len e) c) fun old=>cond (room n bytes)
      (jH old nw fun l=>m.set id .dead fun h=>h.new (.cells true l) fun id h=>NR.mem (.slc id 0 n e n) h) .fail)) .fail=_ from h) (by simp)
    obtain ⟨c,-,h⟩:=ft h (by simp)
    rw[ai] at h
    cases hb:Nat.ble (Nat.add len (k+1)) kc with
    |true=>
     rw[hb] at h
     obtain ⟨c',-,h⟩:=aP h (by simp)
     rw[NH.set_eq] at h
     cases h
     exact fun i hi=>Or.inl hi
    |false=>
     rw[hb] at h
     obtain ⟨c',-,h⟩:=aP h (by simp)
     obtain ⟨c'',-,h⟩:=aP h (by simp)
     obtain ⟨-,h⟩:=bf h (by simp)
     rw[fX,NH.set_eq,NH.new_eq] at h
     cases h
     exact new
  |_=>cases h
 unfold AJ at h
 cases x with
 |nils=>exact key 0 [] h
 |slc id off len esz kc=>
  obtain ⟨-,h⟩:=bf (show cond (Nat.beq esz e) (cA m id (fun c=>aV (iD c off (Nat.mul len e)) fun l=>g9 e bytes m v len l)) .fail=_ from h) (by simp)
  unfold cA at h
  split at h
  ·obtain ⟨l,-,h⟩:=aP h (by simp)
   exact key _ _ h
  ·cases h
 |_=>cases h
theorem aY.app2  {B:NH} {e:Nat} {C:List (List NV)} {x:D4} {w:Bool} {cs:List NV} {kc bytes:Nat} (hv:aY B m v e C) (hx:m.get x=some (.cells w cs)) (hox:am m x) (hl:cs.length=e) (hB:∀id,am B id->am m id)
 (hr:(C.length+1)*bytes<=1099511627776) (hr':C.length+1<=1099511627776):∃v' m',AJ e bytes m v (.slc x 0 1 e kc)= .mem v' m'/\aY B m' v' e (C++ [cs])/\Chg (ids v) m m'/\∀i∈ids v',i∈ids v∨¬am m i:=by
 obtain ⟨v',m',h1,h2,h3⟩:=hv.app1 (bytes:=bytes) (kc:=kc) hx hox hl hB hr hr'
 exact ⟨v',m',h1,h2,h3,QF h1⟩
section
variable {P:Program} {S:Nat->List NV->Option NV} {dst:D4} {L:List (D4×NV)} {t:Tm} {dfs:List Dfr} {ctx:Option NV} {l:List NOper} {K:Dyn->Prop} {B m:NH} {v:NV} {e:Nat} {C:List (List NV)} {x:D4} {w:Bool} {cs:List NV} {kc bytes:Nat}
theorem fm (hv:aY B m v e C) (hx:m.get x=some (.cells w cs)) (hox:am m x) (hl:cs.length=e) (hB:∀id,am B id->am m id)
 (hr:(C.length+1)*bytes<=1099511627776) (hr':C.length+1<=1099511627776) (h:∀v' m',aY B m' v' e (C++ [cs])->Chg (ids v) m m'->(∀i∈ids v',i∈ids v∨¬am m i)->wO P S l ⟨ah ((dst,v')::L) t,dfs,ctx,m'⟩ K):
 Ho P S (some dst) (ah L t) dfs ctx m (AJ e bytes m v (.slc x 0 1 e kc)) l K:=by
 obtain ⟨v',m',h1,h2,h3,h4⟩:=hv.app2 (bytes:=bytes) (kc:=kc) hx hox hl hB hr hr'
 rw[h1]
 exact h v' m' h2 h3 h4
theorem dp (hv:aY B m v e C) (hx:m.get x=some (.cells w cs)) (hox:am m x) (hl:cs.length=e) (hB:∀id,am B id->am m id)
 (hr:(C.length+1)*bytes<=1099511627776) (hr':C.length+1<=1099511627776) (h:∀v' m',aY B m' v' e (C++ [cs])->Chg (ids v) m m'->(∀i∈ids v',i∈ids v∨¬am m i)->K ⟨ah ((dst,v')::L) t,dfs,ctx,hp [] 0 m'⟩):
 S6 P S (some dst) (ah L t) dfs ctx m (AJ e bytes m v (.slc x 0 1 e kc)) K:=by
 obtain ⟨v',m',h1,h2,h3,h4⟩:=hv.app2 (bytes:=bytes) (kc:=kc) hx hox hl hB hr hr'
 rw[h1,Il]
 have:=h v' m' h2 h3 h4
 rwa [aa] at this
end
section
variable {P:Program} {S:Nat->List NV->Option NV} {f:Nat} {args:List NV} {m:NH} {K:NV->NH->Prop}
theorem WF.use {Φ:NV->NH->Prop} (h:∃v m',tF P S f args m v m'/\Φ v m') (hK:∀v m',Φ v m'->K v m'):WF P S f args m K:=by
 obtain ⟨v,m',h1,h2⟩:=h
 rw[h1.wf'];exact hK v m' h2
theorem WF.useH {Φ:NV->NH->Prop} (h:∃v m',tF P S f args m v m'/\Φ v m') (hK:∀v m',Φ v m'->K v (hp [] 0 m')):WF P S f args m K:=by
 obtain ⟨v,m',h1,h2⟩:=h
 rw[h1.wf];exact hK v m' h2
theorem WF.use1  (h:∃m',tF P S f args m v m'/\Φ m') (hK:∀m',Φ m'->K v m'):WF P S f args m K:=by
 obtain ⟨m',h1,h2⟩:=h
 rw[h1.wf'];exact hK m' h2
theorem WF.use1H  (h:∃m',tF P S f args m v m'/\Φ m') (hK:∀m',Φ m'->K v (hp [] 0 m')):WF P S f args m K:=by
 obtain ⟨m',h1,h2⟩:=h
 rw[h1.wf];exact hK m' h2
end
section
variable {P:Program} {S:Nat->List NV->Option NV} {r:Option D4} {a b:NC} {d:Dyn} {Q:Out->Dyn->Prop}
theorem Wj {c:NC} (Φ:Dyn->Prop) (h1:∀R:Dyn->Prop,(∀d',Φ d'->R d')->wp P S r a d (dC (KI P S r b (dC R Q)) Q)) (h2:∀d',Φ d'->wp P S r c d' Q):wp P S r (.seq a (.seq b c)) d Q:=h1 _ h2
theorem V9 {c e:NC} (Φ:Dyn->Prop) (h1:∀R:Dyn->Prop,(∀d',Φ d'->R d')->wp P S r a d (dC (KI P S r b (dC (KI P S r c (dC R Q)) Q)) Q)) (h2:∀d',Φ d'->wp P S r e d' Q):wp P S r (.seq a (.seq b (.seq c e))) d Q:=h1 _ h2
theorem Vx {c e g:NC} (Φ:Dyn->Prop) (h1:∀R:Dyn->Prop,(∀d',Φ d'->R d')->wp P S r a d (dC (KI P S r b (dC (KI P S r c (dC (KI P S r e (dC R Q)) Q)) Q)) Q)) (h2:∀d',Φ d'->wp P S r g d' Q):wp P S r (.seq a (.seq b (.seq c (.seq e g)))) d Q:=h1 _ h2
theorem iC (Φ:Dyn->Prop) (h1:∀R:Dyn->Prop,(∀d',Φ d'->R d')->wp P S r a d (dC R Q)) (h2:∀d',Φ d'->wp P S r b d' Q):wp P S r (.seq a b) d Q:=h1 _ h2
end
section
variable {P:Program} {S:Nat->List NV->Option NV} {q:D4} {args:List NV} {m:NH} {K:NV->NH->Prop}
theorem WY.use1  (h:∃m',yY P S q args m v m'/\Φ m') (hK:∀m',Φ m'->K v m'):WY P S q args m K:=by
 obtain ⟨m',h1,h2⟩:=h
 rw[h1.wy,aa];exact hK m' h2
end
section
variable {P:Program} {S:Nat->List NV->Option NV} {f:Nat} {q:D4} {args:List NV} {m:NH}
theorem WF.ex1  (h:∀K:NV->NH->Prop,(∀m',Φ m'->K v m')->WF P S f args m K):∃m',tF P S f args m v m'/\Φ m':=by
 obtain ⟨w,m',h1,rfl,h2⟩:=WF.ret (h (fun w m'=>w=v/\Φ m') fun m' h=>⟨rfl,h⟩)
 exact ⟨m',h1,h2⟩
theorem WY.ex1  (h:∀K:NV->NH->Prop,(∀m',Φ m'->K v m')->WY P S q args m K):∃m',yY P S q args m v m'/\Φ m':=by
 obtain ⟨w,m',h1,rfl,h2⟩:=WY.ret (h (fun w m'=>w=v/\Φ m') fun m' h=>⟨rfl,h⟩)
 exact ⟨m',h1,h2⟩
end
end Nm
