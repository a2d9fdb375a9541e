/- A machine that runs the given program with memory and order of evaluation taken apart from the model's, the proof that what it answers is what the model answers, and rules to reason of its runs. Part 3 of 4. -/
import Derived.Below
import Derived.Test.YtbmkdfoffpeabaaGreatPtmB
set_option linter.unusedVariables false
namespace Nm
open Go
section
variable {P:Program} {S:Nat->List NV->Option NV}
theorem tT (hM:P.follows .mixedOrders=true) {n:Nat} (hO:fR P S n) (hC:CallsOK P S (ev P S n)):fR P S (n+1):=by
 intro c nc fn bl la hc hk rnd d o d' hrun st hst B b k ι a cs w hfn hT s hsz
 have self:∀{x:Code} {nx:NC} {bl la:List Nat},bR P x=some nx->CheckCode.code P fn bl la x= .ok ()->∀{d1:Dyn} {o1:Out} {d2:Dyn},ev P S n rnd nx d1= .mk o1 d2->∀{st:Item},wJ st x->
  ∀{k:List Item} {ι:aO} {a:Act} {cs:List Frame} {w:World},TR ι d1.t a.tmps->Sd P ι B rnd d1.dfs d1.ctx d1.h b a.defers cs w->fn.ntmps<=a.tmps.size->
  cB P B rnd b k (lone (b.atR a (st::k)) cs w) ι d1.ctx d1.h a.tmps.size cs w o1 d2:=
  fun hx hkx _ _ _ hr _ hs _ _ _ _ _ hT s hsz=>hO _ _ fn _ _ hx hkx rnd _ _ _ hr _ hs B b _ _ _ _ _ hfn hT s hsz
 have hcode:(∀x,c≠.loop x)->st= .code c:=fun h=>by
  rcases hst with h1|⟨x,h1,_⟩
  ·exact h1
  ·exact I8 h1 (h x)
 cases c with
 |skip=>
  rw[hcode (by simp)]
  cases hc
  have hrun':(Res.mk .norm d)= .mk o d':=hrun
  cases hrun'
  exact ⟨ι,a,cs,w,.one stepR_skip,hT,Mv.refl s,rfl⟩
 |region id ops draw=>
  rw[hcode (by simp)]
  cases draw with
  |false=>
   have hc':(match cK P ops ops.toList 0 [] with|some l=>some (NC.reg l)|none=>none)=some nc:=hc
   split at hc'
   ·rename_i l hl
    cases hc'
    have hrun':cp P S (ev P S n) rnd l d= .mk o d':=hrun
    obtain ⟨t,dfs,ctx,h⟩:=d
    refine cB.of_steps (.one stepR_region) ?_
    have:=ub (k:=k) hC (jD hk) ops.toList 0 l [] (fun j=>by simp) hl t dfs ctx h o d' hrun' ι a cs w hT s hsz
    rw[List.range_eq_range']
    simpa using this
   ·cases hc'
  |true=>
   obtain ⟨l,rfl,hL⟩:=Dg hc
   have hrun':rB P S (ev P S n) l rnd d= .mk o d':=hrun
   have hs':Sd P ι B rnd d.dfs d.ctx d.h b a.defers cs w.drew:=⟨s.df,s.cx,s.rel.drew,s.base,s.rn⟩
   refine cB.undrew (cB.of_steps (.one stepR_region_draw) ?_)
   have hsch:Region.schedule (P.follows .mixedOrders) ops (w.tape w.drawn (.order b.fn id))=Region.linearise .any ops (w.tape w.drawn (.order b.fn id)):=by unfold Region.schedule;rw[hM];rfl
   rw[hsch]
   exact qn hC (jD hk) hL hsz hrun' hs' hT rfl _
 |seq x y=>
  rw[hcode (by simp)]
  have hc':(match bR P x with|some a=>(match bR P y with|some b=>some (NC.seq a b)|none=>none)|none=>none)=some nc:=hc
  split at hc'
  ·rename_i nx hx
   split at hc'
   ·rename_i ny hy
    cases hc'
    obtain ⟨k1,k2⟩:=wn hk
    have hrun':(match ev P S n rnd nx d with
     | .mk o d=>(match o with
      | .norm=>ev P S n rnd ny d
      |o=> .mk o d)
     | .fail=> .fail)=Res.mk o d':=qK.symm.trans hrun
    refine cB.of_steps (.one stepR_seq) ?_
    cases he:ev P S n rnd nx d with
    |fail=>rw[he] at hrun';cases hrun'
    |mk o1 d1=>
     rw[he] at hrun'
     have g1:=self hx k1 he (.inl rfl) (k:= .code y::k) hT s hsz
     cases o1 with
     |norm=>
      exact g1.then fun ι' a' cs' w' hT' s' hz=>by
       have:=self hy k2 hrun' (.inl rfl) (k:=k) hT' s' (by rw[hz];exact hsz)
       rw[hz] at this;exact this
     |ret=>cases hrun';exact g1.out (by simp) (by simp)
     |exit id=>cases hrun';exact g1.out (fun _ _=>rfl) (by simp)
     |pan v=>cases hrun';exact g1.out (by simp) (by simp)
   ·cases hc'
  ·cases hc'
 |cond e x y=>
  rw[hcode (by simp)]
  have hc':(match au e with
   |some c=>(match bR P x with|some a=>(match bR P y with|some b=>some (NC.cond c a b)|none=>none)|none=>none)
   |none=>none)=some nc:=hc
  split at hc'
  ·rename_i ne hne
   split at hc'
   ·rename_i nx hx
    split at hc'
    ·rename_i ny hy
     cases hc'
     obtain ⟨k1,k2⟩:=tY hk
     have hrun':(match ρ d.t ne with
      |some (.bool c)=>Bool.rec (ev P S n rnd ny d) (ev P S n rnd nx d) c
      |_=> .fail)=Res.mk o d':=sH.symm.trans hrun
     cases hv:ρ d.t ne with
     |none=>rw[hv] at hrun';cases hrun'
     |some v=>
      rw[hv] at hrun'
      cases v with
      |bool q=>
       have hq:=jA hT e ne hne _ hv
       have hev:a.eval e= .bool q:=by generalize a.eval e=z at hq;cases hq;rfl
       refine cB.of_steps (.one (stepR_cond hev)) ?_
       cases q with
       |true=>exact self hx k1 hrun' (.inl rfl) hT s hsz
       |false=>exact self hy k2 hrun' (.inl rfl) hT s hsz
      |_=>cases hrun'
    ·cases hc'
   ·cases hc'
  ·cases hc'
 |block id x=>
  rw[hcode (by simp)]
  have hc':(match bR P x with|some a=>an id fun id=>some (NC.block id a)|none=>none)=some nc:=hc
  split at hc'
  ·rename_i nx hx
   rw[ab] at hc'
   cases hc'
   have k1:=qj hk
   have hrun':(match ev P S n rnd nx d with
    | .mk o d=>(match o with
     | .exit i=>cond (Nat.beq i id) (.mk .norm d) (.mk (.exit i) d)
     |o=> .mk o d)
    | .fail=> .fail)=Res.mk o d':=oD.symm.trans hrun
   refine cB.of_steps (.one stepR_block) ?_
   cases he:ev P S n rnd nx d with
   |fail=>rw[he] at hrun';cases hrun'
   |mk o1 d1=>
    rw[he] at hrun'
    have g1:=self hx k1 he (.inl rfl) (k:= .inBlock id::k) hT s hsz
    cases o1 with
    |norm=>
     cases hrun'
     obtain ⟨ι1,a1,cs1,w1,q1,q2⟩:=g1
     exact ⟨ι1,a1,cs1,w1,Steps.trans q1 (.one stepR_inBlock),q2⟩
    |ret=>cases hrun';exact g1.out (by simp) (by simp)
    |exit i=>
     dsimp only at hrun'
     cases hb:Nat.beq i id with
     |true=>
      rw[hb] at hrun'
      cases hrun'
      have:=Jf hb
      subst this
      obtain ⟨ι1,a1,cs1,w1,⟨k0,q0,q1⟩,q2⟩:=g1
      refine ⟨ι1,a1,cs1,w1,Steps.trans q1 (.one (stepR_exit ?_)),q2⟩
      rw[q0];simp[exitTo]
     |false=>
      rw[hb] at hrun'
      cases hrun'
      have hne:=Nat.ne_of_beq_eq_false hb
      refine g1.out (fun i' hi'=> ?_) (by simp)
      cases hi'
      have:(id==i)=false:=by simpa using fun e=>hne e.symm
      simp[exitTo,this]
    |pan v=>cases hrun';exact g1.out (by simp) (by simp)
  ·cases hc'
 |loop x=>
  have hc':(match bR P x with|some a=>some (NC.loop a)|none=>none)=some nc:=hc
  split at hc'
  ·rename_i nx hx
   cases hc'
   have k1:=t8 hk
   have hrun':(match ev P S n rnd nx d with
    | .mk o d=>(match o with
     | .norm=>ev P S n rnd (.loop nx) d
     |o=> .mk o d)
    | .fail=> .fail)=Res.mk o d':=mI.symm.trans hrun
   have h1:Steps P (lone (b.atR a (st::k)) cs w) (lone (b.atR a (.code x:: .inLoop x::k)) cs w):=by
    rcases hst with rfl|⟨y,hy,rfl⟩
    ·exact .one stepR_loop
    ·cases hy;exact .one stepR_inLoop
   refine cB.of_steps h1 ?_
   cases he:ev P S n rnd nx d with
   |fail=>rw[he] at hrun';cases hrun'
   |mk o1 d1=>
    rw[he] at hrun'
    have g1:=self hx k1 he (.inl rfl) (k:= .inLoop x::k) hT s hsz
    cases o1 with
    |norm=>
     exact g1.then fun ι' a' cs' w' hT' s' hz=>by
      have:=self hc hk hrun' (.inr ⟨x,rfl,rfl⟩) (k:=k) hT' s' (by rw[hz];exact hsz)
      rw[hz] at this;exact this
    |ret=>cases hrun';exact g1.out (by simp) (by simp)
    |exit id=>cases hrun';exact g1.out (fun _ _=>rfl) (by simp)
    |pan v=>cases hrun';exact g1.out (by simp) (by simp)
  ·cases hc'
 |exit id=>
  rw[hcode (by simp)]
  have hc':(an id fun id=>some (NC.exit id))=some nc:=hc
  rw[ab] at hc'
  cases hc'
  have hrun':Res.mk (.exit id) d= .mk o d':=hrun
  cases hrun'
  exact ⟨ι,a,cs,w,⟨k,rfl,Steps.refl P _⟩,hT,Mv.refl s,rfl⟩
 |ret=>
  rw[hcode (by simp)]
  cases hc
  have hrun':Res.mk .ret d= .mk o d':=hrun
  cases hrun'
  exact ⟨ι,a,cs,w,⟨k,Steps.refl P _⟩,hT,Mv.refl s,rfl⟩
 |rangeFunc g ps x y=>
  rw[hcode (by simp)]
  have hc':(match au g,pn ps.toList with
   |some f,some ps=>(match bR P x with|some a=>(match bR P y with|some b=>some (NC.rangeFunc f ps a b)|none=>none)|none=>none)
   |_,_=>none)=some nc:=hc
  split at hc'
  ·rename_i nf nps hf hps
   split at hc'
   ·rename_i nx hx
    split at hc'
    ·rename_i ny hy
     cases hc'
     obtain ⟨k1,k2,k3⟩:=qB hk
     have hnps:=v7 hps
     obtain ⟨t,dfs,ctx,h⟩:=d
     have hrun':(match ρ t nf with
      |some (.fn f cap)=>(match (generalizing:=false) rnd with
       |none=>h.new (.defd true) fun m h=>bL P S (ev P S n) f cap nps nx ny t (.mark m::dfs) ctx h
       |some l=>(match h.get l with
        |some (.loop ..)=>bL P S (ev P S n) f cap nps nx ny t dfs ctx h
        |_=> .fail))
      |_=> .fail)=Res.mk o d':=hrun
     cases hv:ρ t nf with
     |none=>rw[hv] at hrun';cases hrun'
     |some v=>
      rw[hv] at hrun'
      cases v with
      |fn f cap=>
       have hq:=jA hT g nf hf _ hv
       obtain ⟨cap',hcap,hg⟩:∃cap',VRL ι cap cap'/\a.eval g= .func (.func f) #[] cap'.toArray:=by
        generalize a.eval g=z at hq
        cases hq with
        |fn _ _ cap' h=>exact ⟨cap',h,rfl⟩
       cases rnd with
       |none=>
        have hro:b.roundOf=none:=s.rn
        have hrun2:(h.new (.defd true) fun m h=>bL P S (ev P S n) f cap nps nx ny t (.mark m::dfs) ctx h)=Res.mk o d':=hrun'
        rw[NH.new_eq] at hrun2
        obtain ⟨ι1,i1,i2,i3,i4⟩:=s.rel.alloc s.base (.defd true) (.deferred (some [])) ⟨w.heap.size,0,0⟩ rfl (fun ι' _=>dc w _)
        have henter:=run_enterLoop_outer (P:=P) (w:=w) b.fn a.tmps ps x y
        have hs1:Sd P ι1 B none (.mark h.next::dfs) ctx (h.add (.defd true)) b ([{target:= .collected w.heap.size,args:=#[]}]++a.defers) cs (w.alloc (.deferred (some []))):=
         ⟨⟨⟨_,i1,rfl⟩,s.df.mono i2⟩,s.cx.mono i2,i3,Nat.le_trans s.base i4.size,s.rn⟩
        have g:=gw (k:=k) hC hfn hx hy k2 k3 hnps k1 hrun2 (w0:=w) (mark:= [{target:= .collected w.heap.size,args:=#[]}]) (r:=w.heap.size) (hT.mono i2) hs1 hsz (hcap.mono i2) hg (by rw[hro,henter];simp)
        obtain ⟨ι2,a2,cs2,w2,q1,q2,q3,q4⟩:=g
        exact ⟨ι2,a2,cs2,w2,q1,q2,⟨q3.sd,i4.trans q3.gr,q3.ca⟩,q4⟩
       |some l0=>
        obtain ⟨p0,hp0,hro⟩:=s.rn
        have hrun2:(match h.get l0 with
         |some (.loop ..)=>bL P S (ev P S n) f cap nps nx ny t dfs ctx h
         |_=> .fail)=Res.mk o d':=hrun'
        obtain ⟨ob,ho1,ho2⟩:=s.rel.obj _ _ hp0
        rw[ho1] at hrun2
        cases ob with
        |loop st pd tm ps2 a2 b2=>
         obtain ⟨L3,l1,_⟩:=ho2
         have henter:(Instr.enterLoop b.fn a.tmps ps x y (some p0.b)).run P w= .ok (w.heap.size, []) (w.alloc (.loop {state:= .ready,pending:=none,fn:=b.fn,tmps:=a.tmps,params:=ps,assign:=x,body:=y,defers:=L3.defers})):=by
          unfold Instr.enterLoop
          simp only[Sem.run_bind,run_getLoop l1,run_newObj_alloc,Result.andThen,Sem.run_pure]
         exact gw (k:=k) hC hfn hx hy k2 k3 hnps k1 hrun2 (w0:=w) (mark:= []) (r:=L3.defers) hT s hsz hcap hg (by rw[hro,henter])
        |_=>cases hrun2
      |_=>cases hrun'
    ·cases hc'
   ·cases hc'
  ·cases hc'
 |_=>cases hc
end
end Nm
namespace Nm
open Go
variable {ι:aO} {m:FrameMode} {w:World} {tmps:Array Value}
def rj (ι:aO):Option NV->FrameMode->Prop
 |none,m=>m= .returning
 |some v,m=>∃v',m= .panicking [{v:=v',recovered:=false}]/\VR ι v v'
theorem rj.mono  {ι':aO} (hι:ι.le ι') {p:Option NV} (h:rj ι p m):rj ι' p m:=by
 cases p with
 |none=>exact h
 |some v=>obtain ⟨v',h1,h2⟩:=h;exact ⟨v',h1,h2.mono hι⟩
theorem rj.ne_run  {p:Option NV} (h:rj ι p m):m≠.run:=by
 cases p with
 |none=>rw[show m= .returning from h];simp
 |some v=>obtain ⟨v',h1,h2⟩:=h;rw[h1];simp
theorem rj.settle  {p:Option NV} (h:rj ι p m):Go.settle m=m:=by
 cases p with
 |none=>rw[show m= .returning from h];rfl
 |some v=>obtain ⟨v',h1,h2⟩:=h;rw[h1];rfl
theorem rj.ctx  {p:Option NV} {c:Frame} {cs:List Frame} (h:rj ι p c.mode):pz ι .deferred (c::cs) p:=by
 cases p with
 |none=>
  intro b hb
  have h':c.mode= .returning:=h
  unfold tryRecover
  rw[hb]
  simp only[h']
 |some v=>
  obtain ⟨v',h1,h2⟩:=h
  exact ⟨rfl,c,cs,v', [],rfl,h1,h2⟩
section
variable {P:Program} {S:Nat->List NV->Option NV} {B:Nat}
def zn (tmps:Array Value):ResultVar->Sem Value
 | .tmp t=>pure (tmps.getD t undef)
 | .cell a t=>do loadVar t (←asAddr (tmps.getD a undef))
theorem pu (fn:Func) (tmps:Array Value):results fn tmps=(do let vs ←fn.results.mapM (zn tmps);pure (if h:vs.size=1 then vs[0] else .tuple vs)):=by
 unfold results
 congr 1
noncomputable def nE (h:NH) (t:Tm):NRes->NR
 | .tmp k=>(match NT.get k t with|some v=>NR.val v|none=> .fail)
 | .cell1 k=>ej (.tmp k) t h
 | .cellN k n=>ed n (.tmp k) t h
theorem nF (h:NH) (t:Tm) (r:NRes) (l:List NRes) (F:CR) (K:List NV->CR):
 bK h t (r::l) F K=(match nE h t r with| .val v=>bK h t l F fun l=>K (v::l)|_=>F):=by
 cases r<;>rfl
theorem kh  {T:TypeId} {v:Value} {u:Value} (h:aB ((Instr.loadAt T v).run P w)= .ok (.value u) w):(do loadVar T (←asAddr v):Sem Value).run P w= .ok u w:=by
 cases v with
 |pointer a=>
  cases a with
  |none=>simp[aB,Instr.loadAt,Instr.sureAddr,stuck,Sem.run_bind,Sem.run,Result.andThen] at h
  |some a=>
   simp only[aB,Instr.loadAt,Instr.sureAddr,asAddr,Sem.run_bind,Sem.run_pure,Result.andThen] at h ⊢
   cases hr:Sem.run P (loadVar T a) w with
   |ok x w1=>rw[hr] at h;cases h;rfl
   |halt x w1=>rw[hr] at h;cases h
 |_=>simp[aB,Instr.loadAt,Instr.sureAddr,stuck,Sem.run_bind,Sem.run,Result.andThen] at h
theorem uh  {h:NH} {t:Tm} (hT:TR ι t tmps) (hR:Rel P ι B h w) {r0:CR} (hr0:r0≠.fail):∀(l:List ResultVar) (nl:List NRes) (K:List NV->CR),cg P l=some nl->bK h t nl .fail K=r0->
 ∃vs vs',K vs=r0/\VRL ι vs vs'/\(l.mapM (zn tmps)).run P w= .ok vs' w:=by
 have ov:∀k:Nat,OV ι t (.tmp (D4.of k)) (tmps.getD k undef):=by
  intro k v hv
  obtain ⟨v',h1,h2⟩:=hT k v hv
  rw[rI h1];exact h2
 intro l
 induction l with
 |nil=>
  intro nl K hc hk
  cases hc
  exact ⟨[], [],hk,.nil,by simp⟩
 |cons r l ih=>
  intro nl K hc hk
  have step:∀{nr:NRes} {nl':List NRes},cg P l=some nl'->nl=nr::nl'->(∀v,nE h t nr= .val v->∃v',(zn tmps r).run P w= .ok v' w/\VR ι v v')->
   ∃vs vs',K vs=r0/\VRL ι vs vs'/\((r::l).mapM (zn tmps)).run P w= .ok vs' w:=by
   intro nr nl' h1 h2 h3
   subst h2
   rw[nF] at hk
   cases hv:nE h t nr with
   |val v=>
    rw[hv] at hk
    obtain ⟨v',q1,q2⟩:=h3 v hv
    obtain ⟨vs,vs',p1,p2,p3⟩:=ih nl' _ h1 hk
    refine ⟨v::vs,v'::vs',p1,.cons _ _ _ _ q2 p2, ?_⟩
    rw[List.mapM_cons]
    simp only[Sem.run_bind,q1,p3,Result.andThen,Sem.run_pure]
   |_=>rw[hv] at hk;exact I8 hk.symm hr0
  cases r with
  |tmp k=>
   have hc':(match cg P l with|some l=>D4.ofNat k fun t=>some (NRes.tmp t::l)|none=>none)=some nl:=by
    have e:cg P (.tmp k::l)=(match ResultVar.tmp k,cg P l with
     | .tmp t,some l=>D4.ofNat t fun t=>some (.tmp t::l)
     | .cell t ty,some l=>(match iQ P ty with
      |some none=>D4.ofNat t fun t=>some (.cell1 t::l)
      |some (some n)=>D4.ofNat t fun t=>some (.cellN t n::l)
      |none=>none)
     |_,none=>none):=rfl
    rw[e] at hc
    cases hl:cg P l with
    |none=>rw[hl] at hc;exact hc
    |some l1=>rw[hl] at hc;exact hc
   cases hl:cg P l with
   |none=>rw[hl] at hc';cases hc'
   |some l1=>
    rw[hl] at hc'
    have hc2:(D4.ofNat k fun t=>some (NRes.tmp t::l1))=some nl:=hc'
    rw[D4.ofNat_eq] at hc2
    refine step hl (Option.some.inj hc2).symm fun v hv=> ?_
    have hv':(match NT.get (D4.of k) t with|some v=>NR.val v|none=> .fail)=NR.val v:=hv
    cases hg:NT.get (D4.of k) t with
    |none=>rw[hg] at hv';cases hv'
    |some u=>
     rw[hg] at hv';cases hv'
     exact ⟨_,rfl,ov k _ hg⟩
  |cell k T=>
   have e:cg P (.cell k T::l)=(match ResultVar.cell k T,cg P l with
    | .tmp t,some l=>D4.ofNat t fun t=>some (.tmp t::l)
    | .cell t ty,some l=>(match iQ P ty with
     |some none=>D4.ofNat t fun t=>some (.cell1 t::l)
     |some (some n)=>D4.ofNat t fun t=>some (.cellN t n::l)
     |none=>none)
    |_,none=>none):=rfl
   rw[e] at hc
   cases hl:cg P l with
   |none=>rw[hl] at hc;cases hc
   |some l1=>
    rw[hl] at hc
    dsimp only at hc
    cases ha:iQ P T with
    |none=>rw[ha] at hc;cases hc
    |some q=>
     rw[ha] at hc
     cases q with
     |none=>
      have hc2:(D4.ofNat k fun t=>some (NRes.cell1 t::l1))=some nl:=hc
      rw[D4.ofNat_eq] at hc2
      refine step hl (Option.some.inj hc2).symm fun v hv=> ?_
      have:=jC (B:=B) (h:=h) (w:=w) ha (ov k) hR
      rw[show ej (.tmp (D4.of k)) t h= .val v from hv] at this
      obtain ⟨v',h1,h2⟩:=this
      exact ⟨v',kh h1,h2⟩
     |some m=>
      have hc2:(D4.ofNat k fun t=>some (NRes.cellN t m::l1))=some nl:=hc
      rw[D4.ofNat_eq] at hc2
      refine step hl (Option.some.inj hc2).symm fun v hv=> ?_
      have:=jE (B:=B) (h:=h) (w:=w) ha (ov k) hR
      rw[show ed m (.tmp (D4.of k)) t h= .val v from hv] at this
      obtain ⟨v',h1,h2⟩:=this
      exact ⟨v',kh h1,h2⟩
theorem lC  {h:NH} {t:Tm} (hT:TR ι t tmps) (hR:Rel P ι B h w) {fn:Func} {nl:List NRes} (hc:cg P fn.results.toList=some nl) {ctx:Option NV} {r0:CR} (hr0:r0≠.fail)
 (h0:bK h t nl .fail (fun l=> .val (fm l) ctx h)=r0):∃v v',r0= .val v ctx h/\VR ι v v'/\(results fn tmps).run P w= .ok v' w:=by
 obtain ⟨vs,vs',h1,h2,h3⟩:=uh hT hR hr0 _ _ _ hc h0
 refine ⟨fm vs,if h:vs'.toArray.size=1 then vs'.toArray[0] else .tuple vs'.toArray,h1.symm, ?_, ?_⟩
 ·cases h2 with
  |nil=>exact .tup [] [] .nil
  |cons v v' l l' hv hl=>
   cases hl with
   |nil=>exact hv
   |cons u u' l l' hu hl=>
    have:¬(v'::u'::l').toArray.size=1:=by simp
    rw[dif_neg this]
    exact .tup _ _ (.cons _ _ _ _ hv (.cons _ _ _ _ hu hl))
 ·rw[pu,Array.mapM_eq_mapM_toList]
  simp only[Sem.run_bind,map_eq_pure_bind,h3,Result.andThen,Sem.run_pure]
end
end Nm
namespace Nm
open Go
section
variable {P:Program} {S:Nat->List NV->Option NV} {B:Nat}
theorem gg {f:Nat} {nf:NFun} (h:ai P f=some (.code nf)):∃fn c,P.funcs[f]? =some fn/\fn.body=some c/\fn.name≠ "runtime.NumGoroutine" /\bR P c=some nf.body/\cg P fn.results.toList=some nf.results:=by
 unfold ai at h
 split at h
 ·rename_i fn hfn
  cases hn:(fn.name== "runtime.NumGoroutine") with
  |true=>rw[hn] at h;cases h
  |false=>
   rw[hn] at h
   simp only[cond_false] at h
   split at h
   ·rename_i c hb
    split at h
    ·rename_i nb nr h1 h2
     rw[ab] at h
     cases h
     exact ⟨fn,c,hfn,hb,by simpa using hn,h1,h2⟩
    ·cases h
   ·split at h<;>cases h
 ·cases h
theorem jj {f:Nat} {fn:Func} {c:Code} (hf:P.funcs[f]? =some fn) (hb:fn.body=some c) (hn:fn.name≠ "runtime.NumGoroutine") (args:Array Value) (w:World):(callFunc f args).run P w= .ok (.enter f args) w:=by
 simp[callFunc,hf,hb,hn]
noncomputable def cX:List NV->Nat->Tm->Tm
 | [],_,t=>t
 |v::vs,k,t=>cX vs (k+1) (NT.put (D4.of k) v t)
theorem xC {R:Type} (vs:List NV) (K:Tm->R):u6 vs K=K (cX vs 0 .leaf):=by
 have go:∀(vs:List NV) (k:Nat) (t:Tm),(List.rec (motive:=fun _=>D4->Tm->R) (fun _ t=>K t) (fun v _ ih k t=>NT.set k v t fun t=>k.succ fun k=>ih k t) vs (D4.of k) t:R)=K (cX vs k t):=by
  intro vs
  induction vs with
  |nil=>intro k t;rfl
  |cons v vs ih=>
   intro k t
   have e:(List.rec (motive:=fun _=>D4->Tm->R) (fun _ t=>K t) (fun v _ ih k t=>NT.set k v t fun t=>k.succ fun k=>ih k t) (v::vs) (D4.of k) t:R)=
    NT.set (D4.of k) v t fun t=>(D4.of k).succ fun k=>(List.rec (motive:=fun _=>D4->Tm->R) (fun _ t=>K t) (fun v _ ih k t=>NT.set k v t fun t=>k.succ fun k=>ih k t) vs k t:R):=rfl
   rw[e,NT.set_eq,D4.succ_eq]
   exact ih (k+1) _
 exact go vs 0 .leaf
theorem p9:∀(vs:List NV) (k:Nat) (t:Tm) (j:Nat) (v:NV),NT.get (D4.of j) (cX vs k t)=some v->(∃i,j=k+i/\vs[i]? =some v)∨(NT.get (D4.of j) t=some v/\(j<k∨k+vs.length<=j)):=by
 intro vs
 induction vs with
 |nil=>intro k t j v h;exact .inr ⟨h,by simp;omega⟩
 |cons u vs ih=>
  intro k t j v h
  rcases ih (k+1) _ j v h with ⟨i,h1,h2⟩|⟨h1,h2⟩
  ·exact .inl ⟨i+1,by omega,by simpa using h2⟩
  ·by_cases e:j=k
   ·subst e
    rw[NT.get_put_same] at h1
    exact .inl ⟨0,rfl,by simpa using h1⟩
   ·rw[NT.get_put_ne (fun x=>e (D4.of_inj x))] at h1
    exact .inr ⟨h1,by simp;omega⟩
theorem yw {ι:aO} {args:List NV} {args':List Value} (h:VRL ι args args') (n:Nat):TR ι (cX args 0 .leaf) (args'.toArray++Array.replicate n undef):=by
 intro j v hv
 rcases p9 args 0 .leaf j v hv with ⟨i,h1,h2⟩|⟨h1,_⟩
 ·obtain ⟨v',h3,h4⟩:=h.get h2
  refine ⟨v', ?_,h4⟩
  have:j=i:=by omega
  subst this
  have hlt:=(List.getElem?_eq_some_iff.1 h3).1
  rw[Array.getElem?_append_left (by simpa using hlt)]
  simpa using h3
 ·rw[NT.get_leaf] at h1;cases h1
def Gk (P:Program) (B:Nat) (ι:aO) (h:NH) (w:World) (fr0:Frame) (kind:CallKind) (ctx:Option NV) (cs:List Frame):CR->Prop
 | .fail=>True
 | .val v ctx' h'=>∃ι' v' w' cs' fr,VR ι' v v'/\Rel P ι' B h' w'/\B<=w'.heap.size/\Grow ι h w ι' h' w'/\kU cs ctx cs' ctx'/\Steps P (lone fr0 cs w) (lone fr cs' w')/\fr.kind=kind/\fr.fn=fr0.fn/\fr.going P w' (.returned v')
 | .pan v ctx' h'=>∃ι' v' w' cs' fr,VR ι' v v'/\Rel P ι' B h' w'/\B<=w'.heap.size/\Grow ι h w ι' h' w'/\kU cs ctx cs' ctx'/\Steps P (lone fr0 cs w) (lone fr cs' w')/\fr.kind=kind/\fr.fn=fr0.fn/\fr.going P w' (.panicked [{v:=v',recovered:=false}])
def AU (P:Program) (callF:Nat->List NV->Option NV->NH->CR):Prop:=
 ∀(f:Nat) (args:List NV) (p:Option NV) (h:NH),callF f args p h≠.fail->(∃nf,ai P f=some (.code nf))/\
  ∀(B:Nat) (ι:aO) (w:World) (args':List Value) (kind:CallKind) (cs:List Frame),Rel P ι B h w->B<=w.heap.size->VRL ι args args'->pz ι kind cs p->
   Gk P B ι h w (Frame.enter P f args'.toArray kind) kind p cs (callF f args p h)
theorem jz (callF:Nat->List NV->Option NV->NH->CR) (K:Option NV->NH->CR) (c:Dfr) (l:List Dfr) (p:Option NV) (h:NH):
 unwind callF K (c::l) p h=match c with
  | .call f cap=>(match callF f cap p h with
   | .val _ p h=>unwind callF K l p h
   |_=> .fail)
  | .mark id=>match h.get id with
   |some (.defd true)=>unwind callF K l p (h.put id (.defd false))
   |_=> .fail:=by
 have e:unwind callF K (c::l) p h=match c with
  | .call f cap=>(match callF f cap p h with
   | .val _ p h=>unwind callF K l p h
   |_=> .fail)
  | .mark id=>match h.get id with
   |some (.defd true)=>h.set id (.defd false) fun h=>unwind callF K l p h
   |_=> .fail:=rfl
 rw[e]
 cases c with
 |call f cap=>rfl
 |mark id=>
  dsimp only
  split
  ·exact NH.set_eq _ _ _ _
  ·rfl
theorem mR {callF:Nat->List NV->Option NV->NH->CR} (hF:AU P callF) {K:Option NV->NH->CR} {r:CR} (hr:r≠.fail):∀(l:List Dfr) (p:Option NV) (h:NH),unwind callF K l p h=r->
 ∀(ι:aO) (w:World) (fr:Frame) (cs:List Frame),DR ι l fr.defers->Rel P ι B h w->B<=w.heap.size->rj ι p fr.mode->
 ∃p' h' ι' w' fr',K p' h'=r/\Rel P ι' B h' w'/\B<=w'.heap.size/\Grow ι h w ι' h' w'/\rj ι' p' fr'.mode/\fr'.defers= []/\fr'.tmps=fr.tmps/\fr'.fn=fr.fn/\fr'.kind=fr.kind/\Steps P (lone fr cs w) (lone fr' cs w'):=by
 intro l
 induction l with
 |nil=>
  intro p h hu ι w fr cs hd hR hB hm
  have hde:fr.defers= []:=by
   cases hds:fr.defers with
   |nil=>rfl
   |cons d ds=>rw[hds] at hd;exact hd.elim
  exact ⟨p,h,ι,w,fr,hu,hR,hB,.refl _ _ _,hm,hde,rfl,rfl,rfl,Steps.refl P _⟩
 |cons c l ih=>
  intro p h hu ι w fr cs hd hR hB hm
  rw[jz] at hu
  cases hds:fr.defers with
  |nil=>rw[hds] at hd;cases c<;>exact hd.elim
  |cons d ds=>
   rw[hds] at hd
   cases c with
   |mark id=>
    obtain ⟨⟨pl,hp,hde⟩,hd'⟩:=hd
    have hu':(match h.get id with
     |some (.defd true)=>unwind callF K l p (h.put id (.defd false))
     |_=> .fail)=r:=hu
    obtain ⟨ob,ho1,ho2⟩:=hR.obj _ _ hp
    rw[ho1] at hu'
    cases ob with
    |defd q=>
     cases q with
     |false=>exact I8 hu'.symm hr
     |true=>
      have hob:w.heap[pl.b]? =some (.deferred (some [])):=ho2
      have htake:=run_takeDeferred (P:=P) hob
      have hst:=step_collected (cs:=cs) hm.ne_run hds (by rw[hde]) htake
      have hlt:=hR.lt _ _ hp
      obtain ⟨t1,t2⟩:=hR.turn (w':=w.putObj pl.b (.deferred none)) hp (by rw[ho1];simp) (.defd false) (World.putObj_heap_same hlt) (by simp) rfl rfl rfl (fun q hq=>World.putObj_heap_other hq)
      obtain ⟨p',h',ι',w',fr',q1,q2,q3,q4,q5,q6,q7,q8,q9,q10⟩:=ih p _ hu' ι _ {fr with defers:= []++ds} cs hd' t1 (by simpa using hB) hm
      exact ⟨p',h',ι',w',fr',q1,q2,q3,t2.trans q4,q5,q6,q7,q8,q9,.head hst q10⟩
    |_=>exact I8 hu'.symm hr
   |call f cap=>
    obtain ⟨⟨cap',hcap,hde⟩,hd'⟩:=hd
    have hu':(match callF f cap p h with
     | .val _ p h=>unwind callF K l p h
     |_=> .fail)=r:=hu
    cases hcf:callF f cap p h with
    |fail=>rw[hcf] at hu';exact I8 hu'.symm hr
    |pan v x h1=>rw[hcf] at hu';exact I8 hu'.symm hr
    |val v p1 h1=>
     rw[hcf] at hu'
     obtain ⟨⟨nf,hnf⟩,hFr⟩:=hF f cap p h (by rw[hcf];simp)
     obtain ⟨fnn,code,e1,e2,e3,_⟩:=gg hnf
     have hinv:(invoke d.target d.args).run P w= .ok (.enter f cap'.toArray) w:=by
      rw[hde]
      have:=jj (P:=P) e1 e2 e3 (#[]++cap'.toArray) w
      simp only[Array.empty_append] at this
      simp only[invoke,Array.empty_append]
      exact this
     have hst:=step_defer (cs:=cs) hm.ne_run hds (by rw[hde]) hinv
     have hfr:=hFr B ι w cap' .deferred ({fr with defers:=ds}::cs) hR hB hcap (rj.ctx (c:={fr with defers:=ds}) hm)
     rw[hcf] at hfr
     obtain ⟨ι1,v',w1,cs1,frx,f1,f2,f3,f4,f5,f6,f7,_,f8⟩:=hfr
     have hback:∃m',rj ι1 p1 m'/\Steps P (lone fr cs w) (lone {fr with defers:=ds,mode:=m'} cs w1):=by
      rcases f5 with ⟨rfl,rfl⟩|⟨rfl,_,c0,rest,v0,older,g1,g2,rfl⟩
      ·refine ⟨fr.mode,hm.mono f4.le,.head hst (Steps.trans f6 (.one ?_))⟩
       have:=step_going_returned (c:={fr with defers:=ds}) (cs:=cs) f7 f8
       rw[show settle ({fr with defers:=ds}:Frame).mode=fr.mode from hm.settle] at this
       exact this
      ·injection g1 with g3 g4
       subst g3 g4
       refine ⟨.returning,rfl,.head hst (Steps.trans f6 (.one ?_))⟩
       have:=step_going_returned (c:={({fr with defers:=ds}:Frame) with mode:= .panicking ({v:=v0,recovered:=true}::older)}) (cs:=cs) f7 f8
       have hol:older= []:=by
        cases p with
        |none=>
         have:fr.mode= .returning:=hm
         rw[show ({fr with defers:=ds}:Frame).mode=fr.mode from rfl,this] at g2
         cases g2
        |some q=>
         obtain ⟨q',hq1,_⟩:=hm
         rw[show ({fr with defers:=ds}:Frame).mode=fr.mode from rfl,hq1] at g2
         cases g2
         rfl
       rw[hol] at this ⊢
       exact this
     obtain ⟨m',hm',hsteps⟩:=hback
     obtain ⟨p',h',ι',w',fr',q1,q2,q3,q4,q5,q6,q7,q8,q9,q10⟩:=ih p1 h1 hu' ι1 w1 {fr with defers:=ds,mode:=m'} cs (hd'.mono f4.le) f2 f3 hm'
     exact ⟨p',h',ι',w',fr',q1,q2,q3,f4.trans q4,q5,q6,q7,q8,q9,hsteps.trans q10⟩
def iX (P:Program):Prop:=∀(f:Nat) (fn:Func) (c:Code),P.funcs[f]? =some fn->fn.body=some c->CheckCode.code P fn [] [] c= .ok ()
theorem iW (h:P.check= .ok ()):iX P:=by
 intro f fn c hf hb
 unfold Program.check at h
 obtain ⟨_,h1,_⟩:=bh h
 have h2:=mH h1 f (by simp;exact (Array.getElem?_eq_some_iff.1 hf).1)
 unfold CheckCode.funcAt at h2
 rw[hf] at h2
 have h3:=oF h2
 unfold CheckCode.func at h3
 obtain ⟨_,_,h3⟩:=bh h3
 obtain ⟨_,_,h3⟩:=bh h3
 obtain ⟨_,_,h3⟩:=bh h3
 rw[hb] at h3
 simp only at h3
 obtain ⟨_,_,h3⟩:=bh h3
 obtain ⟨_,h4,_⟩:=bh h3
 exact h4
theorem d5 (self:Option D4->NC->Dyn->Res) (depth f:Nat) (args:List NV) (ctx:Option NV) (h:NH):
 bZ P self (depth+1) f args ctx h=match ai P f with
  |some (.code nf)=>(match self none nf.body ⟨cX args 0 .leaf, [],ctx,h⟩ with
   | .mk o d=>(match o with
    | .norm| .ret=>unwind (bZ P self depth) (finish nf.results d) d.dfs none d.h
    | .pan v=>unwind (bZ P self depth) (finish nf.results d) d.dfs (some v) d.h
    | .exit _=> .fail)
   | .fail=> .fail)
  |_=> .fail:=by
 have e:bZ P self (depth+1) f args ctx h=match ai P f with
  |some (.code nf)=>u6 args fun t=>(match self none nf.body ⟨t, [],ctx,h⟩ with
   | .mk o d=>(match o with
    | .norm| .ret=>unwind (bZ P self depth) (finish nf.results d) d.dfs none d.h
    | .pan v=>unwind (bZ P self depth) (finish nf.results d) d.dfs (some v) d.h
    | .exit _=> .fail)
   | .fail=> .fail)
  |_=> .fail:=rfl
 rw[e]
 split
 ·exact xC _ _
 ·rfl
theorem fL (hK:iX P) {n:Nat} (hO:fR P S n):∀depth,AU P (bZ P (ev P S n) depth):=by
 intro depth
 induction depth with
 |zero=>intro f args p h hne;exact I8 rfl hne
 |succ depth ih=>
  intro f args p h hne
  rw[d5] at hne ⊢
  cases hcf:ai P f with
  |none=>rw[hcf] at hne;exact I8 rfl hne
  |some x=>
   cases x with
   |ext e=>rw[hcf] at hne;exact I8 rfl hne
   |code nf=>
    refine ⟨⟨nf,rfl⟩,fun B ι w args' kind cs hR hB hargs hctx=> ?_⟩
    rw[hcf] at hne
    dsimp only at hne ⊢
    obtain ⟨fn,c,hf,hb,hname,hcc,hres⟩:=gg hcf
    let b:Frame:={(default:Frame) with fn:=f,kind:=kind}
    let a0:Act:={tmps:=args'.toArray++Array.replicate (fn.ntmps - args'.toArray.size) undef,defers:= []}
    have henter:Frame.enter P f args'.toArray kind=b.atR a0 [.code c]:=by
     simp[Frame.enter,Frame.atR,hf,hb,b,a0]
     rfl
    cases hev:ev P S n none nf.body ⟨cX args 0 .leaf, [],p,h⟩ with
    |fail=>rw[hev] at hne;exact I8 rfl hne
    |mk o d=>
     rw[hev] at hne
     have hs:Sd P ι B none [] p h b a0.defers cs w:=⟨trivial,hctx,hR,hB,rfl⟩
     have hgo:=hO c nf.body fn [] [] hcc (hK f fn c hf hb) none ⟨cX args 0 .leaf, [],p,h⟩ o d hev (.code c) (.inl rfl) B b [] ι a0 cs w hf (yw hargs _) hs (by simp[a0];omega)
     rw[←henter] at hgo
     obtain ⟨ι1,a1,cs1,w1,g1,g2,g3,g4⟩:=hgo
     have out:∀(q:Option NV) (fr1:Frame),(unwind (bZ P (ev P S n) depth) (finish nf.results d) d.dfs q d.h)≠.fail->rj ι1 q fr1.mode->fr1.defers=a1.defers->fr1.tmps=a1.tmps->fr1.kind=kind->fr1.fn=f->
      Steps P (lone (Frame.enter P f args'.toArray kind) cs w) (lone fr1 cs1 w1)->Gk P B ι h w (Frame.enter P f args'.toArray kind) kind p cs (unwind (bZ P (ev P S n) depth) (finish nf.results d) d.dfs q d.h):=by
      intro q fr1 hq hm hdf htm hkd hfn hst
      have sd:=g3.sd
      obtain ⟨p',h',ι',w',fr',q1,q2,q3,q4,q5,q6,q7,q8,q9,q10⟩:=mR ih hq d.dfs q d.h rfl ι1 w1 fr1 cs1 (by rw[hdf];exact sd.df) sd.rel sd.base hm
      have hTR:TR ι' d.t fr'.tmps:=by rw[q7,htm];exact g2.mono q4.le
      have hff:P.funcs[fr'.fn]? =some fn:=by rw[q8,hfn];exact hf
      cases p' with
      |none=>
       have q1':bK h' d.t nf.results .fail (fun l=> .val (fm l) d.ctx h')=unwind (bZ P (ev P S n) depth) (finish nf.results d) d.dfs q d.h:=q1
       obtain ⟨v,v',r1,r2,r3⟩:=lC hTR q2 hres hq q1'
       rw[r1]
       exact ⟨ι',v',w',cs1,fr',r2,q2,q3,g3.gr.trans q4,g3.ca,hst.trans q10,by rw[q9,hkd],by rw[q8,hfn];rfl,q5,q6,fn,hff,r3⟩
      |some v=>
       have q1':CR.pan v d.ctx h'=unwind (bZ P (ev P S n) depth) (finish nf.results d) d.dfs q d.h:=q1
       rw[←q1']
       obtain ⟨v',m1,m2⟩:=q5
       exact ⟨ι',v',w',cs1,fr',m2,q2,q3,g3.gr.trans q4,g3.ca,hst.trans q10,by rw[q9,hkd],by rw[q8,hfn];rfl,m1,q6,fn,hff⟩
     cases o with
     |norm=>
      have g1':Steps P (lone (Frame.enter P f args'.toArray kind) cs w) (lone (b.atR a1 []) cs1 w1):=g1
      exact out none {b.atR a1 [] with mode:= .returning} hne rfl rfl rfl rfl rfl (g1'.trans (.one (stepR_end rfl)))
     |ret=>
      obtain ⟨k0,g1'⟩:=g1
      exact out none {b.atR a1 (.code .ret::k0) with mode:= .returning} hne rfl rfl rfl rfl rfl (g1'.trans (.one (stepR_ret rfl)))
     |exit id=>exact I8 rfl hne
     |pan v=>
      obtain ⟨td,v',m1,g1'⟩:=g1
      exact out (some v) _ hne ⟨v',rfl,m1⟩ rfl rfl rfl rfl g1'
end
end Nm
namespace Nm
open Go
theorem x1:Extern.allNextRows.lookup "math/bits.Add64" =none:=by kernel_rfl
theorem x2:Extern.allNextRows.lookup "" =none:=by kernel_rfl
theorem x3:Extern.allGenericRows.lookup "math/bits.Add64" =none:=by kernel_rfl
theorem x4:Extern.allTypedRows.lookup "math/bits.Add64" =none:=by kernel_rfl
theorem x5:Extern.allRows.lookup "math/bits.Add64" =some add64Entry:=by kernel_rfl
theorem y1:Extern.allNextRows.lookup "internal/bytealg.IndexByteString" =none:=by kernel_rfl
theorem y3:Extern.allGenericRows.lookup "internal/bytealg.IndexByteString" =none:=by kernel_rfl
theorem y4:Extern.allTypedRows.lookup "internal/bytealg.IndexByteString" =none:=by kernel_rfl
theorem y5:Extern.allRows.lookup "internal/bytealg.IndexByteString" =some Extern.BytealgIndexByte.indexByte:=by kernel_rfl
theorem zE (c:Nat):∀(l:List Nat) (i:Nat),tG c l i=(l.findIdx? (fun x=>x==c)).map (·+i):=by
 intro l
 induction l with
 |nil=>intro i;rfl
 |cons x l ih=>
  intro i
  have e:tG c (x::l) i=cond (Nat.beq x c) (some i) (an (Nat.succ i) (tG c l)):=rfl
  rw[e,ab,ih,List.findIdx?_cons]
  cases h:Nat.beq x c with
  |true=>have:=Jf h;simp[this]
  |false=>
   have:=Nat.ne_of_beq_eq_false h
   simp only[cond_false]
   rw[I9 (by simpa using this)]
   cases List.findIdx? (fun x=>x==c) l with
   |none=>rfl
   |some j=>simp;omega
theorem p8 (p:Nat->Bool):∀n,(List.range n).find? p=none↔∀i,i<n->p i=false:=by
 intro n;simp
theorem oK (s:ByteArray) (c:Nat) (hc:c<=255):firstIdx s c.toUInt8=match tG c (s.data.toList.map UInt8.toNat) 0 with|some i=>(i:Int)|none=>-1:=by
 rw[zE]
 have hsz:s.data.toList.length=s.size:=ba s
 have hml:(s.data.toList.map UInt8.toNat).length=s.size:=by rw[List.length_map,hsz]
 have hat:∀i (h:i<s.size),(s[i]! ==c.toUInt8)=(((s.data.toList.map UInt8.toNat)[i]'(by rw[hml];exact h))==c):=by
  intro i h
  have e:s[i]! =s.data.toList[i]'(by rw[hsz];exact h):=by
   rw[getElem!_pos s i h];simp[ByteArray.getElem_eq_getElem_data]
  rw[e,List.getElem_map]
  rw[Bool.eq_iff_iff]
  simp only[beq_iff_eq]
  constructor
  ·intro h;rw[h];simp;omega
  ·intro h;rw[←h];simp
 unfold firstIdx
 cases hf:(s.data.toList.map UInt8.toNat).findIdx? (fun x=>x==c) with
 |none=>
  have h1:(List.range s.size).find? (fun i=>s[i]! ==c.toUInt8)=none:=by
   rw[p8]
   intro i hi
   rw[hat i hi]
   rw[List.findIdx?_eq_none_iff] at hf
   exact hf _ (List.getElem_mem _)
  rw[h1];rfl
 |some j=>
  rw[List.findIdx?_eq_some_iff_getElem] at hf
  obtain ⟨hj,h1,h2⟩:=hf
  have hj':j<s.size:=by rw[←hml];exact hj
  have h3:(List.range s.size).find? (fun i=>s[i]! ==c.toUInt8)=some j:=by
   rw[List.find?_range_eq_some]
   refine ⟨?_,by simpa using hj',fun k hk=> ?_⟩
   ·rw[hat j hj'];exact h1
   ·rw[hat k (by omega)]
    simpa using h2 k hk
  rw[h3];simp
section
variable {P:Program} {S:Nat->List NV->Option NV} {B:Nat}
theorem tF {ι:aO} {fn:Func} {e:Ext} {f:Nat} (hf:P.funcs[f]? =some fn) (hb:fn.body=none) (he:sF fn=some e) {args:List NV} {args':List Value} (ha:VRL ι args args') {v:NV} (hv:lz e args=some v) (w:World):
 ∃v',(callFunc f args'.toArray).run P w= .ok (.value v') w/\VR ι v v':=by
 unfold sF at he
 obtain ⟨ho,he⟩:=aH he
 have ho':fn.origin= "" :=by simpa using ho
 cases hn:(fn.name== "math/bits.Add64") with
 |true=>
  rw[hn] at he
  cases he
  have hname:fn.name= "math/bits.Add64" :=by simpa using hn
  have hnx:Extern.findNext fn=none:=by unfold Extern.findNext;rw[hname,ho'];simp only[x1,x2];rfl
  have hfi:Extern.find fn=some add64Entry:=by unfold Extern.find;rw[hname,ho'];simp only[x3,x4,x5];rfl
  have hcall:=run_callFunc_extern hf (by rw[hname];decide) (by rw[hb];rfl) hnx hfi args'.toArray w
  unfold lz at hv
  split at hv
  ·rename_i x y c hargs
   obtain ⟨hc1,hv⟩:=aH hv
   rw[ab,ab] at hv
   cases hv
   cases ha with
   |cons _ _ _ _ h1 ha=>
    cases ha with
    |cons _ _ _ _ h2 ha=>
     cases ha with
     |cons _ _ _ _ h3 ha=>
      cases ha
      cases h1;cases h2;cases h3
      have hc:=Nat.le_of_ble_eq_true hc1
      refine ⟨_, ?_,.tup [_,_] [_,_] (.cons _ _ _ _ (.int .u64 _) (.cons _ _ _ _ (.int .u64 _) .nil))⟩
      have:=run_add64 (P:=P) (Int.ofNat x) (Int.ofNat y) (Int.ofNat c) (Int.natCast_nonneg _) (Int.natCast_nonneg _) (Int.natCast_nonneg _) (by show (c:Int)<=1;omega) w
      rw[hcall]
      show Result.andThen (Sem.run P (add64Entry #[.int .u64 (Int.ofNat x),.int .u64 (Int.ofNat y),.int .u64 (Int.ofNat c)]) w) _=_
      rw[this]
      rfl
  ·rename_i h;cases h
  ·cases hv
 |false=>
  rw[hn] at he
  simp only[cond_false] at he
  obtain ⟨hn2,he⟩:=aH he
  cases he
  have hname:fn.name= "internal/bytealg.IndexByteString" :=by simpa using hn2
  have hnx:Extern.findNext fn=none:=by unfold Extern.findNext;rw[hname,ho'];simp only[y1,x2];rfl
  have hfi:Extern.find fn=some Extern.BytealgIndexByte.indexByte:=by unfold Extern.find;rw[hname,ho'];simp only[y3,y4,y5];rfl
  have hcall:=run_callFunc_extern hf (by rw[hname];decide) (by rw[hb];rfl) hnx hfi args'.toArray w
  unfold lz at hv
  split at hv
  ·rename_i h;cases h
  ·rename_i s c _
   obtain ⟨hc1,hv⟩:=aH hv
   have hc:=Nat.le_of_ble_eq_true hc1
   cases ha with
   |cons _ _ _ _ h1 ha=>
    cases ha with
    |cons _ _ _ _ h2 ha=>
     cases ha
     cases h2
     cases h1 with
     |str l s' hs=>
      subst hs
      have hrun:=run_indexByte_string (P:=P) s' (Int.ofNat c) w
      refine ⟨.int .i64 (firstIdx s' c.toUInt8), ?_, ?_⟩
      ·rw[hcall]
       show Result.andThen (Sem.run P (Extern.BytealgIndexByte.indexByte #[.string s',.int .u8 (Int.ofNat c)]) w) _=_
       rw[hrun]
       rfl
      ·rw[oK s' c hc]
       cases hi:tG c (s'.data.toList.map UInt8.toNat) 0 with
       |none=>rw[hi] at hv;cases hv;exact .int .i64 _
       |some i=>rw[hi] at hv;cases hv;exact .int .i64 _
  ·cases hv
def aX (P:Program) (S:Nat->List NV->Option NV):Prop:=
 ∀(ι:aO) (B:Nat) (h:NH) (w:World) (f:Nat) (args:List NV) (args':List Value) (v:NV),S f args=some v->Rel P ι B h w->B<=w.heap.size->VRL ι args args'->
  pe P ι B h w ((callFunc f args'.toArray).run P w) (.val v none h)
theorem uL:aX P HJ:=fun _ _ _ _ _ _ _ _ h=>by cases h
theorem tI {f:Nat} {e:Ext} (h:ai P f=some (.ext e)):∃fn,P.funcs[f]? =some fn/\fn.body=none/\sF fn=some e:=by
 unfold ai at h
 split at h
 ·rename_i fn hfn
  cases hn:(fn.name== "runtime.NumGoroutine") with
  |true=>rw[hn] at h;cases h
  |false=>
   rw[hn] at h
   simp only[cond_false] at h
   split at h
   ·split at h
    ·rw[ab] at h;cases h
    ·cases h
   ·rename_i hb
    split at h
    ·rename_i e' he;cases h;exact ⟨fn,hfn,hb,he⟩
    ·cases h
 ·cases h
theorem di {fr:Frame} {w:World} {e:Ending} (hk:fr.kind= .normal) (h:fr.going P w e):fr.leaving P w e:=by
 cases e with
 |returned v=>exact ⟨h.1,h.2.1,hk,h.2.2⟩
 |panicked c=>exact h
 |outgrown=>trivial
theorem lw (hK:iX P) (hS:aX P S) {n:Nat} (hO:fR P S n) (ι:aO) (B:Nat) (h:NH) (w:World) (f:Nat) (args:List NV) (args':List Value) (hR:Rel P ι B h w) (hB:B<=w.heap.size) (ha:VRL ι args args'):
 pe P ι B h w ((callFunc f args'.toArray).run P w) (bJ P S (ev P S n) f args h):=by
 unfold bJ
 cases hs:S f args with
 |some v=>exact hS ι B h w f args args' v hs hR hB ha
 |none=>
  dsimp only
  cases hcf:ai P f with
  |none=>trivial
  |some x=>
   cases x with
   |ext e=>
    dsimp only
    cases hx:lz e args with
    |none=>trivial
    |some v=>
     intro c cs
     obtain ⟨fn,h1,h2,h3⟩:=tI hcf
     obtain ⟨v',e1,e2⟩:=tF h1 h2 h3 ha hx w
     exact ⟨ι,v',w,e2,hR,hB,.refl _ _ _,.inl e1⟩
   |code nf=>
    dsimp only
    have hD:=fL hK hO 3 f args none h
    obtain ⟨fn,code,e1,e2,e3,_⟩:=gg hcf
    have hent:=jj (P:=P) e1 e2 e3 args'.toArray w
    cases hr:bZ P (ev P S n) 3 f args none h with
    |fail=>trivial
    |val v x h'=>
     intro c cs
     obtain ⟨_,hF⟩:=hD (by rw[hr];simp)
     have hF:=hF B ι w args' .normal (c::cs) hR hB ha (fun b hb=>by unfold tryRecover;rw[hb])
     rw[hr] at hF
     obtain ⟨ι',v',w',cs',fr,f1,f2,f3,f4,f5,f6,f7,_,f8⟩:=hF
     obtain ⟨rfl,_⟩:=f5.none
     exact ⟨ι',v',w',f1,f2,f3,f4,.inr ⟨w,.inl ⟨f,args'.toArray,hent,Steps.trans f6 (.one (step_leave_returned (di f7 f8)))⟩⟩⟩
    |pan v x h'=>
     intro c cs
     obtain ⟨_,hF⟩:=hD (by rw[hr];simp)
     have hF:=hF B ι w args' .normal (c::cs) hR hB ha (fun b hb=>by unfold tryRecover;rw[hb])
     rw[hr] at hF
     obtain ⟨ι',v',w',cs',fr,f1,f2,f3,f4,f5,f6,f7,_,f8⟩:=hF
     obtain ⟨rfl,_⟩:=f5.none
     exact ⟨ι',v',w',f1,f2,f3,f4,w,.inl ⟨f,args'.toArray,hent,Steps.trans f6 (.one (step_leave_panicked (di f7 f8)))⟩⟩
noncomputable def lG:List D4->List NV->Tm->Tm
 |p::ps,v::vs,t=>lG ps vs (NT.put p v t)
 |_,_,t=>t
theorem jr {r:CR} (hr:r≠.fail) {K:Tm->CR}:∀{ps:List D4} {vs:List NV} {t:Tm},cQ .fail ps vs t K=r->vs.length=ps.length/\K (lG ps vs t)=r:=by
 intro ps
 induction ps with
 |nil=>
  intro vs t h
  cases vs with
  |nil=>exact ⟨rfl,h⟩
  |cons v vs=>exact I8 (show CR.fail=r from h).symm hr
 |cons p ps ih=>
  intro vs t h
  cases vs with
  |nil=>exact I8 (show CR.fail=r from h).symm hr
  |cons v vs=>
   have e:cQ .fail (p::ps) (v::vs) t K=NT.set p v t fun t=>cQ .fail ps vs t K:=rfl
   rw[e,NT.set_eq] at h
   obtain ⟨h1,h2⟩:=ih h
   exact ⟨by simp[h1],h2⟩
theorem xH {ι:aO}:∀{ps:List Nat} {vs:List NV} {vs':List Value} {t:Tm} {a:Array Value},VRL ι vs vs'->TR ι t a->(∀q∈ps,q<a.size)->
 TR ι (lG (ps.map D4.of) vs t) ((ps.zip vs').foldl (fun tmps (t,a)=>tmps.setIfInBounds t a) a)/\((ps.zip vs').foldl (fun tmps (t,a)=>tmps.setIfInBounds t a) a).size=a.size:=by
 intro ps
 induction ps with
 |nil=>intro vs vs' t a _ hT _;cases vs<;>exact ⟨hT,rfl⟩
 |cons p ps ih=>
  intro vs vs' t a hv hT hp
  cases hv with
  |nil=>exact ⟨hT,rfl⟩
  |cons v v' vs vs' h1 h2=>
   have hT':=hT.put (hp p (by simp)) h1
   obtain ⟨q1,q2⟩:=ih h2 hT' (fun q hq=>by simp;exact hp q (by simp[hq]))
   exact ⟨q1,q2.trans (by simp)⟩
def GH (P:Program) (B:Nat) (ι:aO) (h:NH) (w:World) (fr0:Frame) (c:Frame) (cs:List Frame):CR->Prop
 | .fail=>True
 | .val v _ h'=>∃ι' v' w',VR ι' v v'/\Rel P ι' B h' w'/\B<=w'.heap.size/\Grow ι h w ι' h' w'/\Steps P (lone fr0 (c::cs) w) (lone (c.finish v') cs w')
 | .pan v _ h'=>∃ι' v' w',VR ι' v v'/\Rel P ι' B h' w'/\B<=w'.heap.size/\Grow ι h w ι' h' w'/\Steps P (lone fr0 (c::cs) w) (lone (c.raise [{v:=v',recovered:=false}]) cs w')
theorem jy {n:Nat} (hO:fR P S n) (ι:aO) (B:Nat) (h:NH) (w:World) (l:D4) (p:Pl) (args:List NV) (args':List Value) (hR:Rel P ι B h w) (hB:B<=w.heap.size) (ha:VRL ι args args') (hp:ι l=some p):
 pe P ι B h w ((Instr.yield p.b args'.toArray).run P w) (round (ev P S n) l args h):=by
 by_cases hne:round (ev P S n) l args h= .fail
 ·rw[hne];trivial
 generalize hrr:round (ev P S n) l args h=r at hne
 have hrr':=hrr
 unfold round at hrr'
 obtain ⟨ob,ho1,ho2⟩:=hR.obj _ _ hp
 rw[ho1] at hrr'
 cases ob with
 |loop st pd tm ps na nb=>
  cases st with
  |succ st=>exact I8 hrr'.symm hne
  |zero=>
   obtain ⟨L,l1,l2,l3,l4,l5,l6,l7,⟨fn,bl,la,lb,l8,l9,l10,l11,_⟩,l12⟩:=ho2
   obtain ⟨hlen,hrr2⟩:=jr hne hrr'
   have hsz:args'.toArray.size=L.params.size:=by
    have:=ha.length
    rw[l5] at hlen
    simp at hlen ⊢;omega
   have hy:=run_yield (P:=P) l1 hsz
   obtain ⟨t1,t2⟩:=xH (ps:=L.params.toList) ha l4 l12
   have hz:(L.params.zip args'.toArray).foldl (fun tmps (t,a)=>tmps.setIfInBounds t a) L.tmps=(L.params.toList.zip args').foldl (fun tmps (t,a)=>tmps.setIfInBounds t a) L.tmps:=by
    rw[←Array.foldl_toList,Array.toList_zip]
   rw[hz] at hy
   rw[←l5] at t1
   generalize (L.params.toList.zip args').foldl (fun tmps (t,a)=>tmps.setIfInBounds t a) L.tmps=tmps at hy t1 t2
   let b:Frame:={(default:Frame) with fn:=L.fn,kind:= .normal,roundOf:=some p.b}
   have hfr:Frame.round p.b L.fn tmps L.assign L.body .normal=b.atR {tmps:=tmps,defers:= []} [.code L.assign,.beginRound,.code L.body]:=by
    simp[Frame.round,Frame.atR,b]
   cases hev:ev P S n (some l) na ⟨lG ps args tm, [],none,h⟩ with
   |fail=>rw[hev] at hrr2;exact I8 hrr2.symm hne
   |mk o d=>
    rw[hev] at hrr2
    cases o with
    |norm=>
     dsimp only at hrr2
     cases hdd:d.dfs with
     |cons x xs=>rw[hdd] at hrr2;exact I8 hrr2.symm hne
     |nil=>
      rw[hdd] at hrr2
      have hrb:bW (ev P S n) l nb d.t d.h=r:=hrr2
      have main:∀(c:Frame) (cs:List Frame),GH P B ι h w (Frame.round p.b L.fn tmps L.assign L.body .normal) c cs r:=by
       intro c cs
       have hctx:∀ι:aO,pz ι b.kind (c::cs) none:=fun ι b' hb'=>by unfold tryRecover;rw[hb']
       have hs:Sd P ι B (some l) [] none h b ([]:List Deferred) (c::cs) w:=⟨trivial,hctx ι,hR,hB,⟨p,hp,rfl⟩⟩
       have hgo:=hO L.assign na fn [] [] l6 l10 (some l) ⟨lG ps args tm, [],none,h⟩ .norm d hev (.code L.assign) (.inl rfl) B b [.beginRound,.code L.body] ι {tmps:=tmps,defers:= []} (c::cs) w l8 t1 hs (by rw[t2];exact l9)
       obtain ⟨ι1,a1,cs1,w1,g1,g2,g3,g4⟩:=hgo
       obtain ⟨rfl,hctx1⟩:=g3.ca.none
       have sd1:=g3.sd
       have hdef1:a1.defers= []:=by
        have:=sd1.df
        rw[hdd] at this
        cases hq:a1.defers with
        |nil=>rfl
        |cons d ds=>rw[hq] at this;exact this.elim
       have hp1:ι1 l=some p:=g3.gr.le _ _ hp
       obtain ⟨ob1,ho3,ho4⟩:=sd1.rel.obj _ _ hp1
       have hrb':=hrb
       unfold bW at hrb'
       rw[ho3] at hrb'
       cases ob1 with
       |loop st1 pd1 tm1 ps1 na1 nb1=>
        cases st1 with
        |succ st1=>exact I8 hrb'.symm hne
        |zero=>
         replace hrb':d.h.set l (.loop 1 pd1 tm1 ps1 na1 nb1) (fun h=>match ev P S n (some l) nb ⟨d.t, [],none,h⟩ with
          | .mk o d=>(match o with
           | .pan v=>(match d.dfs with| []=>CR.pan v none d.h|_=> .fail)
           |o=>cP l o d.h)
          | .fail=> .fail)=r:=hrb'
         rw[NH.set_eq] at hrb'
         obtain ⟨L1,m1,m2,m3⟩:=ho4
         have hbr:=run_beginRound (P:=P) m1 m2
         have hlt1:=sd1.rel.lt _ _ hp1
         have hst1:SR 1 ({L1 with state:= .busy}:Loop).state:=rfl
         obtain ⟨u1,u2⟩:=sd1.rel.turn (w':=w1.putObj p.b (.loop {L1 with state:= .busy})) hp1 (by rw[ho3];simp) (.loop 1 pd1 tm1 ps1 na1 nb1)
          ⟨_,World.putObj_heap_same hlt1,hst1,m3⟩ (by simp) rfl rfl rfl (fun q hq=>World.putObj_heap_other hq)
         have hbeg:=stepR_beginRound (P:=P) (b:=b) (a:=a1) (k:= [.code L.body]) (cs:=c::cs) rfl hbr
         have hs2:Sd P ι1 B (some l) [] none (d.h.put l (.loop 1 pd1 tm1 ps1 na1 nb1)) b a1.defers (c::cs) (w1.putObj p.b (.loop {L1 with state:= .busy})):=
          ⟨by rw[hdef1];trivial,hctx ι1,u1,by simpa using sd1.base,⟨p,hp1,rfl⟩⟩
         generalize w1.putObj p.b (.loop {L1 with state:= .busy})=w2 at *
         generalize d.h.put l (.loop 1 pd1 tm1 ps1 na1 nb1)=h2 at *
         cases hev2:ev P S n (some l) nb ⟨d.t, [],none,h2⟩ with
         |fail=>rw[hev2] at hrb';exact I8 hrb'.symm hne
         |mk o2 d2=>
          rw[hev2] at hrb'
          have hgo2:=hO L.body nb fn bl la l7 l11 (some l) ⟨d.t, [],none,h2⟩ o2 d2 hev2 (.code L.body) (.inl rfl) B b [] ι1 a1 (c::cs) w2 l8 g2 hs2 (by rw[g4,t2];exact l9)
          obtain ⟨ι3,a3,cs3,w3,e1,e2,e3,e4⟩:=hgo2
          obtain ⟨rfl,_⟩:=e3.ca.none
          have hp3:ι3 l=some p:=e3.gr.le _ _ hp1
          have hpre:Steps P (lone (Frame.round p.b L.fn tmps L.assign L.body .normal) (c::cs) w) (lone (b.atR a1 [.code L.body]) (c::cs) w2):=by
           rw[hfr];exact Steps.trans g1 (.one hbeg)
          have hgr:=(g3.gr.trans u2).trans e3.gr
          have fin:∀(jump:Option Code) (st':Nat) (pd':Jump),cP l o2 d2.h=r->(∀tm ps na nb,(match o2 with
           | .norm=>(d2.h.set l (.loop 0 .none tm ps na nb) fun h=>CR.val (.bool true) none h)
           | .ret=>d2.h.set l (.loop 2 .ret tm ps na nb) fun h=> .val (.bool false) none h
           | .exit id=>d2.h.set l (.loop 2 (.exit id) tm ps na nb) fun h=> .val (.bool false) none h
           | .pan _=> .fail)= .val (.bool jump.isNone) none (d2.h.put l (.loop st' pd' tm ps na nb)))->
           (SR st' (if jump.isNone then .ready else .done))->JR pd' jump->
           (∀(v:Value) (w4:World),(Instr.endRound p.b jump).run P w3= .ok v w4->Steps P (lone (b.atR a1 [.code L.body]) (c::cs) w2) (lone (c.finish v) cs w4))->
           GH P B ι h w (Frame.round p.b L.fn tmps L.assign L.body .normal) c cs r:=by
           intro jump st' pd' hre hval hSR hJR hsteps
           unfold cP at hre
           obtain ⟨ob3,ho5,ho6⟩:=e3.sd.rel.obj _ _ hp3
           rw[ho5] at hre
           cases ob3 with
           |loop st3 pd3 tm3 ps3 na3 nb3=>
            have hre':=(hval tm3 ps3 na3 nb3).symm.trans hre
            rw[←hre']
            obtain ⟨L3,k1,k2,k3,k4⟩:=ho6
            have hend:=run_endRound (P:=P) jump k1
            have hlt3:=e3.sd.rel.lt _ _ hp3
            obtain ⟨z1,z2⟩:=e3.sd.rel.turn (w':=w3.putObj p.b (.loop {L3 with state:=if jump.isNone then .ready else .done,pending:=jump})) hp3 (by rw[ho5];simp) (.loop st' pd' tm3 ps3 na3 nb3)
             ⟨_,World.putObj_heap_same hlt3,hSR,hJR,k4⟩ (by simp) rfl rfl rfl (fun q hq=>World.putObj_heap_other hq)
            exact ⟨ι3,.bool jump.isNone,_,.bool _,z1,by simpa using e3.sd.base,hgr.trans z2,hpre.trans (hsteps _ _ hend)⟩
           |_=>exact I8 hre.symm hne
          cases o2 with
          |norm=>
           exact fin none 0 .none hrb' (fun tm ps na nb=>NH.set_eq _ _ _ _) rfl rfl fun v w4 he=>Steps.trans e1 (.one (stepR_round_end rfl rfl he))
          |ret=>
           obtain ⟨k0,e1⟩:=e1
           exact fin (some .ret) 2 .ret hrb' (fun tm ps na nb=>NH.set_eq _ _ _ _) rfl rfl fun v w4 he=>Steps.trans e1 (.one (stepR_round_ret rfl rfl he))
          |exit id=>
           obtain ⟨k0,e0,e1⟩:=e1
           exact fin (some (.exit id)) 2 (.exit id) hrb' (fun tm ps na nb=>NH.set_eq _ _ _ _) rfl rfl fun v w4 he=>Steps.trans e1 (.one (stepR_round_exit rfl rfl (by rw[e0];rfl) he))
          |pan v=>
           dsimp only at hrb'
           cases hd2:d2.dfs with
           |cons x xs=>rw[hd2] at hrb';exact I8 hrb'.symm hne
           |nil=>
            rw[hd2] at hrb'
            rw[←show CR.pan v none d2.h=r from hrb']
            obtain ⟨td,v',f1,f2⟩:=e1
            have hdef3:a3.defers= []:=by
             have:=e3.sd.df
             rw[hd2] at this
             cases hq:a3.defers with
             |nil=>rfl
             |cons d ds=>rw[hq] at this;exact this.elim
            refine ⟨ι3,v',w3,f1,e3.sd.rel,e3.sd.base,hgr,hpre.trans (Steps.trans f2 (.one (step_leave_panicked ⟨rfl,hdef3,fn,l8⟩)))⟩
       |_=>exact I8 hrb'.symm hne
      cases r with
      |fail=>trivial
      |val v x h'=>
       intro c cs
       obtain ⟨ι',v',w',q1,q2,q3,q4,q5⟩:=main c cs
       exact ⟨ι',v',w',q1,q2,q3,q4,.inr ⟨w,.inr ⟨p.b,L.fn,tmps,L.assign,L.body,hy,q5⟩⟩⟩
      |pan v x h'=>
       intro c cs
       obtain ⟨ι',v',w',q1,q2,q3,q4,q5⟩:=main c cs
       exact ⟨ι',v',w',q1,q2,q3,q4,w,.inr ⟨p.b,L.fn,tmps,L.assign,L.body,hy,q5⟩⟩
    |_=>exact I8 hrr2.symm hne
 |_=>exact I8 hrr'.symm hne
theorem kI (hM:P.follows .mixedOrders=true) (hK:iX P) (hS:aX P S):∀n,fR P S n/\CallsOK P S (ev P S n):=by
 intro n
 induction n with
 |zero=>
  have h0:fR P S 0:=fun c nc fn bl la _ _ rnd d o d' h=>by cases h
  exact ⟨h0,⟨lw hK hS h0,jy h0⟩⟩
 |succ n ih=>
  have h1:fR P S (n+1):=tT hM ih.1 ih.2
  exact ⟨h1,⟨lw hK hS h1,jy h1⟩⟩
end
end Nm
namespace Nm
open Go Go.RowKit
noncomputable def wI (cf:Nat->Option NFn) (S:Nat->List NV->Option NV) (n f:Nat) (args:List NV):CR:=bZ cf (ev cf S n) 3 f args none ⟨.leaf,.e⟩
def ι0:aO:=fun _=>none
theorem FV (P:Program) (w:World):Rel P ι0 w.heap.size ⟨.leaf,.e⟩ w where
 obj:=fun i p h=>by cases h
 inj:=fun i j p q h=>by cases h
 base:=fun i p h=>by cases h
 lt:=fun i p h=>by cases h
 fresh:=fun i o h=>by rw[show NH.get ⟨.leaf,.e⟩ i=NT.get i .leaf from rfl,NT.get_leaf] at h;cases h
theorem xI {P:Program} {S:Nat->List NV->Option NV} (hM:P.follows .mixedOrders=true) (hP:P.check= .ok ()) (hS:aX P S) {n f:Nat} {args:List NV} {v:NV} {x:Option NV} {h:NH} (hr:wI P S n f args= .val v x h) {args':List Value} (ha:VRL ι0 args args') (w:World):
 Calls P f args'.toArray w fun e w'=>(∃ι v',e= .returned v'/\VR ι v v'/\Rel P ι w.heap.size h w')/\Below w.heap.size w w':=by
 intro cs
 obtain ⟨hO,_⟩:=kI hM (iW hP) hS n
 have hD:=fL (iW hP) hO 3 f args none ⟨.leaf,.e⟩
 obtain ⟨_,hF⟩:=hD (by rw[show bZ P (ev P S n) 3 f args none ⟨.leaf,.e⟩= .val v x h from hr];simp)
 have hF:=hF w.heap.size ι0 w args' .normal cs (FV P w) (Nat.le_refl _) ha (fun b hb=>by unfold tryRecover;rw[hb])
 rw[show bZ P (ev P S n) 3 f args none ⟨.leaf,.e⟩= .val v x h from hr] at hF
 obtain ⟨ι',v',w',cs',fr,f1,f2,f3,f4,f5,f6,f7,f8,f9⟩:=hF
 obtain ⟨rfl,_⟩:=f5.none
 refine ⟨.returned v',w',fr,⟨⟨ι',v',rfl,f1,f2⟩,⟨f4.os,f4.tape,f4.output,f4.size,fun k hk=>f4.frame k hk fun i p hi=>by cases hi⟩⟩,f6,f8,di f7 f9⟩
end Nm
namespace Nm
open Go Go.RowKit
mutual
def dw:NV->Bool
 | .bool _| .int _ _| .str _| .nilp| .nils| .nilm| .nilf| .nili=>true
 | .ifc _ v=>dw v
 | .agg l=>gH l
 | .tup l=>gH l
 |_=>false
def gH:List NV->Bool
 | []=>true
 |v::l=>dw v&&gH l
end
mutual
theorem VR.plain {ι ι':aO}:∀{v:NV} {v':Value},VR ι v v'->dw v=true->VR ι' v v'
 |_,_,.bool b,_=> .bool b
 |_,_,.int k n,_=> .int k n
 |_,_,.str l s h,_=> .str l s h
 |_,_,.nilp,_=> .nilp
 |_,_,.ptr ..,h=>by simp[dw] at h
 |_,_,.nils,_=> .nils
 |_,_,.slc ..,h=>by simp[dw] at h
 |_,_,.nilm,_=> .nilm
 |_,_,.map ..,h=>by simp[dw] at h
 |_,_,.nilf,_=> .nilf
 |_,_,.fn ..,h=>by simp[dw] at h
 |_,_,.yld ..,h=>by simp[dw] at h
 |_,_,.nili,_=> .nili
 |_,_,.ifc t v v' h,k=> .ifc t v v' (VR.plain h (by simpa [dw] using k))
 |_,_,.agg l l' h h1,k=> .agg l l' (VRL.plain h (by simpa [dw] using k)) h1
 |_,_,.tup l l' h,k=> .tup l l' (VRL.plain h (by simpa [dw] using k))
theorem VRL.plain {ι ι':aO}:∀{l:List NV} {l':List Value},VRL ι l l'->gH l=true->VRL ι' l l'
 |_,_,.nil,_=> .nil
 |_,_,.cons v v' l l' h hl,k=> .cons v v' l l' (VR.plain h (by simp[gH] at k;exact k.1)) (VRL.plain hl (by simp[gH] at k;exact k.2))
end
variable {P:Program} {f:Nat} {args:List NV} {S:Nat->List NV->Option NV}
noncomputable def aV (f:Nat) (args:List NV) (v:NV) (S:Nat->List NV->Option NV):Nat->List NV->Option NV:=fun g l=>
 cond (Nat.beq g f) (cond (fM (bp 3) l args) (some v) (S g l)) (S g l)
noncomputable def bg (cf:Nat->Option NFn) (S:Nat->List NV->Option NV) (n f:Nat) (args:List NV) (v:NV):Bool:=
 match wI cf S n f args with
 | .val u _ _=>cond (gH args) (cond (dw v) (bp 5 u v) false) false
 |_=>false
theorem pi  {self:Option D4->NC->Dyn->Res} {d:Nat} {ctx:Option NV} {h:NH} (hn:bZ P self d f args ctx h≠.fail):∃nf,ai P f=some (.code nf):=by
 cases d with
 |zero=>exact I8 rfl hn
 |succ d=>
  rw[d5] at hn
  cases hc:ai P f with
  |none=>rw[hc] at hn;exact I8 rfl hn
  |some x=>
   cases x with
   |code nf=>exact ⟨nf,rfl⟩
   |ext e=>rw[hc] at hn;exact I8 rfl hn
theorem aM  (hM:P.follows .mixedOrders=true) (hP:P.check= .ok ()) (hS:aX P S) {n:Nat} {v:NV} (hr:bg P S n f args v=true):aX P (aV f args v S):=by
 intro ι B h w g l l' u hg hR hB hl
 have hg':cond (Nat.beq g f) (cond (fM (bp 3) l args) (some v) (S g l)) (S g l)=some u:=hg
 by_cases h1:Nat.beq g f=true/\fM (bp 3) l args=true
 ·obtain ⟨h2,h3⟩:=h1
  rw[h2,h3] at hg'
  cases hg'
  have:=Jf h2
  subst this
  have:=iH (ix 3) h3
  subst this
  unfold bg at hr
  split at hr
  ·rename_i u x h0 hrun
   obtain ⟨p1,hr⟩:=dP hr
   obtain ⟨p2,hr⟩:=dP hr
   have:=ix _ _ _ hr
   subst this
   intro c cs
   have hcalls:=xI hM hP hS hrun (hl.plain p1) w
   obtain ⟨e,w',fr,⟨⟨ι1,v',he,hv,_⟩,hb⟩,hcomes,hfn,hleave⟩:=hcalls (c::cs)
   subst he
   obtain ⟨nf,hnf⟩:=pi (show bZ P (ev P S n) 3 g l none ⟨.leaf,.e⟩≠.fail by rw[show bZ P (ev P S n) 3 g l none ⟨.leaf,.e⟩=_ from hrun];simp)
   obtain ⟨fn,code,e1,e2,e3,_⟩:=gg hnf
   refine ⟨ι,v',w',hv.plain p2,⟨fun i p hi=> ?_,hR.inj,hR.base,fun i p hi=>Nat.lt_of_lt_of_le (hR.lt i p hi) hb.size,hR.fresh⟩,Nat.le_trans hB hb.size, ?_,.inr ⟨w,.inl ⟨g,l'.toArray,jj e1 e2 e3 _ w,Steps.trans hcomes (.one (step_leave_returned hleave))⟩⟩⟩
   ·obtain ⟨o,o1,o2⟩:=hR.obj i p hi
    exact ⟨o,o1,o2.mono (aO.le_refl _) (hb.block _ (hR.lt i p hi))⟩
   ·exact ⟨aO.le_refl _,Nat.le_refl _,fun _ _ x=> .inl x,fun i p x y=> .inr ⟨i,p,x,y,rfl⟩,fun _ _ _=>rfl,hb.size,hb.os,hb.tape,hb.output,fun b hb' _=>hb.block b hb'⟩
  ·cases hr
 ·have:S g l=some u:=by
   cases h2:Nat.beq g f with
   |false=>rw[h2] at hg';exact hg'
   |true=>
    rw[h2] at hg'
    cases h3:fM (bp 3) l args with
    |false=>rw[h3] at hg';exact hg'
    |true=>exact I8 ⟨h2,h3⟩ h1
  exact hS ι B h w g l l' u this hR hB hl
noncomputable def ak (P:Program) (k:Nat) (nf:NFun) (f:Nat):Option NFn:=cond (Nat.beq f k) (some (.code nf)) (ai P f)
noncomputable def am (m:Nat) (a b:Nat->Option NFn) (f:Nat):Option NFn:=cond (Nat.ble f m) (a f) (b f)
def gX (P:Program) (cf:Nat->Option NFn):Prop:=∀f,cf f=ai P f
theorem af  {k:Nat} {nf:NFun} (h:ai P k=some (.code nf)):gX P (ak P k nf):=fun f=>by
 unfold ak
 cases hb:Nat.beq f k with
 |false=>rfl
 |true=>rw[Jf hb];exact h.symm
theorem ag  {m:Nat} {a b:Nat->Option NFn} (ha:gX P a) (hb:gX P b):gX P (am m a b):=fun f=>by
 unfold am
 cases Nat.ble f m with
 |false=>exact hb f
 |true=>exact ha f
theorem gX.kept  {cf:Nat->Option NFn} (h:gX P cf) {n:Nat} {v:NV} (hr:bg cf S n f args v=true):bg P S n f args v=true:=by
 have e:cf=ai P:=funext h
 rw[e] at hr;exact hr
end Nm
namespace Nm
open Go Go.RowKit
variable {o:Out} {m:NH} {d1 d d':Dyn} {t:Tm} {dfs:List Dfr} {x y:NC} {f:Nat} {l:List NOper} {args:List NV} {v:NV} {rnd dst:Option D4}
def Le (a b:Option D4->NC->Dyn->Res):Prop:=∀r c d o d',a r c d= .mk o d'->b r c d= .mk o d'
section
variable {P:Program} {S:Nat->List NV->Option NV} {a b:Option D4->NC->Dyn->Res}
theorem fQ {F G:Nat->List NV->Option NV->NH->CR} (h:∀f l p m r,F f l p m=r->r≠.fail->G f l p m=r) {K:Option NV->NH->CR}:∀(l:List Dfr) (p:Option NV) (m:NH) (r:CR),unwind F K l p m=r->r≠.fail->unwind G K l p m=r:=by
 intro l
 induction l with
 |nil=>exact fun p m r e _=>e
 |cons c l ih=>
  intro p m r e hr
  rw[jz] at e ⊢
  cases c with
  |mark id=>
   dsimp only at e ⊢
   split at e
   ·exact ih _ _ _ e hr
   ·exact I8 e.symm hr
  |call f cap=>
   dsimp only at e ⊢
   cases hf:F f cap p m with
   |fail=>rw[hf] at e;exact I8 e.symm hr
   |pan v x m'=>rw[hf] at e;exact I8 e.symm hr
   |val v x m'=>
    rw[hf] at e
    rw[h f cap p m _ hf (by simp)]
    exact ih _ _ _ e hr
theorem qO (h:Le a b):∀(d f:Nat) (l:List NV) (p:Option NV) (m:NH) (r:CR),bZ P a d f l p m=r->r≠.fail->bZ P b d f l p m=r:=by
 intro d
 induction d with
 |zero=>intro f l p m r e hr;exact I8 e.symm hr
 |succ d ih=>
  intro f l p m r e hr
  rw[d5] at e ⊢
  cases hc:ai P f with
  |none=>rw[hc] at e;exact I8 e.symm hr
  |some x=>
   cases x with
   |ext x=>rw[hc] at e;exact I8 e.symm hr
   |code nf=>
    rw[hc] at e
    dsimp only at e ⊢
    cases ha:a none nf.body ⟨cX l 0 .leaf, [],p,m⟩ with
    |fail=>rw[ha] at e;exact I8 e.symm hr
    |mk o d'=>
     rw[ha] at e
     rw[h _ _ _ _ _ ha]
     cases o with
     |norm=>exact fQ (fun f l p m r=>ih f l p m r) _ _ _ _ e hr
     |ret=>exact fQ (fun f l p m r=>ih f l p m r) _ _ _ _ e hr
     |pan v=>exact fQ (fun f l p m r=>ih f l p m r) _ _ _ _ e hr
     |exit id=>exact I8 e.symm hr
theorem cJ (h:Le a b) {l:List NV} {r:CR} (e:bJ P S a f l m=r) (hr:r≠.fail):bJ P S b f l m=r:=by
 unfold bJ at e ⊢
 cases hs:S f l with
 |some v=>rw[hs] at e;exact e
 |none=>
  rw[hs] at e
  dsimp only at e ⊢
  cases hc:ai P f with
  |none=>rw[hc] at e;exact e
  |some x=>
   rw[hc] at e
   cases x with
   |ext x=>exact e
   |code nf=>exact qO h _ _ _ _ _ _ e hr
theorem kQ (h:Le a b) {l:D4} {bd:NC} {r:CR} (e:bW a l bd t m=r) (hr:r≠.fail):bW b l bd t m=r:=by
 unfold bW at e ⊢
 split at e
 ·rename_i p tm ps assign body hm
  rw[NH.set_eq] at e ⊢
  cases ha:a (some l) bd ⟨t, [],none,m.put l (.loop 1 p tm ps assign body)⟩ with
  |fail=>rw[ha] at e;exact I8 e.symm hr
  |mk o d=>rw[ha] at e;rw[h _ _ _ _ _ ha];exact e
 ·exact I8 e.symm hr
theorem dR (h:Le a b) {l:D4} {r:CR} (e:round a l args m=r) (hr:r≠.fail):round b l args m=r:=by
 unfold round at e ⊢
 split at e
 ·rename_i x tm ps assign body hm
  obtain ⟨h1,h2⟩:=jr hr e
  have key:∀K:Tm->CR,cQ .fail ps args tm K=K (lG ps args tm):=by
   clear e h2 hm
   intro K
   induction ps generalizing args tm with
   |nil=>cases args with
    |nil=>rfl
    |cons=>simp at h1
   |cons q ps ih=>
    cases args with
    |nil=>simp at h1
    |cons v vs=>
     have e:cQ .fail (q::ps) (v::vs) tm K=NT.set q v tm fun t=>cQ .fail ps vs t K:=rfl
     rw[e,NT.set_eq]
     exact ih _ (by simpa using h1)
  rw[key]
  cases ha:a (some l) assign ⟨lG ps args tm, [],none,m⟩ with
  |fail=>rw[ha] at h2;exact I8 h2.symm hr
  |mk o d=>
   rw[ha] at h2
   rw[h _ _ _ _ _ ha]
   cases o with
   |norm=>
    dsimp only at h2 ⊢
    split at h2
    ·exact kQ h h2 hr
    ·exact I8 h2.symm hr
   |_=>exact I8 h2.symm hr
 ·exact I8 e.symm hr
theorem j4 (h:Le a b) {ctx:Option NV} {x:NR} {r:OpO} (e:c7 P S a rnd dfs ctx m x=r) (hr:r≠.fail):c7 P S b rnd dfs ctx m x=r:=by
 cases x with
 |call f l=>
  have e':s9 dfs ctx (bJ P S a f l m)=r:=e
  have hn:bJ P S a f l m≠.fail:=fun hh=>by rw[hh] at e';exact hr e'.symm
  show s9 dfs ctx (bJ P S b f l m)=r
  rw[cJ h rfl hn];exact e'
 |yld l args=>
  have e':s9 dfs ctx (round a l args m)=r:=e
  have hn:round a l args m≠.fail:=fun hh=>by rw[hh] at e';exact hr e'.symm
  show s9 dfs ctx (round b l args m)=r
  rw[dR h rfl hn];exact e'
 |_=>exact e
theorem xd  {K L:Dyn->Res} (hk:∀d o d',K d= .mk o d'->L d= .mk o d') {ctx:Option NV} {x:OpO} (e:tu dst K t dfs ctx x= .mk o d'):tu dst L t dfs ctx x= .mk o d':=by
 cases x with
 |fail=>cases e
 |next v dfs ctx h=>exact hk _ _ _ e
 |pan v h=>exact e
theorem DW  {K:Dyn->Res} {ctx:Option NV} {x:OpO} (e:tu dst K t dfs ctx x= .mk o d'):x≠.fail:=by
 rintro rfl;cases e
theorem fH (h:Le a b):∀(l:List NOper) (d:Dyn) (o:Out) (d':Dyn),cp P S a rnd l d= .mk o d'->cp P S b rnd l d= .mk o d':=by
 intro l
 induction l with
 |nil=>exact fun d o d' e=>e
 |cons x l ih=>
  rintro ⟨t,dfs,ctx,m⟩ o d' e
  rw[b9] at e ⊢
  cases hg:av t x.guard with
  |none=>rw[hg] at e;cases e
  |some on=>
   rw[hg] at e
   cases on with
   |false=>exact ih _ _ _ e
   |true=>
    dsimp only at e ⊢
    rw[j4 h rfl (DW e)]
    exact xd ih e
theorem jg (h:Le a b):∀(l:List NOper) (hs:List (Nat×NH)) (rs:List (Nat×(NH->NR)×NV)) (d:Dyn) (o:Out) (d':Dyn),bA P S a rnd l hs rs d= .mk o d'->bA P S b rnd l hs rs d= .mk o d':=by
 intro l
 induction l with
 |nil=>exact fun hs rs d o d' e=>e
 |cons x l ih=>
  rintro hs rs ⟨t,dfs,ctx,m⟩ o d' e
  rw[bE] at e ⊢
  cases hg:av t x.guard with
  |none=>rw[hg] at e;cases e
  |some on=>
   rw[hg] at e
   cases on with
   |false=>exact ih _ _ _ _ _ e
   |true=>
    dsimp only at e ⊢
    cases hcl:ao x.op with
    |pure=>
     rw[hcl] at e
     dsimp only at e ⊢
     cases hop:ae x.op t m<;>rw[hop] at e<;>first|exact ih _ _ _ _ _ e|cases e
    |alloc=>
     rw[hcl] at e
     dsimp only at e ⊢
     cases ha:ahead x.pre hs with
     |false=>rw[ha] at e;cases e
     |true=>
      rw[ha] at e
      simp only[cond_true] at e ⊢
      cases hop:ae x.op t m<;>rw[hop] at e<;>first|exact ih _ _ _ _ _ e|cases e
    |read=>
     rw[hcl] at e
     dsimp only at e ⊢
     cases hop:ae x.op t m with
     |val v=>
      rw[hop] at e
      dsimp only at e ⊢
      cases hst:dD x.pre (ae x.op t) v hs with
      |false=>rw[hst] at e;cases e
      |true=>rw[hst] at e;exact ih _ _ _ _ _ e
     |_=>rw[hop] at e;cases e
    |eff=>
     rw[hcl] at e
     dsimp only at e ⊢
     cases ha:ahead x.pre hs with
     |false=>rw[ha] at e;cases e
     |true=>
      rw[ha] at e
      simp only[cond_true] at e ⊢
      have hk:∀d o d',cond (aT x.pre d.h rs) (bA P S a rnd l ((x.idx,m)::hs) rs d) .fail= .mk o d'->cond (aT x.pre d.h rs) (bA P S b rnd l ((x.idx,m)::hs) rs d) .fail= .mk o d':=by
       intro d o d' e
       cases hs':aT x.pre d.h rs with
       |false=>rw[hs'] at e;cases e
       |true=>rw[hs'] at e;exact ih _ _ _ _ _ e
      have hne:c7 P S a rnd dfs ctx m (ae x.op t m)≠.fail:=by
       intro hh
       rw[hh] at e
       cases e
      rw[j4 h rfl hne]
      cases hoo:c7 P S a rnd dfs ctx m (ae x.op t m) with
      |fail=>exact I8 hoo hne
      |pan v m'=>rw[hoo] at e;exact e
      |next v dfs1 ctx1 m'=>
       rw[hoo] at e
       have e':cq (bO x.idx l) (cond (aT x.pre m' rs) (bA P S a rnd l ((x.idx,m)::hs) rs ⟨aF x.dst v t,dfs1,ctx1,m'⟩) .fail)= .mk o d':=e
       show cq (bO x.idx l) (cond (aT x.pre m' rs) (bA P S b rnd l ((x.idx,m)::hs) rs ⟨aF x.dst v t,dfs1,ctx1,m'⟩) .fail)= .mk o d'
       cases hin:cond (aT x.pre m' rs) (bA P S a rnd l ((x.idx,m)::hs) rs ⟨aF x.dst v t,dfs1,ctx1,m'⟩) .fail with
       |fail=>rw[hin] at e';cases e'
       |mk o2 d2=>
        have:=hk ⟨aF x.dst v t,dfs1,ctx1,m'⟩ o2 d2 hin
        rw[hin] at e'
        rw[show cond (aT x.pre m' rs) (bA P S b rnd l ((x.idx,m)::hs) rs ⟨aF x.dst v t,dfs1,ctx1,m'⟩) .fail= .mk o2 d2 from this]
        exact e'
theorem ij (h:Le a b) {cap:List NV} {ps:List D4} {ctx:Option NV} (e:bL P S a f cap ps x y t dfs ctx m= .mk o d'):bL P S b f cap ps x y t dfs ctx m= .mk o d':=by
 unfold bL at e ⊢
 rw[NH.new_eq] at e ⊢
 cases hc:bJ P S a f (.yld m.next::cap) (m.add (.loop 0 .none t ps x y)) with
 |fail=>rw[hc] at e;cases e
 |val v c m'=>rw[hc] at e;rw[cJ h hc (by simp)];exact e
 |pan v c m'=>rw[hc] at e;rw[cJ h hc (by simp)];exact e
theorem qS (h:Le a b):Le (cL P S a) (cL P S b):=by
 intro r c d o d' e
 cases c with
 |skip=>exact e
 |reg l=>exact fH h _ _ _ _ e
 |regD l=>
  have e':(match bA P S a r l [] [] d with| .mk (.pan v) d=>Res.mk (.pan v) ⟨kB l d.t,d.dfs,d.ctx,d.h⟩|r=>r)= .mk o d':=e
  show (match bA P S b r l [] [] d with| .mk (.pan v) d=>Res.mk (.pan v) ⟨kB l d.t,d.dfs,d.ctx,d.h⟩|r=>r)= .mk o d'
  cases hr:bA P S a r l [] [] d with
  |fail=>rw[hr] at e';cases e'
  |mk o2 d2=>rw[hr] at e';rw[jg h _ _ _ _ _ _ hr];exact e'
 |seq x y=>
  have e':(match a r x d with| .mk o d=>(match o with| .norm=>a r y d|o=> .mk o d)| .fail=> .fail)=Res.mk o d':=(qx (cf:=P) (S:=S)).symm.trans e
  refine (qx (cf:=P) (S:=S)).trans ?_
  show (match b r x d with| .mk o d=>(match o with| .norm=>b r y d|o=> .mk o d)| .fail=> .fail)=Res.mk o d'
  cases hx:a r x d with
  |fail=>rw[hx] at e';cases e'
  |mk o2 d2=>
   rw[hx] at e'
   rw[h _ _ _ _ _ hx]
   cases o2 with
   |norm=>exact h _ _ _ _ _ e'
   |_=>exact e'
 |cond g x y=>
  have e':(match ρ d.t g with|some (.bool c)=>(Bool.rec (a r y d) (a r x d) c:Res)|_=> .fail)=Res.mk o d':=(nA (cf:=P) (S:=S)).symm.trans e
  refine (nA (cf:=P) (S:=S)).trans ?_
  show (match ρ d.t g with|some (.bool c)=>(Bool.rec (b r y d) (b r x d) c:Res)|_=> .fail)=Res.mk o d'
  cases hg:ρ d.t g with
  |none=>rw[hg] at e';cases e'
  |some v=>
   rw[hg] at e'
   cases v with
   |bool q=>cases q<;>exact h _ _ _ _ _ e'
   |_=>cases e'
 |block id x=>
  have e':(match a r x d with| .mk o d=>(match o with| .exit i=>cond (Nat.beq i id) (.mk .norm d) (.mk (.exit i) d)|o=> .mk o d)| .fail=> .fail)=Res.mk o d':=(kj (cf:=P) (S:=S)).symm.trans e
  refine (kj (cf:=P) (S:=S)).trans ?_
  show (match b r x d with| .mk o d=>(match o with| .exit i=>cond (Nat.beq i id) (.mk .norm d) (.mk (.exit i) d)|o=> .mk o d)| .fail=> .fail)=Res.mk o d'
  cases hx:a r x d with
  |fail=>rw[hx] at e';cases e'
  |mk o2 d2=>rw[hx] at e';rw[h _ _ _ _ _ hx];exact e'
 |loop x=>
  have e':(match a r x d with| .mk o d=>(match o with| .norm=>a r (.loop x) d|o=> .mk o d)| .fail=> .fail)=Res.mk o d':=(mP (cf:=P) (S:=S)).symm.trans e
  refine (mP (cf:=P) (S:=S)).trans ?_
  show (match b r x d with| .mk o d=>(match o with| .norm=>b r (.loop x) d|o=> .mk o d)| .fail=> .fail)=Res.mk o d'
  cases hx:a r x d with
  |fail=>rw[hx] at e';cases e'
  |mk o2 d2=>
   rw[hx] at e'
   rw[h _ _ _ _ _ hx]
   cases o2 with
   |norm=>exact h _ _ _ _ _ e'
   |_=>exact e'
 |rangeFunc f ps x y=>
  obtain ⟨t,dfs,ctx,m⟩:=d
  have e':(match ρ t f with
   |some (.fn f cap)=>(match (generalizing:=false) r with
    |none=>m.new (.defd true) fun q m=>bL P S a f cap ps x y t (.mark q::dfs) ctx m
    |some l=>(match m.get l with
     |some (.loop ..)=>bL P S a f cap ps x y t dfs ctx m
     |_=> .fail))
   |_=> .fail)=Res.mk o d':=e
  show (match ρ t f with
   |some (.fn f cap)=>(match (generalizing:=false) r with
    |none=>m.new (.defd true) fun q m=>bL P S b f cap ps x y t (.mark q::dfs) ctx m
    |some l=>(match m.get l with
     |some (.loop ..)=>bL P S b f cap ps x y t dfs ctx m
     |_=> .fail))
   |_=> .fail)=Res.mk o d'
  cases hf:ρ t f with
  |none=>rw[hf] at e';cases e'
  |some v=>
   rw[hf] at e'
   cases v with
   |fn f cap=>
    dsimp only at e' ⊢
    cases r with
    |none=>
     dsimp only at e' ⊢
     rw[NH.new_eq] at e' ⊢
     exact ij h e'
    |some l=>
     dsimp only at e' ⊢
     split at e'
     ·exact ij h e'
     ·cases e'
   |_=>cases e'
 |exit id=>exact e
 |ret=>exact e
theorem x8:∀n,Le (ev P S n) (ev P S (n+1)):=by
 intro n
 induction n with
 |zero=>intro r c d o d' e;cases e
 |succ n ih=>exact qS ih
theorem bC {n m:Nat} (hnm:n<=m):Le (ev P S n) (ev P S m):=by
 induction m with
 |zero=>
  have:n=0:=by omega
  subst this;exact fun _ _ _ _ _ e=>e
 |succ m ih=>
  by_cases h:n=m+1
  ·subst h;exact fun _ _ _ _ _ e=>e
  ·exact fun r c d o d' e=>x8 m r c d o d' (ih (by omega) r c d o d' e)
end
def dy (P:Program) (S:Nat->List NV->Option NV) (r:Option D4) (c:NC) (d:Dyn) (o:Out) (d':Dyn):Prop:=∃n,ev P S n r c d= .mk o d'
def Call (P:Program) (S:Nat->List NV->Option NV) (f:Nat) (l:List NV) (m:NH) (x:CR):Prop:=x≠.fail/\∃n,bJ P S (ev P S n) f l m=x
def jG (P:Program) (S:Nat->List NV->Option NV) (r:Option D4) (l:List NOper) (d:Dyn) (o:Out) (d':Dyn):Prop:=∃n,cp P S (ev P S n) r l d= .mk o d'
section
variable {P:Program} {S:Nat->List NV->Option NV} {r:Option D4}
theorem dy.skip (d:Dyn):dy P S r .skip d .norm d:=⟨1,rfl⟩
theorem dy.ret (d:Dyn):dy P S r .ret d .ret d:=⟨1,rfl⟩
theorem dy.exit (id:Nat) (d:Dyn):dy P S r (.exit id) d (.exit id) d:=⟨1,rfl⟩
theorem dy.seq  {d2:Dyn} (hx:dy P S r x d .norm d1) (hy:dy P S r y d1 o d2):dy P S r (.seq x y) d o d2:=by
 obtain ⟨n,hn⟩:=hx
 obtain ⟨m,hm⟩:=hy
 refine ⟨max n m+1, ?_⟩
 refine qK.trans ?_
 show (match ev P S (max n m) r x d with| .mk o d=>(match o with| .norm=>ev P S (max n m) r y d|o=> .mk o d)| .fail=> .fail)=Res.mk o d2
 rw[bC (Nat.le_max_left n m) _ _ _ _ _ hn]
 exact bC (Nat.le_max_right n m) _ _ _ _ _ hm
theorem dy.seq_out  (hx:dy P S r x d o d1) (ho:o≠.norm):dy P S r (.seq x y) d o d1:=by
 obtain ⟨n,hn⟩:=hx
 refine ⟨n+1, ?_⟩
 refine qK.trans ?_
 show (match ev P S n r x d with| .mk o d=>(match o with| .norm=>ev P S n r y d|o=> .mk o d)| .fail=> .fail)=Res.mk o d1
 rw[hn]
 cases o<;>first|rfl|exact I8 rfl ho
theorem dy.cond {g:NOpd} {q:Bool} (hg:ρ d.t g=some (.bool q)) (h:dy P S r (if q then x else y) d o d1):dy P S r (.cond g x y) d o d1:=by
 obtain ⟨n,hn⟩:=h
 refine ⟨n+1, ?_⟩
 refine sH.trans ?_
 show (match ρ d.t g with|some (.bool c)=>(Bool.rec (ev P S n r y d) (ev P S n r x d) c:Res)|_=> .fail)=Res.mk o d1
 rw[hg]
 cases q<;>exact hn
theorem dy.block {id:Nat} (h:dy P S r x d o d1):dy P S r (.block id x) d (match o with| .exit i=>_root_.cond (Nat.beq i id) .norm (.exit i)|o=>o) d1:=by
 obtain ⟨n,hn⟩:=h
 refine ⟨n+1, ?_⟩
 refine oD.trans ?_
 show (match ev P S n r x d with| .mk o d=>(match o with| .exit i=>_root_.cond (Nat.beq i id) (Res.mk .norm d) (Res.mk (.exit i) d)|o=>Res.mk o d)| .fail=>Res.fail)=_
 rw[hn]
 cases o with
 |exit i=>dsimp only;cases Nat.beq i id<;>rfl
 |_=>rfl
theorem dy.loop  {d2:Dyn} (hx:dy P S r x d .norm d1) (hy:dy P S r (.loop x) d1 o d2):dy P S r (.loop x) d o d2:=by
 obtain ⟨n,hn⟩:=hx
 obtain ⟨m,hm⟩:=hy
 refine ⟨max n m+1, ?_⟩
 refine mI.trans ?_
 show (match ev P S (max n m) r x d with| .mk o d=>(match o with| .norm=>ev P S (max n m) r (.loop x) d|o=> .mk o d)| .fail=> .fail)=Res.mk o d2
 rw[bC (Nat.le_max_left n m) _ _ _ _ _ hn]
 exact bC (Nat.le_max_right n m) _ _ _ _ _ hm
theorem dy.loop_out  (hx:dy P S r x d o d1) (ho:o≠.norm):dy P S r (.loop x) d o d1:=by
 obtain ⟨n,hn⟩:=hx
 refine ⟨n+1, ?_⟩
 refine mI.trans ?_
 show (match ev P S n r x d with| .mk o d=>(match o with| .norm=>ev P S n r (.loop x) d|o=> .mk o d)| .fail=> .fail)=Res.mk o d1
 rw[hn]
 cases o<;>first|rfl|exact I8 rfl ho
theorem dy.reg  (h:jG P S r l d o d1):dy P S r (.reg l) d o d1:=by
 obtain ⟨n,hn⟩:=h
 exact ⟨n+1,hn⟩
theorem jG.nil (d:Dyn):jG P S r [] d .norm d:=⟨0,rfl⟩
theorem jG.val {x:NOper} {ctx:Option NV} (hg:av t x.guard=some true) (hop:ae x.op t m= .val v)
 (h:jG P S r l ⟨aF x.dst v t,dfs,ctx,m⟩ o d1):jG P S r (x::l) ⟨t,dfs,ctx,m⟩ o d1:=by
 obtain ⟨n,hn⟩:=h
 refine ⟨n, ?_⟩
 rw[b9,hg,hop]
 exact hn
theorem jG.mem {x:NOper} {ctx:Option NV} {m':NH} (hg:av t x.guard=some true) (hop:ae x.op t m= .mem v m')
 (h:jG P S r l ⟨aF x.dst v t,dfs,ctx,m'⟩ o d1):jG P S r (x::l) ⟨t,dfs,ctx,m⟩ o d1:=by
 obtain ⟨n,hn⟩:=h
 refine ⟨n, ?_⟩
 rw[b9,hg,hop]
 exact hn
theorem jG.off {x:NOper} {ctx:Option NV} (hg:av t x.guard=some false)
 (h:jG P S r l ⟨aF x.dst aA t,dfs,ctx,m⟩ o d1):jG P S r (x::l) ⟨t,dfs,ctx,m⟩ o d1:=by
 obtain ⟨n,hn⟩:=h
 refine ⟨n, ?_⟩
 rw[b9,hg]
 exact hn
theorem jG.call {x:NOper} {ctx:Option NV} {m':NH} {c:Option NV} (hg:av t x.guard=some true) (hop:ae x.op t m= .call f args)
 (hc:Call P S f args m (.val v c m')) (h:jG P S r l ⟨aF x.dst v t,dfs,ctx,m'⟩ o d1):jG P S r (x::l) ⟨t,dfs,ctx,m⟩ o d1:=by
 obtain ⟨n,hn⟩:=h
 obtain ⟨hne,k,hk⟩:=hc
 refine ⟨max n k, ?_⟩
 rw[b9,hg,hop]
 show tu x.dst (cp P S (ev P S (max n k)) r l) t dfs ctx (s9 dfs ctx (bJ P S (ev P S (max n k)) f args m))=_
 rw[cJ (bC (Nat.le_max_right n k)) hk hne]
 exact fH (bC (Nat.le_max_left n k)) _ _ _ _ hn
theorem Call.of_run  {nf:NFun} (hs:∀l,S f l=none) (hf:ai P f=some (.code nf)) (ho:o= .norm∨o= .ret) (h:dy P S none nf.body ⟨cX args 0 .leaf, [],none,m⟩ o d) (hd:d.dfs= [])
 {x:CR} (hx:bK d.h d.t nf.results .fail (fun l=> .val (fm l) d.ctx d.h)=x) (hne:x≠.fail):Call P S f args m x:=by
 obtain ⟨n,hn⟩:=h
 refine ⟨hne,n, ?_⟩
 unfold bJ
 rw[hs]
 dsimp only
 rw[hf]
 dsimp only
 rw[d5,hf]
 dsimp only
 rw[hn]
 rcases ho with rfl|rfl<;>(dsimp only;rw[hd];exact hx)
theorem vT (hM:P.follows .mixedOrders=true) (hP:P.check= .ok ()) (hS:aX P S) {m':NH} {c:Option NV} {nf:NFun} (hf:ai P f=some (.code nf)) (hs:S f args=none) (hc:Call P S f args m (.val v c m'))
 {ι:aO} {w:World} (hR:Rel P ι w.heap.size m w) (hlive:∀i p,ι i=some p->¬Live (m.get i)) {args':List Value} (ha:VRL ι args args'):
 Calls P f args'.toArray w fun e w'=>(∃ι' v',e= .returned v'/\VR ι' v v'/\ι.le ι'/\Rel P ι' w.heap.size m' w')/\Below w.heap.size w w':=by
 intro cs
 obtain ⟨_,n,hn⟩:=hc
 have hn':bZ P (ev P S n) 3 f args none m= .val v c m':=by
  unfold bJ at hn
  rw[hs] at hn
  dsimp only at hn
  rw[hf] at hn
  exact hn
 obtain ⟨hO,_⟩:=kI hM (iW hP) hS n
 have hD:=fL (iW hP) hO 3 f args none m
 obtain ⟨_,hF⟩:=hD (by rw[hn'];simp)
 have hF:=hF w.heap.size ι w args' .normal cs hR (Nat.le_refl _) ha (fun b hb=>by unfold tryRecover;rw[hb])
 rw[hn'] at hF
 obtain ⟨ι',v',w',cs',fr,f1,f2,f3,f4,f5,f6,f7,f8,f9⟩:=hF
 obtain ⟨rfl,_⟩:=f5.none
 refine ⟨.returned v',w',fr,⟨⟨ι',v',rfl,f1,f4.le,f2⟩,⟨f4.os,f4.tape,f4.output,f4.size,fun k hk=>f4.frame k hk fun i p hi hl=>I8 hl (hlive i p hi)⟩⟩,f6,f8,di f7 f9⟩
end
end Nm
namespace Nm
open Go Go.RowKit
variable {a b:Int} {k:IntKind}
noncomputable def aw:List (D4×NV)->Tm->Tm
 | [],t=>t
 |p::l,t=>NT.put p.1 p.2 (aw l t)
noncomputable def dl (k:D4):List (D4×NV)->Option NV->Option NV
 | [],d=>d
 |p::l,d=>cond (aU k p.1) (some p.2) (dl k l d)
theorem ko (k:D4):aU k k=true:=by
 induction k with
 |e=>rfl
 |a d ih=>exact ih
 |b d ih=>exact ih
 |c d ih=>exact ih
 |f d ih=>exact ih
theorem dQ (k:D4) (l:List (D4×NV)) (t:Tm):NT.get k (aw l t)=dl k l (NT.get k t):=by
 induction l with
 |nil=>rfl
 |cons p l ih=>
  show NT.get k (NT.put p.1 p.2 (aw l t))=cond (aU k p.1) (some p.2) (dl k l (NT.get k t))
  cases h:aU k p.1 with
  |true=>rw[fA h,NT.get_put_same];rfl
  |false=>
   have hne:k≠p.1:=fun e=>by rw[e,ko] at h;cases h
   rw[NT.get_put_ne hne,ih];rfl
def bw (P:Program) (S:Nat->List NV->Option NV) (r:Option D4) (l:List NOper) (hs:List (Nat×NH)) (rs:List (Nat×(NH->NR)×NV)) (d:Dyn) (o:Out) (d':Dyn):Prop:=∃n,bA P S (ev P S n) r l hs rs d= .mk o d'
section
variable {P:Program} {S:Nat->List NV->Option NV} {r:Option D4} {x:NOper} {l:List NOper} {hs:List (Nat×NH)} {rs:List (Nat×(NH->NR)×NV)} {t:Tm} {dfs:List Dfr} {ctx:Option NV} {m m':NH} {o:Out} {d d1:Dyn} {v:NV}
theorem dy.regD (h:bw P S r l [] [] d .norm d1):dy P S r (.regD l) d .norm d1:=by
 obtain ⟨n,hn⟩:=h
 refine ⟨n+1, ?_⟩
 show (match bA P S (ev P S n) r l [] [] d with| .mk (.pan v) d=>Res.mk (.pan v) ⟨kB l d.t,d.dfs,d.ctx,d.h⟩|r=>r)=_
 rw[hn]
theorem bw.nil (d:Dyn):bw P S r [] hs rs d .norm d:=⟨0,rfl⟩
theorem bw.off (hg:av t x.guard=some false) (h:bw P S r l hs rs ⟨aF x.dst aA t,dfs,ctx,m⟩ o d1):bw P S r (x::l) hs rs ⟨t,dfs,ctx,m⟩ o d1:=by
 obtain ⟨n,hn⟩:=h
 exact ⟨n,by rw[bE,hg];exact hn⟩
theorem bw.pure (hg:av t x.guard=some true) (hc:ao x.op= .pure) (hop:ae x.op t m= .val v) (h:bw P S r l hs rs ⟨aF x.dst v t,dfs,ctx,m⟩ o d1):bw P S r (x::l) hs rs ⟨t,dfs,ctx,m⟩ o d1:=by
 obtain ⟨n,hn⟩:=h
 exact ⟨n,by rw[bE,hg];dsimp only;rw[hc];dsimp only;rw[hop];exact hn⟩
theorem bw.alloc (hg:av t x.guard=some true) (hc:ao x.op= .alloc) (ha:ahead x.pre hs=true) (hop:ae x.op t m= .mem v m') (h:bw P S r l hs rs ⟨aF x.dst v t,dfs,ctx,m'⟩ o d1):bw P S r (x::l) hs rs ⟨t,dfs,ctx,m⟩ o d1:=by
 obtain ⟨n,hn⟩:=h
 exact ⟨n,by rw[bE,hg];dsimp only;rw[hc];dsimp only;rw[ha,hop];exact hn⟩
theorem bw.read (hg:av t x.guard=some true) (hc:ao x.op= .read) (hop:ae x.op t m= .val v) (ha:dD x.pre (ae x.op t) v hs=true)
 (h:bw P S r l hs ((x.idx,ae x.op t,v)::rs) ⟨aF x.dst v t,dfs,ctx,m⟩ o d1):bw P S r (x::l) hs rs ⟨t,dfs,ctx,m⟩ o d1:=by
 obtain ⟨n,hn⟩:=h
 exact ⟨n,by rw[bE,hg];dsimp only;rw[hc];dsimp only;rw[hop];dsimp only;rw[ha];exact hn⟩
theorem bw.eff (hg:av t x.guard=some true) (hc:ao x.op= .eff) (ha:ahead x.pre hs=true) (hop:ae x.op t m= .mem v m') (hst:aT x.pre m' rs=true)
 (h:bw P S r l ((x.idx,m)::hs) rs ⟨aF x.dst v t,dfs,ctx,m'⟩ .norm d1):bw P S r (x::l) hs rs ⟨t,dfs,ctx,m⟩ .norm d1:=by
 obtain ⟨n,hn⟩:=h
 refine ⟨n, ?_⟩
 rw[bE,hg];dsimp only;rw[hc];dsimp only;rw[ha,hop]
 show cq (bO x.idx l) (cond (aT x.pre m' rs) (bA P S (ev P S n) r l ((x.idx,m)::hs) rs ⟨aF x.dst v t,dfs,ctx,m'⟩) .fail)=_
 rw[hst]
 show cq (bO x.idx l) (bA P S (ev P S n) r l ((x.idx,m)::hs) rs ⟨aF x.dst v t,dfs,ctx,m'⟩)=_
 rw[hn];rfl
theorem bw.effv (hg:av t x.guard=some true) (hc:ao x.op= .eff) (ha:ahead x.pre hs=true) (hop:ae x.op t m= .val v) (hst:aT x.pre m rs=true)
 (h:bw P S r l ((x.idx,m)::hs) rs ⟨aF x.dst v t,dfs,ctx,m⟩ .norm d1):bw P S r (x::l) hs rs ⟨t,dfs,ctx,m⟩ .norm d1:=by
 obtain ⟨n,hn⟩:=h
 refine ⟨n, ?_⟩
 rw[bE,hg];dsimp only;rw[hc];dsimp only;rw[ha,hop]
 show cq (bO x.idx l) (cond (aT x.pre m rs) (bA P S (ev P S n) r l ((x.idx,m)::hs) rs ⟨aF x.dst v t,dfs,ctx,m⟩) .fail)=_
 rw[hst]
 show cq (bO x.idx l) (bA P S (ev P S n) r l ((x.idx,m)::hs) rs ⟨aF x.dst v t,dfs,ctx,m⟩)=_
 rw[hn];rfl
theorem bw.call {f:Nat} {args:List NV} {c:Option NV} (hg:av t x.guard=some true) (hc:ao x.op= .eff) (ha:ahead x.pre hs=true) (hop:ae x.op t m= .call f args) (hcall:Call P S f args m (.val v c m')) (hst:aT x.pre m' rs=true)
 (h:bw P S r l ((x.idx,m)::hs) rs ⟨aF x.dst v t,dfs,ctx,m'⟩ .norm d1):bw P S r (x::l) hs rs ⟨t,dfs,ctx,m⟩ .norm d1:=by
 obtain ⟨n,hn⟩:=h
 obtain ⟨hne,k,hk⟩:=hcall
 refine ⟨max n k, ?_⟩
 rw[bE,hg];dsimp only;rw[hc];dsimp only;rw[ha,hop]
 show cq (bO x.idx l) (tu x.dst (fun d=>cond (aT x.pre d.h rs) (bA P S (ev P S (max n k)) r l ((x.idx,m)::hs) rs d) .fail) t dfs ctx (s9 dfs ctx (bJ P S (ev P S (max n k)) f args m)))=_
 rw[cJ (bC (Nat.le_max_right n k)) hk hne]
 show cq (bO x.idx l) (cond (aT x.pre m' rs) (bA P S (ev P S (max n k)) r l ((x.idx,m)::hs) rs ⟨aF x.dst v t,dfs,ctx,m'⟩) .fail)=_
 rw[hst]
 show cq (bO x.idx l) (bA P S (ev P S (max n k)) r l ((x.idx,m)::hs) rs ⟨aF x.dst v t,dfs,ctx,m'⟩)=_
 rw[jg (bC (Nat.le_max_left n k)) _ _ _ _ _ _ hn];rfl
end
def rQ (P:Program) (S:Nat->List NV->Option NV) (l:D4) (args:List NV) (m:NH) (x:CR):Prop:=x≠.fail/\∃n,round (ev P S n) l args m=x
section
variable {P:Program} {S:Nat->List NV->Option NV} {r:Option D4} {x:NOper} {l:List NOper} {hs:List (Nat×NH)} {rs:List (Nat×(NH->NR)×NV)} {t:Tm} {dfs:List Dfr} {ctx:Option NV} {m m':NH} {o:Out} {d1:Dyn} {v:NV} {q:D4} {args:List NV} {c:Option NV}
theorem jG.yld (hg:av t x.guard=some true) (hop:ae x.op t m= .yld q args) (hc:rQ P S q args m (.val v c m')) (h:jG P S r l ⟨aF x.dst v t,dfs,ctx,m'⟩ o d1):jG P S r (x::l) ⟨t,dfs,ctx,m⟩ o d1:=by
 obtain ⟨n,hn⟩:=h
 obtain ⟨hne,k,hk⟩:=hc
 refine ⟨max n k, ?_⟩
 rw[b9,hg,hop]
 show tu x.dst (cp P S (ev P S (max n k)) r l) t dfs ctx (s9 dfs ctx (round (ev P S (max n k)) q args m))=_
 rw[dR (bC (Nat.le_max_right n k)) hk hne]
 exact fH (bC (Nat.le_max_left n k)) _ _ _ _ hn
theorem bw.yld (hg:av t x.guard=some true) (hc:ao x.op= .eff) (ha:ahead x.pre hs=true) (hop:ae x.op t m= .yld q args) (hcall:rQ P S q args m (.val v c m')) (hst:aT x.pre m' rs=true)
 (h:bw P S r l ((x.idx,m)::hs) rs ⟨aF x.dst v t,dfs,ctx,m'⟩ .norm d1):bw P S r (x::l) hs rs ⟨t,dfs,ctx,m⟩ .norm d1:=by
 obtain ⟨n,hn⟩:=h
 obtain ⟨hne,k,hk⟩:=hcall
 refine ⟨max n k, ?_⟩
 rw[bE,hg];dsimp only;rw[hc];dsimp only;rw[ha,hop]
 show cq (bO x.idx l) (tu x.dst (fun d=>cond (aT x.pre d.h rs) (bA P S (ev P S (max n k)) r l ((x.idx,m)::hs) rs d) .fail) t dfs ctx (s9 dfs ctx (round (ev P S (max n k)) q args m)))=_
 rw[dR (bC (Nat.le_max_right n k)) hk hne]
 show cq (bO x.idx l) (cond (aT x.pre m' rs) (bA P S (ev P S (max n k)) r l ((x.idx,m)::hs) rs ⟨aF x.dst v t,dfs,ctx,m'⟩) .fail)=_
 rw[hst]
 show cq (bO x.idx l) (bA P S (ev P S (max n k)) r l ((x.idx,m)::hs) rs ⟨aF x.dst v t,dfs,ctx,m'⟩)=_
 rw[jg (bC (Nat.le_max_left n k)) _ _ _ _ _ _ hn];rfl
end
section
variable {P:Program} {S:Nat->List NV->Option NV} {r:Option D4} {x:NOper} {l:List NOper} {hs:List (Nat×NH)} {rs:List (Nat×(NH->NR)×NV)} {L:List (D4×NV)} {t:Tm} {dfs:List Dfr} {ctx:Option NV} {m m':NH} {o:Out} {d1:Dyn} {v:NV} {k:D4}
theorem bw.p (hd:x.dst=some k) (hg:av (aw L t) x.guard=some true) (hc:ao x.op= .pure) (hop:ae x.op (aw L t) m= .val v) (h:bw P S r l hs rs ⟨aw ((k,v)::L) t,dfs,ctx,m⟩ o d1):bw P S r (x::l) hs rs ⟨aw L t,dfs,ctx,m⟩ o d1:=
 bw.pure hg hc hop (by rw[hd];exact h)
theorem bw.e (hd:x.dst=some k) (hg:av (aw L t) x.guard=some true) (hc:ao x.op= .eff) (ha:ahead x.pre hs=true) (hop:ae x.op (aw L t) m= .mem v m') (hst:aT x.pre m' rs=true)
 (h:bw P S r l ((x.idx,m)::hs) rs ⟨aw ((k,v)::L) t,dfs,ctx,m'⟩ .norm d1):bw P S r (x::l) hs rs ⟨aw L t,dfs,ctx,m⟩ .norm d1:=
 bw.eff hg hc ha hop hst (by rw[hd];exact h)
theorem bw.c {f:Nat} {args:List NV} {c:Option NV} (hd:x.dst=some k) (hg:av (aw L t) x.guard=some true) (hc:ao x.op= .eff) (ha:ahead x.pre hs=true) (hop:ae x.op (aw L t) m= .call f args) (hcall:Call P S f args m (.val v c m')) (hst:aT x.pre m' rs=true)
 (h:bw P S r l ((x.idx,m)::hs) rs ⟨aw ((k,v)::L) t,dfs,ctx,m'⟩ .norm d1):bw P S r (x::l) hs rs ⟨aw L t,dfs,ctx,m⟩ .norm d1:=
 bw.call hg hc ha hop hcall hst (by rw[hd];exact h)
end
section
variable {t:Tm} {m:NH}
theorem jJ {op:BinOp} (h:dI op=false):cN .num op (.int k (.lit a)) (.int k (.lit b))=cm op k a b:=by
 show cond (dI op) (cm op k a b) (cond (th k k) (cm op k a b) none)=_
 rw[show th k k=true by cases k<;>rfl,h];rfl
theorem Fw :cN .num .lss (.int k (.lit a)) (.int k (.lit b))=some (.bool (decide (a<b))):=
 (jJ rfl).trans (by show bx (pt a b)=_;rw[e9,aQ])
theorem FT :cN .num .gtr (.int k (.lit a)) (.int k (.lit b))=some (.bool (decide (b<a))):=
 (jJ rfl).trans (by show bx (pt b a)=_;rw[e9,aQ])
theorem G2 :cN .num .geq (.int k (.lit a)) (.int k (.lit b))=some (.bool (decide (b<=a))):=
 (jJ rfl).trans (by show bx (BF b a)=_;rw[nH,aQ])
theorem Ge :cN .num .eql (.int k (.lit a)) (.int k (.lit b))=some (.bool (decide (a=b))):=
 (jJ rfl).trans (by show bx (nL a b)=_;rw[dx,aQ];rfl)
theorem FW :cN .num .neq (.int k (.lit a)) (.int k (.lit b))=some (.bool (decide (a≠b))):=
 (jJ rfl).trans (by show bx (iP (nL a b))=_;rw[dx,aQ,dG];by_cases h:a=b<;>simp[h])
theorem wrap_small {n:Int} (h:-9223372036854775808<=n) (h':n<9223372036854775808):bo .i64 n=n:=by
 cases n with
 |ofNat m=>
  show cond (Nat.ble (Nat.succ m) 9223372036854775808) (Int.ofNat m) _=_
  rw[Nat.ble_eq_true_of_le (by have:(m:Int)<9223372036854775808:=h';omega)];rfl
 |negSucc m=>
  show cond (Nat.ble (Nat.succ m) 9223372036854775808) (Int.negSucc m) _=_
  rw[Nat.ble_eq_true_of_le (by have:-9223372036854775808<=Int.negSucc m:=h;omega)];rfl
theorem FM  (h:-9223372036854775808<=a+b) (h':a+b<9223372036854775808):cN .num .add (.int .i64 (.lit a)) (.int .i64 (.lit b))=some (.int .i64 (.lit (a+b))):=by
 refine (jJ rfl).trans ?_
 show bH .i64 (bo .i64 (qA a b))=_
 have e:qA a b=a+b:=by cases a<;>cases b<;>rfl
 rw[e,wrap_small h h']
 exact fY _ _
end
end Nm
namespace Nm
open Go Go.RowKit
def fE (K:Dyn->Prop) (Q:Out->Dyn->Prop) (o:Out) (d:Dyn):Prop:=match o with| .norm=>K d|o=>Q o d
def dz (i:Nat) (Q:Out->Dyn->Prop) (o:Out) (d:Dyn):Prop:=match o with| .exit j=>Q (if j=i then .norm else .exit j) d|o=>Q o d
def wB (o:Option NV) (A B:Prop):Prop:=match o with|some (.bool q)=>(q=true->A)/\(q=false->B)|_=>False
section
variable (P:Program) (S:Nat->List NV->Option NV) (r:Option D4)
def W (c:NC) (d:Dyn) (Q:Out->Dyn->Prop):Prop:=∃o d',dy P S r c d o d'/\Q o d'
def wN (dst:Option D4) (t:Tm) (dfs:List Dfr) (ctx:Option NV) (m:NH) (x:NR) (K:Dyn->Prop):Prop:=match x with
 | .val v=>K ⟨aF dst v t,dfs,ctx,m⟩
 | .mem v m'=>K ⟨aF dst v t,dfs,ctx,m'⟩
 | .call f args=>∃v c m',Call P S f args m (.val v c m')/\K ⟨aF dst v t,dfs,ctx,m'⟩
 | .yld q args=>∃v c m',rQ P S q args m (.val v c m')/\K ⟨aF dst v t,dfs,ctx,m'⟩
 |_=>False
def wO:List NOper->Dyn->(Dyn->Prop)->Prop
 | [],d,K=>K d
 |x::l,d,K=>match av d.t x.guard with
  |some true=>wN P S x.dst d.t d.dfs d.ctx d.h (ae x.op d.t d.h) fun d=>wO l d K
  |some false=>wO l ⟨aF x.dst aA d.t,d.dfs,d.ctx,d.h⟩ K
  |none=>False
def wD:List NOper->List (Nat×NH)->List (Nat×(NH->NR)×NV)->Dyn->(Dyn->Prop)->Prop
 | [],_,_,d,K=>K d
 |x::l,hs,rs,d,K=>match av d.t x.guard with
  |some true=>(match ao x.op with
   | .pure=>(match ae x.op d.t d.h with| .val v=>wD l hs rs ⟨aF x.dst v d.t,d.dfs,d.ctx,d.h⟩ K|_=>False)
   | .alloc=>ahead x.pre hs=true/\(match ae x.op d.t d.h with| .mem v m'=>wD l hs rs ⟨aF x.dst v d.t,d.dfs,d.ctx,m'⟩ K|_=>False)
   | .read=>(match ae x.op d.t d.h with| .val v=>dD x.pre (ae x.op d.t) v hs=true/\wD l hs ((x.idx,ae x.op d.t,v)::rs) ⟨aF x.dst v d.t,d.dfs,d.ctx,d.h⟩ K|_=>False)
   | .eff=>ahead x.pre hs=true/\wN P S x.dst d.t d.dfs d.ctx d.h (ae x.op d.t d.h) fun d'=>aT x.pre d'.h rs=true/\wD l ((x.idx,d.h)::hs) rs d' K)
  |some false=>wD l hs rs ⟨aF x.dst aA d.t,d.dfs,d.ctx,d.h⟩ K
  |none=>False
def wp:NC->Dyn->(Out->Dyn->Prop)->Prop
 | .skip,d,Q=>Q .norm d
 | .ret,d,Q=>Q .ret d
 | .exit i,d,Q=>Q (.exit i) d
 | .seq a b,d,Q=>wp a d (fE (fun d=>wp b d Q) Q)
 | .cond g a b,d,Q=>wB (ρ d.t g) (wp a d Q) (wp b d Q)
 | .block i a,d,Q=>wp a d (dz i Q)
 | .reg l,d,Q=>wO P S l d (Q .norm)
 | .regD l,d,Q=>wD P S l [] [] d (Q .norm)
 | .loop a,d,Q=>W P S r (.loop a) d Q
 | .rangeFunc f ps a b,d,Q=>W P S r (.rangeFunc f ps a b) d Q
end
section
variable {P:Program} {S:Nat->List NV->Option NV} {r:Option D4}
theorem wA:∀(l:List NOper) (d:Dyn) (K:Dyn->Prop),wO P S l d K->∃d',jG P S r l d .norm d'/\K d':=by
 intro l
 induction l with
 |nil=>exact fun d K h=>⟨d,jG.nil d,h⟩
 |cons x l ih=>
  rintro ⟨t,dfs,ctx,m⟩ K h
  unfold wO at h
  dsimp only at h
  split at h
  ·rename_i hg
   cases hop:ae x.op t m with
   |val v=>rw[hop] at h;obtain ⟨d',h1,h2⟩:=ih _ _ h;exact ⟨d',jG.val hg hop h1,h2⟩
   |mem v m'=>rw[hop] at h;obtain ⟨d',h1,h2⟩:=ih _ _ h;exact ⟨d',jG.mem hg hop h1,h2⟩
   |call f args=>
    rw[hop] at h
    obtain ⟨v,c,m',hc,h⟩:=h
    obtain ⟨d',h1,h2⟩:=ih _ _ h
    exact ⟨d',jG.call hg hop hc h1,h2⟩
   |yld q args=>
    rw[hop] at h
    obtain ⟨v,c,m',hc,h⟩:=h
    obtain ⟨d',h1,h2⟩:=ih _ _ h
    exact ⟨d',jG.yld hg hop hc h1,h2⟩
   |_=>rw[hop] at h;exact h.elim
  ·rename_i hg
   obtain ⟨d',h1,h2⟩:=ih _ _ h;exact ⟨d',jG.off hg h1,h2⟩
  ·exact h.elim
theorem uS:∀(l:List NOper) (hs:List (Nat×NH)) (rs:List (Nat×(NH->NR)×NV)) (d:Dyn) (K:Dyn->Prop),wD P S l hs rs d K->∃d',bw P S r l hs rs d .norm d'/\K d':=by
 intro l
 induction l with
 |nil=>exact fun hs rs d K h=>⟨d,bw.nil d,h⟩
 |cons x l ih=>
  rintro hs rs ⟨t,dfs,ctx,m⟩ K h
  unfold wD at h
  dsimp only at h
  split at h
  ·rename_i hg
   split at h
   ·rename_i hcl
    cases hop:ae x.op t m with
    |val v=>rw[hop] at h;obtain ⟨d',h1,h2⟩:=ih _ _ _ _ h;exact ⟨d',bw.pure hg hcl hop h1,h2⟩
    |_=>rw[hop] at h;exact h.elim
   ·rename_i hcl
    obtain ⟨ha,h⟩:=h
    cases hop:ae x.op t m with
    |mem v m'=>rw[hop] at h;obtain ⟨d',h1,h2⟩:=ih _ _ _ _ h;exact ⟨d',bw.alloc hg hcl ha hop h1,h2⟩
    |_=>rw[hop] at h;exact h.elim
   ·rename_i hcl
    cases hop:ae x.op t m with
    |val v=>rw[hop] at h;obtain ⟨ha,h⟩:=h;obtain ⟨d',h1,h2⟩:=ih _ _ _ _ h;exact ⟨d',bw.read hg hcl hop ha h1,h2⟩
    |_=>rw[hop] at h;exact h.elim
   ·rename_i hcl
    obtain ⟨ha,h⟩:=h
    cases hop:ae x.op t m with
    |val v=>rw[hop] at h;obtain ⟨hst,h⟩:=h;obtain ⟨d',h1,h2⟩:=ih _ _ _ _ h;exact ⟨d',bw.effv hg hcl ha hop hst h1,h2⟩
    |mem v m'=>rw[hop] at h;obtain ⟨hst,h⟩:=h;obtain ⟨d',h1,h2⟩:=ih _ _ _ _ h;exact ⟨d',bw.eff hg hcl ha hop hst h1,h2⟩
    |call f args=>
     rw[hop] at h
     obtain ⟨v,c,m',hc,hst,h⟩:=h
     obtain ⟨d',h1,h2⟩:=ih _ _ _ _ h
     exact ⟨d',bw.call hg hcl ha hop hc hst h1,h2⟩
    |yld q args=>
     rw[hop] at h
     obtain ⟨v,c,m',hc,hst,h⟩:=h
     obtain ⟨d',h1,h2⟩:=ih _ _ _ _ h
     exact ⟨d',bw.yld hg hcl ha hop hc hst h1,h2⟩
    |_=>rw[hop] at h;exact h.elim
  ·rename_i hg
   obtain ⟨d',h1,h2⟩:=ih _ _ _ _ h;exact ⟨d',bw.off hg h1,h2⟩
  ·exact h.elim
theorem br:∀(c:NC) (d:Dyn) (Q:Out->Dyn->Prop),wp P S r c d Q->W P S r c d Q:=by
 intro c
 induction c with
 |skip=>exact fun d Q h=>⟨_,_,dy.skip d,h⟩
 |ret=>exact fun d Q h=>⟨_,_,dy.ret d,h⟩
 |exit i=>exact fun d Q h=>⟨_,_,dy.exit i d,h⟩
 |seq a b iha ihb=>
  intro d Q h
  obtain ⟨o,d1,h1,h2⟩:=iha _ _ h
  cases o with
  |norm=>obtain ⟨o,d2,h3,h4⟩:=ihb _ _ h2;exact ⟨o,d2,dy.seq h1 h3,h4⟩
  |_=>exact ⟨_,_,dy.seq_out h1 (by simp),h2⟩
 |cond g a b iha ihb=>
  intro d Q h
  unfold wp wB at h
  split at h
  ·rename_i q hq
   cases q with
   |true=>obtain ⟨o,d1,h1,h2⟩:=iha _ _ (h.1 rfl);exact ⟨o,d1,dy.cond hq (by simpa using h1),h2⟩
   |false=>obtain ⟨o,d1,h1,h2⟩:=ihb _ _ (h.2 rfl);exact ⟨o,d1,dy.cond hq (by simpa using h1),h2⟩
  ·exact h.elim
 |block i a iha=>
  intro d Q h
  obtain ⟨o,d1,h1,h2⟩:=iha _ _ h
  refine ⟨_,d1,dy.block h1, ?_⟩
  cases o with
  |exit j=>
   dsimp only
   change Q (if j=i then .norm else .exit j) d1 at h2
   by_cases e:j=i
   ·subst e;rw[Ja rfl] at h2;rw[Nat.beq_refl];exact h2
   ·rw[I9 e] at h2
    rw[show Nat.beq j i=false from by cases hb:Nat.beq j i with|false=>rfl|true=>exact I8 (Jf hb) e];exact h2
  |_=>exact h2
 |reg l=>
  intro d Q h
  obtain ⟨d',h1,h2⟩:=wA (r:=r) _ _ _ h
  exact ⟨_,_,dy.reg h1,h2⟩
 |regD l=>
  intro d Q h
  obtain ⟨d',h1,h2⟩:=uS (r:=r) _ _ _ _ _ h
  exact ⟨_,_,dy.regD h1,h2⟩
 |loop a _=>exact fun d Q h=>h
 |rangeFunc f ps a b _ _=>exact fun d Q h=>h
theorem W.loop {c:NC} {Q:Out->Dyn->Prop} (I:Nat->Dyn->Prop) (h:∀k d,I k d->W P S r c d (fun o d'=>match o with| .norm=>∃j,j<k/\I j d'|o=>Q o d')):∀k d,I k d->W P S r (.loop c) d Q:=by
 intro k
 induction k using Nat.strongRecOn with
 |ind k ih=>
  intro d hd
  obtain ⟨o,d',h1,h2⟩:=h k d hd
  cases o with
  |norm=>
   obtain ⟨j,hj,hI⟩:=h2
   obtain ⟨o,d2,h3,h4⟩:=ih j hj d' hI
   exact ⟨o,d2,dy.loop h1 h3,h4⟩
  |_=>exact ⟨_,_,dy.loop_out h1 (by simp),h2⟩
theorem W.mono {c:NC} {d:Dyn} {Q Q':Out->Dyn->Prop} (h:W P S r c d Q) (hq:∀o d,Q o d->Q' o d):W P S r c d Q':=by
 obtain ⟨o,d',h1,h2⟩:=h
 exact ⟨o,d',h1,hq _ _ h2⟩
end
end Nm
namespace Nm
open Go Go.RowKit
variable {x:NOpd} {i:Nat} {o:Option NV}
section
variable {P:Program} {S:Nat->List NV->Option NV} {r:Option D4} {dst:Option D4} {op:NOp} {pre idx:Nat} {l:List NOper} {hs:List (Nat×NH)} {rs:List (Nat×(NH->NR)×NV)}
 {L:List (D4×NV)} {t:Tm} {dfs:List Dfr} {ctx:Option NV} {m m':NH} {v:NV} {k k':D4} {d:Dyn} {Q:Out->Dyn->Prop} {K:Dyn->Prop} {A B:Prop}
theorem En:wp P S r .skip d Q=Q .norm d:=_root_.id rfl
theorem GZ:wp P S r .ret d Q=Q .ret d:=_root_.id rfl
theorem EE :wp P S r (.exit i) d Q=Q (.exit i) d:=_root_.id rfl
theorem yg  {a:NC}:wp P S r (.block i a) d Q=wp P S r a d (dz i Q):=_root_.id rfl
theorem FU:wp P S r (.reg l) d Q=wO P S l d (Q .norm):=_root_.id rfl
theorem De:wp P S r (.regD l) d Q=wD P S l [] [] d (Q .norm):=_root_.id rfl
theorem CJ {a:NC}:wp P S r (.loop a) d Q=W P S r (.loop a) d Q:=_root_.id rfl
theorem AZ:fE K Q .norm d=K d:=_root_.id rfl
theorem DL:fE K Q .ret d=Q .ret d:=_root_.id rfl
theorem yi :fE K Q (.exit i) d=Q (.exit i) d:=_root_.id rfl
theorem zT :dz i Q .norm d=Q .norm d:=_root_.id rfl
theorem CN :dz i Q .ret d=Q .ret d:=_root_.id rfl
theorem zK  {j:Nat}:dz i Q (.exit j) d=Q (if j=i then .norm else .exit j) d:=_root_.id rfl
theorem FF:wO P S [] d K=K d:=_root_.id rfl
def wX (c:Cls) (x:NR) (P:Program) (S:Nat->List NV->Option NV) (f:NH->NR) (dst:Option D4) (pre idx:Nat) (l:List NOper) (hs:List (Nat×NH)) (rs:List (Nat×(NH->NR)×NV)) (d:Dyn) (K:Dyn->Prop):Prop:=
 match c with
 | .pure=>(match x with| .val v=>wD P S l hs rs ⟨aF dst v d.t,d.dfs,d.ctx,d.h⟩ K|_=>False)
 | .alloc=>ahead pre hs=true/\(match x with| .mem v m'=>wD P S l hs rs ⟨aF dst v d.t,d.dfs,d.ctx,m'⟩ K|_=>False)
 | .read=>(match x with| .val v=>dD pre f v hs=true/\wD P S l hs ((idx,f,v)::rs) ⟨aF dst v d.t,d.dfs,d.ctx,d.h⟩ K|_=>False)
 | .eff=>ahead pre hs=true/\wN P S dst d.t d.dfs d.ctx d.h x fun d'=>aT pre d'.h rs=true/\wD P S l ((idx,d.h)::hs) rs d' K
theorem Eq:wD P S [] hs rs d K=K d:=_root_.id rfl
theorem zt:wD P S (⟨dst,op,none,pre,idx⟩::l) hs rs ⟨aw L t,dfs,ctx,m⟩ K=wX (ao op) (ae op (aw L t) m) P S (ae op (aw L t)) dst pre idx l hs rs ⟨aw L t,dfs,ctx,m⟩ K:=by
 cases h:ao op<;>simp only[wD,av,h,wX]<;>cases ae op (aw L t) m<;>rfl
section
variable {f:NH->NR}
theorem zf:wX .pure (.val v) P S f (some k) pre idx l hs rs ⟨aw L t,dfs,ctx,m⟩ K=wD P S l hs rs ⟨aw ((k,v)::L) t,dfs,ctx,m⟩ K:=_root_.id rfl
theorem xz:wX .alloc (.mem v m') P S f (some k) pre idx l hs rs ⟨aw L t,dfs,ctx,m⟩ K=(ahead pre hs=true/\wD P S l hs rs ⟨aw ((k,v)::L) t,dfs,ctx,m'⟩ K):=_root_.id rfl
theorem yf:wX .read (.val v) P S f (some k) pre idx l hs rs ⟨aw L t,dfs,ctx,m⟩ K=(dD pre f v hs=true/\wD P S l hs ((idx,f,v)::rs) ⟨aw ((k,v)::L) t,dfs,ctx,m⟩ K):=_root_.id rfl
theorem we:dD pre f v []=true:=_root_.id rfl
theorem vN:ahead pre []=true:=_root_.id rfl
theorem xu:aT pre m []=true:=_root_.id rfl
end
theorem Hd:NT.get k (aw L t)=dl k L (NT.get k t):=dQ k L t
theorem F6:ρ (aw L t) (.tmp k)=dl k L (NT.get k t):=dQ k L t
theorem xM:ρ t (.const v)=some v:=_root_.id rfl
theorem yO :dl k [] o=o:=_root_.id rfl
theorem EM :dl k ((k',v)::L) o=cond (aU k k') (some v) (dl k L o):=_root_.id rfl
theorem IF:aU .e .e=true:=_root_.id rfl
theorem H4:aU .e (.a k)=false:=_root_.id rfl
theorem HR:aU .e (.b k)=false:=_root_.id rfl
theorem Ix:aU .e (.c k)=false:=_root_.id rfl
theorem HQ:aU .e (.f k)=false:=_root_.id rfl
theorem Ii:aU (.a k) .e=false:=_root_.id rfl
theorem HU:aU (.a k) (.a k')=aU k k':=_root_.id rfl
theorem IY:aU (.a k) (.b k')=false:=_root_.id rfl
theorem If:aU (.a k) (.c k')=false:=_root_.id rfl
theorem Iy:aU (.a k) (.f k')=false:=_root_.id rfl
theorem IJ:aU (.b k) .e=false:=_root_.id rfl
theorem IM:aU (.b k) (.a k')=false:=_root_.id rfl
theorem HT:aU (.b k) (.b k')=aU k k':=_root_.id rfl
theorem HS:aU (.b k) (.c k')=false:=_root_.id rfl
theorem IN:aU (.b k) (.f k')=false:=_root_.id rfl
theorem H7:aU (.c k) .e=false:=_root_.id rfl
theorem IU:aU (.c k) (.a k')=false:=_root_.id rfl
theorem Ik:aU (.c k) (.b k')=false:=_root_.id rfl
theorem Id:aU (.c k) (.c k')=aU k k':=_root_.id rfl
theorem HW:aU (.c k) (.f k')=false:=_root_.id rfl
theorem II:aU (.f k) .e=false:=_root_.id rfl
theorem IV:aU (.f k) (.a k')=false:=_root_.id rfl
theorem Iu:aU (.f k) (.b k')=false:=_root_.id rfl
theorem IE:aU (.f k) (.c k')=false:=_root_.id rfl
theorem Ip:aU (.f k) (.f k')=aU k k':=_root_.id rfl
end
def oN (o:Option NV) (K:NV->NR):NR:=match o with|some v=>K v|none=> .fail
theorem HY {v:NV} {K:NV->NR}:oN (some v) K=K v:=_root_.id rfl
theorem bz {t:Tm} {K:NV->NR}:wV t x K=oN (ρ t x) K:=by
 unfold wV oN;cases ρ t x<;>rfl
theorem Iv {v:NV}:vr (some v)= .val v:=_root_.id rfl
def uW (v:NV):NR:=match v with| .slc _ _ n _ _=> .val (.int .i64 (.lit (.ofNat n)))| .nils=> .val (.int .i64 (.lit (.ofNat 0)))|_=> .fail
def iN (n:Nat) (s i:NV):NR:=match s,i with| .slc id off len _ _,.int _ (.lit (.ofNat i))=>if i<len then .val (.ptr id (off+i*n)) else .fail|_,_=> .fail
noncomputable def xW (m:NH) (p:NV):NR:=match p with| .ptr id off=>(match m.get id with|some (.cells _ c)=>oN c[off]? .val|_=> .fail)|_=> .fail
noncomputable def z6 (n:Nat) (m:NH) (p:NV):NR:=match p with| .ptr id off=>(match m.get id with|some (.cells _ c)=>if off+n<=c.length then .val (.agg ((c.drop off).take n)) else .fail|_=> .fail)|_=> .fail
def Gp (k:Nat) (p:NV):NR:=match p with| .ptr id off=> .val (.ptr id (off+k))|_=> .fail
section
variable {t:Tm} {m:NH}
theorem Er :ae (.move x) t m=oN (ρ t x) .val:=bz
theorem GJ {c:BC} {op:BinOp} {y:NOpd}:ae (.bin c op x y) t m=oN (ρ t x) fun a=>oN (ρ t y) fun b=>vr (cN c op a b):=by
 show wV t x (fun a=>wV t y fun b=>vr (cN c op a b))=_
 simp only[bz]
theorem H2 {u:UnOp}:ae (.un u x) t m=oN (ρ t x) fun v=>vr (HK u v):=bz
theorem GK :ae (.lenSlc x) t m=oN (ρ t x) uW:=by
 show wV t x _=_
 rw[bz];cases ρ t x with
 |none=>rfl
 |some v=>cases v<;>rfl
theorem GP {n:Nat} {i:NOpd}:ae (.indexSlc n x i) t m=oN (ρ t x) fun s=>oN (ρ t i) fun i=>iN n s i:=by
 show wV t x (fun v=>cH t i fun i=>match v with
  | .slc id off len _ _=>cond (Nat.ble (Nat.succ i) len) (an (Nat.add off (Nat.mul i n)) fun o=> .val (.ptr id o)) .fail
  |_=> .fail)=_
 unfold cH
 simp only[bz]
 cases ρ t x with
 |none=>rfl
 |some s=>
  show oN (ρ t i) _=oN (ρ t i) _
  cases ρ t i with
  |none=>rfl
  |some j=>
   show aC (bM j) _=iN n s j
   cases j with
   |int k z=>
    cases z with
    |lit z=>
     cases z with
     |ofNat q=>
      cases s with
      |slc id off len e kc=>
       show cond (Nat.ble (Nat.succ q) len) (an (Nat.add off (Nat.mul q n)) fun o=>NR.val (.ptr id o)) .fail=if q<len then _ else _
       rw[ab]
       by_cases hq:q<len
       ·rw[Ja hq,Nat.ble_eq_true_of_le hq];rfl
       ·rw[I9 hq,show Nat.ble (Nat.succ q) len=false from by cases hb:Nat.ble (Nat.succ q) len with|false=>rfl|true=>exact I8 (Nat.le_of_ble_eq_true hb) hq];rfl
      |_=>rfl
     |negSucc q=>cases s<;>rfl
   |_=>cases s<;>rfl
theorem FL :ae (.load1 x) t m=oN (ρ t x) (xW m):=by
 show wV t x (fun a=>match a with| .ptr id off=>bj m id fun c=>aC (iV c off) .val|_=> .fail)=_
 rw[bz]
 cases ρ t x with
 |none=>rfl
 |some v=>
  cases v with
  |ptr id off=>
   show bj m id (fun c=>aC (iV c off) .val)=xW m (.ptr id off)
   unfold bj xW
   dsimp only
   split<;>rename_i hm
   ·rw[hm];dsimp only;rw[ef];cases (_:List NV)[off]? <;>rfl
   ·split<;>rename_i h2
    ·exact I8 h2 (hm _ _)
    ·rfl
  |_=>rfl
theorem Hj {k:Nat}:ae (.fieldAddr k x) t m=oN (ρ t x) (Gp k):=by
 show wV t x (fun v=>match v with| .ptr id o=>an (Nat.add o k) fun o=> .val (.ptr id o)|_=> .fail)=_
 rw[bz]
 cases ρ t x with
 |none=>rfl
 |some v=>cases v<;>first|rfl|exact ab (R:=NR) _ (fun o=> .val (.ptr _ o))
theorem Hl {k off:Nat} {id:D4}:Gp k (.ptr id off)= .val (.ptr id (off+k)):=_root_.id rfl
end
theorem GL {b:Bool}:HK .not (.bool b)=some (.bool (!b)):=by cases b<;>rfl
end Nm
namespace Nm
open Go Go.RowKit
def rK (o:Option NV) (K:NV->Prop):Prop:=match o with|some v=>K v|none=>False
def uc (rs:List NRes) (K:NV->NH->Prop) (o:Out) (d:Dyn):Prop:=(o= .norm∨o= .ret)/\d.dfs= []/\∃v,bK d.h d.t rs .fail (fun l=> .val (fm l) d.ctx d.h)= .val v d.ctx d.h/\K v d.h
section
variable {P:Program} {S:Nat->List NV->Option NV} {L:List (D4×NV)} {t:Tm} {ctx:Option NV} {m:NH} {K:NV->NH->Prop} {k k1 k2 k3:D4}
theorem Fv {o:Out} (ho:o= .norm∨o= .ret):uc [.tmp k] K o ⟨aw L t, [],ctx,m⟩=rK (dl k L (NT.get k t)) fun v=>K v m:=by
 apply propext
 have e:∀x,NT.get k (aw L t)=x->bK m (aw L t) [.tmp k] .fail (fun l=> .val (fm l) ctx m)=(match x with|some v=>CR.val v ctx m|none=> .fail):=by
  rintro x rfl
  show (match (match NT.get k (aw L t) with|some v=>NR.val v|none=>NR.fail) with| .val v=>CR.val (fm [v]) ctx m|_=>CR.fail)=_
  cases NT.get k (aw L t)<;>rfl
 constructor
 ·rintro ⟨_,_,v,h1,h2⟩
  change bK m (aw L t) [.tmp k] .fail (fun l=> .val (fm l) ctx m)=_ at h1
  rw[e _ (dQ _ _ _)] at h1
  cases hx:dl k L (NT.get k t) with
  |none=>rw[hx] at h1;cases h1
  |some u=>rw[hx] at h1;cases h1;exact h2
 ·intro h
  cases hx:dl k L (NT.get k t) with
  |none=>rw[hx] at h;exact h.elim
  |some u=>rw[hx] at h;exact ⟨ho,rfl,u,(e _ ((dQ _ _ _).trans hx)),h⟩
theorem Dx:uc [.tmp k] K .ret ⟨aw L t, [],ctx,m⟩=rK (dl k L (NT.get k t)) fun v=>K v m:=Fv (.inr rfl)
theorem H9 {v:NV} {K:NV->Prop}:rK (some v) K=K v:=_root_.id rfl
def WF (P:Program) (S:Nat->List NV->Option NV) (f:Nat) (args:List NV) (m:NH) (K:NV->NH->Prop):Prop:=∃v c m',Call P S f args m (.val v c m')/\K v m'
theorem WF.of_wp (hs:∀f l,S f l=none) {f:Nat} {nf:NFun} (hf:ai P f=some (.code nf)) {args:List NV} {K:NV->NH->Prop} (hL:cX args 0 .leaf=aw L .leaf)
 (h:wp P S none nf.body ⟨aw L .leaf, [],none,m⟩ (uc nf.results K)):WF P S f args m K:=by
 obtain ⟨o,d,h1,ho,hd,v,hv,hK⟩:=br _ _ _ h
 rw[←hL] at h1
 exact ⟨v,d.ctx,d.h,Call.of_run (hs f) hf ho h1 hd hv (by simp),hK⟩
end
end Nm
namespace Nm
open Go Go.RowKit
variable {m:NH} {d:Option NO} {i j:Nat} {S:List D4} {K:NV->NH->Prop}
def na (m:NH) (j:Nat):D4:=D4.of (m.next.toNat+j)
def aP (m:NH) (id:D4):Prop:=id.toNat<m.next.toNat
instance (m:NH) (id:D4):Decidable (aP m id):=inferInstanceAs (Decidable (_<_))
inductive AK where
 |n (j:Nat)
 |o (id:D4)
variable {l:List (AK×NO)}
noncomputable def ph (m:NH):List (AK×NO)->NT NO
 | []=>m.m
 |(.n j,x)::l=>NT.put (na m j) x (ph m l)
 |(.o id,x)::l=>if aP m id then NT.put id x (ph m l) else ph m l
noncomputable def hp (l:List (AK×NO)) (k:Nat) (m:NH):NH:=⟨ph m l,na m k⟩
def gu (j:Nat):List (AK×NO)->Option NO->Option NO
 | [],d=>d
 |(.n i,x)::l,d=>if j=i then some x else gu j l d
 |(.o _,_)::l,d=>gu j l d
noncomputable def fF (id:D4):List (AK×NO)->Option NO->Option NO
 | [],d=>d
 |(.n _,_)::l,d=>fF id l d
 |(.o i,x)::l,d=>@ite _ (id=i) (Classical.propDecidable _) (some x) (fF id l d)
theorem dU  (h:na m i=na m j):i=j:=by
 have:=D4.of_inj h;omega
theorem BU (m:NH) (k:Nat):(na m k).nxt=na m (k+1):=by
 apply D4.toNat_inj
 rw[D4.toNat_nxt];unfold na;rw[D4.toNat_of,D4.toNat_of];omega
theorem rx (m:NH):na m 0=m.next:=D4.of_toNat _
theorem aq (m:NH):hp [] 0 m=m:=by
 show NH.mk m.m (na m 0)=m
 rw[rx]
theorem aP.ne  {id:D4} (h:aP m id) (j:Nat):id≠na m j:=by
 intro e
 unfold aP at h
 rw[e] at h;unfold na at h;rw[D4.toNat_of] at h;omega
section
variable {m:NH} {l:List (AK×NO)} {k j:Nat} {o:NO} {id:D4}
theorem DK:(hp l k m).next=na m k:=_root_.id rfl
theorem wE:(hp l k m).add o=hp ((.n k,o)::l) (k+1) m:=by
 show NH.mk (NT.put (na m k) o (ph m l)) (na m k).nxt=NH.mk (NT.put (na m k) o (ph m l)) (na m (k+1))
 rw[BU]
theorem D6:(hp l k m).put (na m j) o=hp ((.n j,o)::l) k m:=_root_.id rfl
theorem pP (h:aP m id):(hp l k m).put id o=hp ((.o id,o)::l) k m:=by
 show NH.mk (NT.put id o (ph m l)) (na m k)=NH.mk (if aP m id then NT.put id o (ph m l) else ph m l) (na m k)
 rw[Ja h]
theorem gF:(hp l k m).get (na m j)=gu j l (m.get (na m j)):=by
 show NT.get (na m j) (ph m l)=_
 induction l with
 |nil=>rfl
 |cons p l ih=>
  obtain ⟨a,x⟩:=p
  cases a with
  |n i=>
   show NT.get (na m j) (NT.put (na m i) x (ph m l))=if j=i then some x else gu j l _
   split
   ·rename_i h;rw[h];exact NT.get_put_same _ _ _
   ·rename_i h;rw[NT.get_put_ne (fun e=>h (dU e))];exact ih
  |o i=>
   show NT.get (na m j) (if aP m i then NT.put i x (ph m l) else ph m l)=gu j l _
   split
   ·rename_i h;rw[NT.get_put_ne (fun e=>h.ne j e.symm)];exact ih
   ·exact ih
theorem bi (h:aP m id):(hp l k m).get id=fF id l (m.get id):=by
 show NT.get id (ph m l)=_
 induction l with
 |nil=>rfl
 |cons p l ih=>
  obtain ⟨a,x⟩:=p
  cases a with
  |n i=>
   show NT.get id (NT.put (na m i) x (ph m l))=fF id l _
   rw[NT.get_put_ne (h.ne _)];exact ih
  |o i=>
   show NT.get id (if aP m i then NT.put i x (ph m l) else ph m l)=@ite _ (id=i) (Classical.propDecidable _) (some x) (fF id l _)
   by_cases e:id=i
   ·rw[Ja e,←e,Ja h];exact NT.get_put_same _ _ _
   ·rw[I9 e]
    split
    ·rw[NT.get_put_ne e];exact ih
    ·exact ih
theorem vd :gu j ((.n i,o)::l) d=if j=i then some o else gu j l d:=_root_.id rfl
theorem wF {i:D4}:gu j ((.o i,o)::l) d=gu j l d:=_root_.id rfl
theorem vZ :fF id [] d=d:=_root_.id rfl
theorem iF :fF id ((.n i,o)::l) d=fF id l d:=_root_.id rfl
theorem aN :fF id ((.o id,o)::l) d=some o:=Ja rfl
theorem du {i:D4} (h:id≠i):fF id ((.o i,o)::l) d=fF id l d:=I9 h
end
structure Chg (S:List D4) (m m':NH):Prop where
 next:m.next.toNat<=m'.next.toNat
 get:∀{id},aP m id->id∉S->m'.get id=m.get id
theorem Chg.old  {m':NH} {id:D4} (h:Chg S m m') (ho:aP m id):aP m' id:=Nat.lt_of_lt_of_le ho h.next
theorem Chg.refl (m:NH):Chg [] m m:=⟨Nat.le_refl _,fun _ _=>rfl⟩
theorem Chg.weak  {T:List D4} {a b:NH} (h:Chg S a b) (hs:∀id,id∈S->aP a id->id∈T):Chg T a b:=
 ⟨h.1,fun {id} ho hi=>h.2 ho fun q=>hi (hs id q ho)⟩
theorem Chg.trans  {T:List D4} {a b c:NH} (h:Chg S a b) (h':Chg T b c) (hs:∀id,id∈T->aP a id->id∈S):Chg S a c:=
 ⟨Nat.le_trans h.1 h'.1,fun {id} ho hi=>(h'.2 (h.old ho) fun q=>hi (hs id q ho)).trans (h.2 ho hi)⟩
def tO:List (AK×NO)->List D4
 | []=> []
 |(.n _,_)::l=>tO l
 |(.o i,_)::l=>i::tO l
theorem wi (l:List (AK×NO)) (k:Nat) (m:NH):Chg (tO l) m (hp l k m):=by
 refine ⟨by show m.next.toNat<=(na m k).toNat;unfold na;rw[D4.toNat_of];omega,fun {id} ho hi=> ?_⟩
 rw[bi ho]
 induction l with
 |nil=>rfl
 |cons p l ih=>
  obtain ⟨a,x⟩:=p
  cases a with
  |n i=>rw[iF];exact ih hi
  |o i=>
   have hi:id∉i::tO l:=hi
   rw[Je] at hi
   rw[du (fun e=>hi (Or.inl e))]
   exact ih fun q=>hi (Or.inr q)
theorem ah  {k:Nat} (h:j<k):aP (hp l k m) (na m j):=by
 show (na m j).toNat<(na m k).toNat
 unfold na;rw[D4.toNat_of,D4.toNat_of];omega
theorem aa  {k:Nat} {id:D4} (h:aP m id):aP (hp l k m) id:=(wi l k m).old h
theorem aE :¬aP m (na m j):=by
 show ¬(na m j).toNat<m.next.toNat
 unfold na;rw[D4.toNat_of];omega
def nK (P:Program) (S:Nat->List NV->Option NV) (f:Nat) (args:List NV) (m:NH) (v:NV) (m':NH):Prop:=∃c,Call P S f args m (.val v c m')
section
variable {P:Program} {S:Nat->List NV->Option NV} {f:Nat} {args:List NV} {m:NH}
theorem WF.ret  (h:WF P S f args m K):∃v m',nK P S f args m v m'/\K v m':=by
 obtain ⟨v,c,m',hc,hk⟩:=h;exact ⟨v,m',⟨c,hc⟩,hk⟩
theorem Call.det {x y:CR} (h:Call P S f args m x) (h':Call P S f args m y):x=y:=by
 obtain ⟨hn,n,e⟩:=h
 obtain ⟨hn',k,e'⟩:=h'
 rw[←cJ (bC (Nat.le_max_left n k)) e hn,cJ (bC (Nat.le_max_right n k)) e' hn']
theorem nK.wf {v:NV} {m':NH} (h:nK P S f args m v m'):WF P S f args m K=K v (hp [] 0 m'):=by
 rw[aq]
 apply propext
 constructor
 ·rintro ⟨u,c,n,hc,hk⟩
  obtain ⟨c',h'⟩:=h
  have:=Call.det hc h'
  injection this with a _ b
  rw[←a,←b];exact hk
 ·intro hk
  obtain ⟨c,h⟩:=h
  exact ⟨v,c,m',h,hk⟩
end
section
variable {t:Tm} {m:NH}
theorem DV {x:NOpd} {ty:Nat}:ae (.box x ty) t m=oN (ρ t x) fun v=>match cellsOf v with|some cs=> .mem (.ptr m.next 0) (m.add (.cells true cs))|none=> .fail:=by
 show wV t x (fun v=>aC (cellsOf v) fun cs=>m.new (.cells true cs) fun id h=> .mem (.ptr id 0) h)=_
 rw[bz]
 cases ρ t x with
 |none=>rfl
 |some v=>
  show aC (cellsOf v) _=(match cellsOf v with|some cs=>_|none=>NR.fail)
  cases cellsOf v with
  |none=>rfl
  |some cs=>exact NH.new_eq m (.cells true cs) (fun id h=>NR.mem (.ptr id 0) h)
theorem x9 {z:List NV} {ty:Nat}:ae (.alloc z ty) t m= .mem (.ptr m.next 0) (m.add (.cells true z)):=NH.new_eq m (.cells true z) (fun id h=>NR.mem (.ptr id 0) h)
end
end Nm
namespace Nm
open Go Go.RowKit
section
variable {P:Program} {S:Nat->List NV->Option NV}
theorem rQ.of {l:D4} {args:List NV} {m:NH} {p p1:Jump} {tm tm1:NT NV} {ps ps1:List D4} {a b a1 b1:NC} {d1 d2:Dyn} {o:Out} {x:CR}
 (hm:m.get l=some (.loop 0 p tm ps a b)) (hlen:args.length=ps.length) (ha:dy P S (some l) a ⟨lG ps args tm, [],none,m⟩ .norm d1) (hd1:d1.dfs= [])
 (hm1:d1.h.get l=some (.loop 0 p1 tm1 ps1 a1 b1)) (hb:dy P S (some l) b ⟨d1.t, [],none,d1.h.put l (.loop 1 p1 tm1 ps1 a1 b1)⟩ o d2) (ho:∀v,o≠.pan v) (hr:cP l o d2.h=x) (hne:x≠.fail):rQ P S l args m x:=by
 obtain ⟨n,hn⟩:=ha
 obtain ⟨k,hk⟩:=hb
 refine ⟨hne,max n k, ?_⟩
 have key:∀(ps:List D4) (args:List NV) (tm:Tm) (K:Tm->CR),args.length=ps.length->cQ .fail ps args tm K=K (lG ps args tm):=by
  intro ps
  induction ps with
  |nil=>intro args tm K h;cases args with
   |nil=>rfl
   |cons=>simp at h
  |cons q ps ih=>
   intro args tm K h
   cases args with
   |nil=>simp at h
   |cons v vs=>
    have e:cQ .fail (q::ps) (v::vs) tm K=NT.set q v tm fun t=>cQ .fail ps vs t K:=rfl
    rw[e,NT.set_eq]
    exact ih _ _ _ (by simpa using h)
 unfold round
 rw[hm]
 show cQ .fail ps args tm (fun t=>match ev P S (max n k) (some l) a ⟨t, [],none,m⟩ with
  | .mk .norm d=>(match d.dfs with| []=>bW (ev P S (max n k)) l b d.t d.h|_=> .fail)
  |_=> .fail)=x
 rw[key _ _ _ _ hlen,bC (Nat.le_max_left n k) _ _ _ _ _ hn]
 show (match d1.dfs with| []=>bW (ev P S (max n k)) l b d1.t d1.h|_=> .fail)=x
 rw[hd1]
 show bW (ev P S (max n k)) l b d1.t d1.h=x
 unfold bW
 rw[hm1]
 show (d1.h.set l (.loop 1 p1 tm1 ps1 a1 b1) fun h=>(match ev P S (max n k) (some l) b ⟨d1.t, [],none,h⟩ with
  | .mk o d=>(match o with
   | .pan v=>(match d.dfs with| []=>CR.pan v none d.h|_=> .fail)
   |o=>cP l o d.h)
  | .fail=> .fail))=x
 rw[NH.set_eq,bC (Nat.le_max_right n k) _ _ _ _ _ hk]
 cases o with
 |pan v=>exact I8 rfl (ho v)
 |_=>exact hr
theorem dy.range {f:Nat} {cap:List NV} {fx:NOpd} {ps:List D4} {a b:NC} {t:Tm} {dfs:List Dfr} {ctx:Option NV} {m m':NH} {v:NV} {c:Option NV} {o:Out} {d:Dyn}
 (hf:ρ t fx=some (.fn f cap)) (hc:Call P S f (.yld (m.add (.defd true)).next::cap) ((m.add (.defd true)).add (.loop 0 .none t ps a b)) (.val v c m'))
 (he:dq (m.add (.defd true)).next t (.mark m.next::dfs) ctx m'= .mk o d):dy P S none (.rangeFunc fx ps a b) ⟨t,dfs,ctx,m⟩ o d:=by
 obtain ⟨hne,k,hk⟩:=hc
 refine ⟨k+1, ?_⟩
 show (match ρ t fx with
  |some (.fn f cap)=>m.new (.defd true) fun q m=>bL P S (ev P S k) f cap ps a b t (.mark q::dfs) ctx m
  |_=>Res.fail)=_
 rw[hf]
 try dsimp only
 rw[NH.new_eq]
 unfold bL
 rw[NH.new_eq,hk]
 exact he
end
end Nm
namespace Nm
open Go Go.RowKit
variable {x:NOpd} {l:List NV} {K:List NV->NR}
section
variable {t:Tm} {m:NH}
theorem Hz {n:Nat}:ae (.loadN n x) t m=oN (ρ t x) (z6 n m):=by
 show wV t x (fun a=>match a with| .ptr id off=>bj m id fun c=>aC (dC c off n) fun l=> .val (.agg l)|_=> .fail)=_
 rw[bz]
 cases ρ t x with
 |none=>rfl
 |some v=>
  cases v with
  |ptr id off=>
   show bj m id (fun c=>aC (dC c off n) fun l=> .val (.agg l))=z6 n m (.ptr id off)
   unfold bj z6
   dsimp only
   split<;>rename_i hm
   ·rw[hm];dsimp only;rw[eu];split<;>rfl
   ·split<;>rename_i h2
    ·exact I8 h2 (hm _ _)
    ·rfl
  |_=>rfl
def FY (i:Nat) (a:NV):NR:=match a with| .tup l=>oN l[i]? .val|_=> .fail
theorem tS {i:Nat}:ae (.extract x i) t m=oN (ρ t x) (FY i):=by
 show wV t x (fun v=>match v with| .tup l=>aC (iV l i) .val|_=> .fail)=_
 rw[bz]
 cases ρ t x with
 |none=>rfl
 |some v=>
  cases v with
  |tup l=>show aC (iV l i) .val=oN l[i]? .val;rw[ef];cases l[i]? <;>rfl
  |_=>rfl
theorem Fs {i:Nat}:FY i (.tup l)=oN l[i]? .val:=_root_.id rfl
def sc (f:NV) (l:List NV):NR:=match f with| .fn f cap=> .call f (l++cap)| .yld r=> .yld r l|_=> .fail
noncomputable def xF (t:Tm):List NOpd->(List NV->NR)->NR
 | [],K=>K []
 |x::l,K=>oN (ρ t x) fun v=>xF t l fun l=>K (v::l)
theorem mS {l:List NOpd}:qQ t l .fail K=xF t l K:=by
 induction l generalizing K with
 |nil=>rfl
 |cons x l ih=>
  show Option.rec NR.fail (fun v=>qQ t l .fail fun l=>K (v::l)) (ρ t x)=oN (ρ t x) fun v=>xF t l fun l=>K (v::l)
  cases ρ t x with
  |none=>rfl
  |some v=>exact ih
theorem BY :xF t [] K=K []:=_root_.id rfl
theorem F5  {l:List NOpd}:xF t (x::l) K=oN (ρ t x) fun v=>xF t l fun l=>K (v::l):=_root_.id rfl
theorem Dy {f:NOpd} {args:List NOpd}:ae (.call f args) t m=oN (ρ t f) fun f=>xF t args (sc f):=by
 show wV t f (fun f=>qQ t args .fail fun l=>match f with| .fn f cap=>eU l cap fun l=> .call f l| .yld r=> .yld r l|_=> .fail)=_
 rw[bz]
 cases ρ t f with
 |none=>rfl
 |some f=>
  show qQ t args .fail _=xF t args (sc f)
  rw[mS]
  congr 1
  funext l
  cases f with
  |fn f cap=>exact dh l cap (fun l=>NR.call f l)
  |_=>rfl
theorem Dj {f:Nat} {cap:List NV}:sc (.fn f cap) l= .call f (l++cap):=_root_.id rfl
theorem Gh {q:D4}:sc (.yld q) l= .yld q l:=_root_.id rfl
theorem ED {f:Nat} {l:List NOpd}:ae (.mkFn f l) t m=xF t l fun l=> .val (.fn f l):=mS
end
end Nm
namespace Nm
open Go Go.RowKit
section
variable {t:Tm} {m:NH}
noncomputable def HP (n:Nat) (m:NH) (a v:NV):NR:=match a with
 | .ptr id off=>(match cellsOf v with
  |some cs=>if cs.length=n then (match m.get id with
   |some (.cells true c)=>if off+cs.length<=c.length then .mem aA (m.put id (.cells true (c.take off++cs++c.drop (off+cs.length)))) else .fail
   |_=> .fail) else .fail
  |none=> .fail)
 |_=> .fail
theorem xO {n:Nat} {a x:NOpd}:ae (.store n a x) t m=oN (ρ t a) fun a=>oN (ρ t x) fun v=>HP n m a v:=by
 show wV t a (fun a=>wV t x fun v=>match a with
  | .ptr id off=>aC (cellsOf v) fun cs=>cG cs fun k=>cond (Nat.beq k n) (storeAt m id off cs fun h=> .mem aA h) .fail
  |_=> .fail)=_
 simp only[bz]
 cases ρ t a with
 |none=>rfl
 |some a=>
  show oN (ρ t x) _=oN (ρ t x) _
  cases ρ t x with
  |none=>rfl
  |some v=>
   cases a with
   |ptr id off=>
    show aC (cellsOf v) (fun cs=>cG cs fun k=>cond (Nat.beq k n) (storeAt m id off cs fun h=> .mem aA h) .fail)=HP n m (.ptr id off) v
    unfold HP
    cases cellsOf v with
    |none=>rfl
    |some cs=>
     show cG cs (fun k=>cond (Nat.beq k n) (storeAt m id off cs fun h=> .mem aA h) .fail)=if cs.length=n then _ else _
     rw[bv]
     cases hb:Nat.beq cs.length n with
     |false=>rw[I9 (Nat.ne_of_beq_eq_false hb)];rfl
     |true=>
      rw[Ja (Jf hb)]
      show storeAt m id off cs (fun h=> .mem aA h)=_
      unfold storeAt cE
      cases hm:m.get id with
      |none=>rfl
      |some o=>
       cases o with
       |cells w c=>
        cases w with
        |false=>rfl
        |true=>
         show aC (bX cs off c) (fun c=>m.set id (.cells true c) fun h=> .mem aA h)=if off+cs.length<=c.length then _ else _
         rw[cU]
         split
         ·exact NH.set_eq m id _ (fun h=>NR.mem aA h)
         ·rfl
       |_=>rfl
   |_=>rfl
end
end Nm
namespace Nm
open Go Go.RowKit
section
variable {t:Tm} {m:NH}
noncomputable def I6 (n len:Nat) (m:NH) (o:Option (List NV)):NR:=match o with|some l=> .mem (.slc m.next 0 len n len) (m.add (.cells true l))|none=> .fail
theorem EN {z:List NV} {n len ty:Nat} {ps:List (Nat×Nat×NOpd)}:ae (.buildSlice z n len ty ps) t m=I6 n len m (bN t ps 0 z):=by
 show aC (bN t ps 0 z) (fun l=>m.new (.cells true l) fun id h=> .mem (.slc id 0 len n len) h)=_
 cases bN t ps 0 z with
 |none=>rfl
 |some l=>exact NH.new_eq m (.cells true l) (fun id h=>NR.mem (.slc id 0 len n len) h)
theorem Ir {n len:Nat} {l:List NV}:I6 n len m (some l)= .mem (.slc m.next 0 len n len) (m.add (.cells true l)):=_root_.id rfl
def oO {α β:Type} (o:Option α) (K:α->Option β):Option β:=match o with|some x=>K x|none=>none
theorem Ij {α β:Type} {x:α} {K:α->Option β}:oO (some x) K=K x:=_root_.id rfl
end
end Nm
namespace Nm
open Go Go.RowKit
variable {n:Nat}
def wQ (q:Bool) (A B:Dyn->Prop) (d:Dyn):Prop:=(q=true->A d)/\(q=false->B d)
def wC (o:Option NV) (A B:Dyn->Prop) (d:Dyn):Prop:=wB o (A d) (B d)
def wG (o:Option NV) (b:Bool) (A B:Dyn->Prop) (d:Dyn):Prop:=match o with
 |some (.bool q)=>wQ (q==b) A B d
 |some _=>B d
 |none=>False
def tq (F:Tm->List Dfr->Option NV->NH->Prop) (d:Dyn):Prop:=F d.t d.dfs d.ctx d.h
noncomputable def wt (x:NR) (v:NV):Bool:=match x with| .val u=>bp 4 u v|_=>false
section
variable {P:Program} {S:Nat->List NV->Option NV} {r:Option D4} {dst:Option D4} {op:NOp} {pre idx:Nat} {l:List NOper} {hs:List (Nat×NH)} {rs:List (Nat×(NH->NR)×NV)}
 {L:List (D4×NV)} {t:Tm} {dfs:List Dfr} {ctx:Option NV} {m m':NH} {v:NV} {k k' g:D4} {d:Dyn} {Q:Out->Dyn->Prop} {K:Dyn->Prop} {A B:Dyn->Prop} {b q:Bool}
theorem HV:wC (some (.bool q)) A B d=wQ q A B d:=_root_.id rfl
theorem G9:wQ true A B d=A d:=by simp[wQ]
theorem FZ:wQ false A B d=B d:=by simp[wQ]
theorem Ia:wG (some (.bool q)) b A B d=wQ (q==b) A B d:=_root_.id rfl
theorem Gd:wG (some aA) b A B d=B d:=_root_.id rfl
theorem ym:wO P S (⟨dst,op,some (g,b),pre,idx⟩::l) ⟨aw L t,dfs,ctx,m⟩ K=wG (dl g L (NT.get g t)) b (tq fun t dfs ctx m=>wN P S dst t dfs ctx m (ae op t m) fun d=>wO P S l d K) (tq fun t dfs ctx m=>wO P S l ⟨aF dst aA t,dfs,ctx,m⟩ K) ⟨aw L t,dfs,ctx,m⟩:=by
 unfold wG
 rw[←dQ]
 show (match av (aw L t) (some (g,b)) with|some true=>_|some false=>_|none=>False)=_
 have e:av (aw L t) (some (g,b))=(match NT.get g (aw L t) with|some (.bool q)=>some (q==b)|some _=>some false|none=>none):=by
  show Option.rec (motive:=fun _=>Option Bool) none (fun v=>NV.onBool (some false) (fun c=>some (dZ b c)) v) (NT.get g (aw L t))=_
  cases NT.get g (aw L t) with
  |none=>rfl
  |some v=>cases v with
   |bool q=>cases q<;>cases b<;>rfl
   |_=>rfl
 rw[e]
 cases NT.get g (aw L t) with
 |none=>rfl
 |some v=>cases v with
  |bool q=>
   dsimp only
   unfold wQ tq
   cases (q==b)<;>simp
  |_=>rfl
theorem uN:wD P S (⟨dst,op,some (g,b),pre,idx⟩::l) hs rs ⟨aw L t,dfs,ctx,m⟩ K=wG (dl g L (NT.get g t)) b (tq fun t dfs ctx m=>wX (ao op) (ae op t m) P S (ae op t) dst pre idx l hs rs ⟨t,dfs,ctx,m⟩ K) (tq fun t dfs ctx m=>wD P S l hs rs ⟨aF dst aA t,dfs,ctx,m⟩ K) ⟨aw L t,dfs,ctx,m⟩:=by
 unfold wG
 rw[←dQ]
 have e:av (aw L t) (some (g,b))=(match NT.get g (aw L t) with|some (.bool q)=>some (q==b)|some _=>some false|none=>none):=by
  show Option.rec (motive:=fun _=>Option Bool) none (fun v=>NV.onBool (some false) (fun c=>some (dZ b c)) v) (NT.get g (aw L t))=_
  cases NT.get g (aw L t) with
  |none=>rfl
  |some v=>cases v with
   |bool q=>cases q<;>cases b<;>rfl
   |_=>rfl
 have e2:wD P S (⟨dst,op,some (g,b),pre,idx⟩::l) hs rs ⟨aw L t,dfs,ctx,m⟩ K=(match av (aw L t) (some (g,b)) with
  |some true=>wX (ao op) (ae op (aw L t) m) P S (ae op (aw L t)) dst pre idx l hs rs ⟨aw L t,dfs,ctx,m⟩ K
  |some false=>wD P S l hs rs ⟨aF dst aA (aw L t),dfs,ctx,m⟩ K
  |none=>False):=by
  unfold wX
  simp only[wD]
  all_goals (cases av (aw L t) (some (g,b)) with
   |none=>rfl
   |some q=>cases q with
    |false=>rfl
    |true=>cases ao op<;>cases ae op (aw L t) m<;>rfl)
 rw[e2,e]
 cases NT.get g (aw L t) with
 |none=>rfl
 |some v=>cases v with
  |bool q=>
   dsimp only
   unfold wQ tq
   cases (q==b)<;>simp
  |_=>rfl
theorem xP {i:Nat} {f:NH->NR} {u:NV}:aT pre m ((i,f,u)::rs)=cond (Nat.testBit pre i) (aT pre m rs) (wt (f m) u&&aT pre m rs):=by
 show cond (Nat.testBit pre i) (aT pre m rs) (match f m with| .val v=>cond (bp 4 v u) (aT pre m rs) false|_=>false)=_
 congr 1
 cases f m with
 |val u'=>show cond (bp 4 u' u) _ false=(bp 4 u' u&&_);cases bp 4 u' u<;>rfl
 |_=>rfl
theorem y0 {i:Nat}:ahead pre ((i,m)::hs)=cond (Nat.testBit pre i) (ahead pre hs) false:=_root_.id rfl
theorem u3 {u:NV}:wt (.val u) v=bp 4 u v:=_root_.id rfl
end
theorem eZ (d:D4):aU d d=true:=ko d
theorem vg (l:List Nat):wo l l=true:=by
 induction l with
 |nil=>rfl
 |cons x l ih=>show cond (Nat.beq x x) (wo l l) false=true;rw[Nat.beq_refl];exact ih
def sB (v:NV):Prop:=match v with| .agg _| .tup _| .fn _ _| .ifc _ _=>False|_=>True
theorem gc  {v:NV} (h:sB v):bp (n+1) v v=true:=by
 show rH (bp n) v v=true
 have hi:∀z:Int,nL z z=true:=fun z=>by rw[dx];simp
 cases v with
 |bool b=>cases b<;>rfl
 |int k x=>cases x with
  |lit z=>show cond (th k k) (nL z z) false=true;rw[hi];cases k<;>rfl
 |str s=>exact vg s
 |ptr id o=>show cond (aU id id) (Nat.beq o o) false=true;rw[eZ];simp
 |slc id o n e k=>show cond (aU id id) (cond (Nat.beq o o) (cond (Nat.beq n n) (cond (Nat.beq e e) (Nat.beq k k) false) false) false) false=true;rw[eZ];simp
 |map id=>exact eZ id
 |yld id=>exact eZ id
 |agg l=>exact h.elim
 |tup l=>exact h.elim
 |fn f c=>exact h.elim
 |ifc t v=>exact h.elim
 |_=>rfl
theorem pC  {l:List NV} (h:∀v∈l,sB v):fM (bp (n+1)) l l=true:=by
 induction l with
 |nil=>rfl
 |cons x l ih=>
  show cond (bp (n+1) x x) (fM (bp (n+1)) l l) false=true
  rw[gc (h x (List.mem_cons_self ..))]
  exact ih fun v hv=>h v (List.mem_cons_of_mem _ hv)
theorem dY  {l:List NV} (h:∀v∈l,sB v):bp (n+2) (.agg l) (.agg l)=true:=pC h
theorem zU  {k:IntKind} {z:Int}:bp (n+1) (.int k (.lit z)) (.int k (.lit z))=true:=gc trivial
theorem yh  {o:Nat} {i:D4}:bp (n+1) (.ptr i o) (.ptr i o)=true:=gc trivial
end Nm
namespace Nm
open Go Go.RowKit
variable {n bytes:Nat} {id:D4} {l cs z:List NV} {a b:Int} {ps:List (Nat×Nat×NOpd)} {k:IntKind}
theorem FD  (h:-9223372036854775808<=a - b) (h':a - b<9223372036854775808):cN .num .sub (.int .i64 (.lit a)) (.int .i64 (.lit b))=some (.int .i64 (.lit (a - b))):=by
 refine (jJ rfl).trans ?_
 show bH .i64 (bo .i64 (t0 a b))=_
 rw[jM,wrap_small h h']
 exact fY _ _
theorem wP  (h:-9223372036854775808<=a*b) (h':a*b<9223372036854775808):cN .num .mul (.int .i64 (.lit a)) (.int .i64 (.lit b))=some (.int .i64 (.lit (a*b))):=by
 refine (jJ rfl).trans ?_
 show bH .i64 (bo .i64 (mN a b))=_
 rw[fh,wrap_small h h']
 exact fY _ _
theorem CL {p:Prop} [Decidable p] (h:p):decide p=true:=by simp[h]
theorem yD {p:Prop} [Decidable p] (h:¬p):decide p=false:=by simp[h]
section
variable {m:NH}
theorem HG  {off e kc:Nat}:uW (.slc id off n e kc)= .val (.int .i64 (.lit (n:Int))):=_root_.id rfl
theorem vJ  {off len e kc:Nat} {ik:IntKind} {z:Int} (h0:0<=z) (h1:z<len):iN n (.slc id off len e kc) (.int ik (.lit z))= .val (.ptr id (off+z.toNat*n)):=by
 obtain ⟨i,rfl⟩:=Jg h0
 show (if i<len then NR.val (.ptr id (off+i*n)) else .fail)= .val (.ptr id (off+i*n))
 rw[Ja (by omega)]
noncomputable def Fo (off:Nat) (o:Option NO):NR:=match o with|some (.cells _ c)=>oN c[off]? .val|_=> .fail
noncomputable def Hq (n off:Nat) (o:Option NO):NR:=match o with|some (.cells _ c)=>if off+n<=c.length then .val (.agg ((c.drop off).take n)) else .fail|_=> .fail
theorem HH  {off:Nat}:xW m (.ptr id off)=Fo off (m.get id):=_root_.id rfl
theorem G4  {off:Nat}:z6 n m (.ptr id off)=Hq n off (m.get id):=_root_.id rfl
theorem Cz {off:Nat} {w:Bool} {c:List NV}:Fo off (some (.cells w c))=oN c[off]? .val:=_root_.id rfl
theorem DX  {off:Nat} {w:Bool} {c:List NV} (h:off+n<=c.length):Hq n off (some (.cells w c))= .val (.agg ((c.drop off).take n)):=Ja h
noncomputable def H6 (n:Nat) (id:D4) (off:Nat) (m:NH) (cs:Option (List NV)) (o:Option NO):NR:=match cs with
 |some cs=>if cs.length=n then (match o with
  |some (.cells true c)=>if off+cs.length<=c.length then .mem aA (m.put id (.cells true (c.take off++cs++c.drop (off+cs.length)))) else .fail
  |_=> .fail) else .fail
 |none=> .fail
theorem Il  {off:Nat} {v:NV}:HP n m (.ptr id off) v=H6 n id off m (cellsOf v) (m.get id):=_root_.id rfl
theorem gC {c:List NV} {off:Nat} {x:NV} (h:off<c.length):c.take off++ [x]++c.drop (off+1)=c.set off x:=by
 rw[List.set_eq_take_append_cons_drop,Ja h]
 simp
theorem Fh {off:Nat} {x:NV} {c:List NV} (h:off<c.length):H6 1 id off m (some [x]) (some (.cells true c))= .mem aA (m.put id (.cells true (c.set off x))):=by
 show (if [x].length=1 then (if off+ [x].length<=c.length then NR.mem aA (m.put id (.cells true (c.take off++ [x]++c.drop (off+ [x].length)))) else .fail) else .fail)=_
 rw[Ja (show [x].length=1 from rfl),Ja (by show off+1<=_;omega)]
 show NR.mem aA (m.put id (.cells true (c.take off++ [x]++c.drop (off+1))))=_
 rw[gC h]
theorem Gq  {off:Nat} {c:List NV} (h:cs.length=n+2) (h':off+(n+2)<=c.length):H6 (n+2) id off m (some cs) (some (.cells true c))= .mem aA (m.put id (.cells true (c.take off++cs++c.drop (off+(n+2))))):=by
 rw[←h] at h' ⊢
 show (if cs.length=cs.length then (if off+cs.length<=c.length then NR.mem aA (m.put id (.cells true (c.take off++cs++c.drop (off+cs.length)))) else .fail) else .fail)=_
 rw[Ja rfl,Ja h']
end
section
variable {t:Tm} {m:NH}
def si (c:NV) (a b:Option NV):NR:=match c with| .bool c=>(if c then oN a .val else oN b .val)|_=> .fail
theorem D5 {c a b:NOpd}:ae (.pick c a b) t m=oN (ρ t c) fun c=>si c (ρ t a) (ρ t b):=by
 show wV t c (fun c=>match c with| .bool c=>Bool.rec (wV t b .val) (wV t a .val) c|_=> .fail)=_
 rw[bz]
 cases ρ t c with
 |none=>rfl
 |some v=>
  cases v with
  |bool q=>show Bool.rec (wV t b .val) (wV t a .val) q=if q then oN (ρ t a) .val else oN (ρ t b) .val;rw[bz,bz];cases q<;>rfl
  |_=>rfl
theorem yY {a b:Option NV}:si (.bool true) a b=oN a .val:=_root_.id rfl
theorem zm {a b:Option NV}:si (.bool false) a b=oN b .val:=_root_.id rfl
theorem xJ {q p r:Bool}:si (.bool q) (some (.bool p)) (some (.bool r))= .val (.bool (if q then p else r)):=by cases q<;>rfl
theorem vP {mx:Bool} {l:List NOpd}:ae (.minmax mx l) t m=xF t l fun l=>oN (ut mx l) .val:=by
 show qQ t l .fail (fun l=>aC (ut mx l) .val)=_
 rw[mS]
 congr 1
 funext l
 cases ut mx l<;>rfl
theorem G1 :ut true [.int k (.lit a),.int k (.lit b)]=some (.int k (.lit (max a b))):=by
 show Option.rec (motive:=fun _=>Option NV) none some (cond (cond true (pt a b) (pt b a)) (some (NV.int k (.lit b))) (some (.int k (.lit a))))=_
 rw[e9]
 by_cases h:a<b
 ·simp[h,Int.max_def,show a<=b by omega]
 ·simp[h,Int.max_def];omega
theorem FJ :ut false [.int k (.lit a),.int k (.lit b)]=some (.int k (.lit (min a b))):=by
 show Option.rec (motive:=fun _=>Option NV) none some (cond (cond false (pt a b) (pt b a)) (some (NV.int k (.lit b))) (some (.int k (.lit a))))=_
 rw[e9 a b,e9 b a]
 by_cases h:b<a
 ·rw[Jc h,Int.min_eq_right (by omega)];rfl
 ·rw[Jb h,Int.min_eq_left (by omega)];rfl
noncomputable def wx (z:List NV) (n bytes:Nat) (m:NH) (l c:Nat):NR:=cond (Nat.ble l c) (cond (room c bytes) (.mem (.slc m.next 0 l n c) (m.add (.cells true (rep c z)))) .fail) .fail
theorem tU  {ty:Nat} {l c:NOpd}:ae (.mkSlice z n bytes ty l c) t m=oN (ρ t l) fun l=>aC (bM l) fun l=>oN (ρ t c) fun c=>aC (bM c) fun c=>wx z n bytes m l c:=by
 show cH t l (fun l=>cH t c fun c=>cond (Nat.ble l c) (cond (room c bytes) (nk c z fun cs=>m.new (.cells true cs) fun id h=> .mem (.slc id 0 l n c) h) .fail) .fail)=_
 unfold cH
 rw[bz]
 congr 1
 funext lv
 congr 1
 funext i
 rw[bz]
 congr 1
 funext cv
 congr 1
 funext j
 rw[dJ,NH.new_eq]
 rfl
theorem EQ  {K:Nat->NR} (h:0<=a):aC (bM (.int k (.lit a))) K=K a.toNat:=by
 obtain ⟨i,rfl⟩:=Jg h
 rfl
theorem CB  {i:Nat} (h1:i*bytes<=1099511627776) (h2:i<=1099511627776):wx z n bytes m i i= .mem (.slc m.next 0 i n i) (m.add (.cells true (rep i z))):=by
 unfold wx
 rw[Nat.ble_eq_true_of_le (Nat.le_refl i)]
 have e:room i bytes=true:=by
  unfold room
  rw[show Nat.ble (Nat.mul i bytes) 1099511627776=true from Nat.ble_eq_true_of_le h1,show Nat.ble i 1099511627776=true from Nat.ble_eq_true_of_le h2]
  rfl
 rw[e];rfl
noncomputable def nP (n bytes:Nat) (m:NH) (s x:NV):NR:=eq n m x fun k new=>cO n bytes m s k new
theorem wR  {ty:Nat} {s x:NOpd}:ae (.append n bytes ty s x) t m=oN (ρ t s) fun s=>oN (ρ t x) fun x=>nP n bytes m s x:=by
 show wV t s (fun s=>wV t x fun x=>eq n m x fun k new=>cO n bytes m s k new)=_
 rw[bz];congr 1;funext s;rw[bz];rfl
noncomputable def I5 (o:Option (List NV)):NR:=match o with|some l=> .val (.agg l)|none=> .fail
theorem yX :ae (.build z ps) t m=I5 (bQ t ps z):=by
 show aC (bQ t ps z) (fun l=> .val (.agg l))=_
 cases bQ t ps z<;>rfl
theorem Ie :I5 (some l)= .val (.agg l):=_root_.id rfl
theorem Gm :bQ t [] l=some l:=_root_.id rfl
noncomputable def Fm (t:Tm) (ps:List (Nat×Nat×NOpd)) (off k:Nat) (l:List NV) (o:Option (List NV)):Option (List NV):=match o with
 |some cs=>if cs.length=k then (match bX cs off l with|some l=>bQ t ps l|none=>none) else none
 |none=>none
theorem IO  {off k:Nat} {x:NOpd}:bQ t ((off,k,x)::ps) l=oO (ρ t x) fun v=>Fm t ps off k l (cellsOf v):=by
 show Option.rec (motive:=fun _=>Option (List NV)) none (fun v:NV=>Option.rec (motive:=fun _=>Option (List NV)) none (fun cs=>cG cs fun j=>cond (Nat.beq j k) (Option.rec (motive:=fun _=>Option (List NV)) none (bQ t ps) (bX cs off l)) none) (cellsOf v)) (ρ t x)=_
 cases ρ t x with
 |none=>rfl
 |some v=>
  show Option.rec (motive:=fun _=>Option (List NV)) none (fun cs=>cG cs fun j=>cond (Nat.beq j k) (Option.rec (motive:=fun _=>Option (List NV)) none (bQ t ps) (bX cs off l)) none) (cellsOf v)=Fm t ps off k l (cellsOf v)
  cases cellsOf v with
  |none=>rfl
  |some cs=>
   show cG cs (fun j=>cond (Nat.beq j k) (Option.rec (motive:=fun _=>Option (List NV)) none (bQ t ps) (bX cs off l)) none)=if cs.length=k then _ else _
   rw[bv]
   cases hb:Nat.beq cs.length k with
   |false=>rw[I9 (Nat.ne_of_beq_eq_false hb)];rfl
   |true=>rw[Ja (Jf hb)];cases bX cs off l<;>rfl
theorem GV  {off:Nat} {x:NV} (h:off<l.length):Fm t ps off 1 l (some [x])=bQ t ps (l.set off x):=by
 show (if [x].length=1 then (match bX [x] off l with|some l=>bQ t ps l|none=>none) else none)=_
 rw[Ja (show [x].length=1 from rfl),cU,Ja (by show off+1<=_;omega)]
 show bQ t ps (l.take off++ [x]++l.drop (off+1))=_
 rw[gC h]
theorem EJ  {off k:Nat} (h:cs.length=k) (h':off+k<=l.length):Fm t ps off k l (some cs)=bQ t ps (l.take off++cs++l.drop (off+k)):=by
 subst h
 show (if cs.length=cs.length then (match bX cs off l with|some l=>bQ t ps l|none=>none) else none)=_
 rw[Ja rfl,cU,Ja h']
theorem F9  {off k:Nat} (h:cs.length=k+2) (h':off+(k+2)<=l.length):Fm t ps off (k+2) l (some cs)=bQ t ps (l.take off++cs++l.drop (off+(k+2))):=EJ h h'
end
end Nm
namespace Nm
open Go Go.RowKit
variable {n d:Nat} {K:Nat->NR} {lo hi:Option NOpd}
section
variable {t:Tm} {m:NH}
noncomputable def ic (t:Tm) (x:Option NOpd) (d:Nat) (K:Nat->NR):NR:=match x with|none=>K d|some x=>oN (ρ t x) fun v=>aC (bM v) K
theorem gd {x:Option NOpd}:cW t x d K=ic t x d K:=by
 cases x with
 |none=>rfl
 |some x=>show wV t x _=_;rw[bz];rfl
noncomputable def oL (n:Nat) (id:D4) (off len e kc a b:Nat):NR:=cond (Nat.ble a b) (cond (Nat.ble b (Bool.rec kc len (Nat.ble kc len))) (cond (Nat.beq e n) (.val (.slc id (off+a*n) (b - a) n (kc - a))) .fail) .fail) .fail
noncomputable def pj (n:Nat) (t:Tm) (lo hi:Option NOpd) (v:NV):NR:=match v with
 | .slc id off len e kc=>ic t hi len fun b=>ic t lo 0 fun a=>oL n id off len e kc a b
 | .nils=>ic t hi 0 fun b=>ic t lo 0 fun a=>cond (Nat.beq a 0) (cond (Nat.beq b 0) (.val .nils) .fail) .fail
 |_=> .fail
theorem G6  {x:NOpd}:ae (.sliceSlc n x lo hi) t m=oN (ρ t x) (pj n t lo hi):=by
 show wV t x (fun v=>match v with
  | .slc id off len e kc=>cW t hi len fun b=>cW t lo 0 fun a=>cond (Nat.ble a b) (cond (Nat.ble b (Bool.rec kc len (Nat.ble kc len))) (cond (Nat.beq e n)
   (an (Nat.add off (Nat.mul a n)) fun o=>an (Nat.sub b a) fun m=>an (Nat.sub kc a) fun k=> .val (.slc id o m n k)) .fail) .fail) .fail
  | .nils=>cW t hi 0 fun b=>cW t lo 0 fun a=>cond (Nat.beq a 0) (cond (Nat.beq b 0) (.val .nils) .fail) .fail
  |_=> .fail)=_
 rw[bz]
 congr 1
 funext v
 cases v with
 |slc id off len e kc=>
  dsimp only[pj]
  rw[gd]
  congr 1
  funext b
  rw[gd]
  congr 1
  funext a
  simp only[ab]
  rfl
 |nils=>
  dsimp only[pj]
  rw[gd]
  congr 1
  funext b
  rw[gd]
 |_=>rfl
theorem DO :ic t none d K=K d:=_root_.id rfl
theorem G3 {x:NOpd}:ic t (some x) d K=oN (ρ t x) fun v=>aC (bM v) K:=_root_.id rfl
theorem qk  {off len e kc:Nat} {id:D4}:pj n t lo hi (.slc id off len e kc)=ic t hi len fun b=>ic t lo 0 fun a=>oL n id off len e kc a b:=_root_.id rfl
theorem uH :pj n t lo hi .nils=ic t hi 0 fun b=>ic t lo 0 fun a=>cond (Nat.beq a 0) (cond (Nat.beq b 0) (.val .nils) .fail) .fail:=_root_.id rfl
theorem uO  {a b off len kc:Nat} {id:D4} (h:a<=b) (h':b<=len):oL n id off len n kc a b= .val (.slc id (off+a*n) (b - a) n (kc - a)):=by
 unfold oL
 rw[Nat.ble_eq_true_of_le h,Nat.beq_refl,show Nat.ble b (Bool.rec kc len (Nat.ble kc len))=true from Nat.ble_eq_true_of_le (by
  cases hb:Nat.ble kc len with
  |true=>exact h'
  |false=>
   have:¬kc<=len:=fun q=>by rw[Nat.ble_eq_true_of_le q] at hb;cases hb
   show b<=kc
   omega)]
 rfl
end
end Nm
namespace Nm
open Go Go.RowKit
variable {B m:NH} {n bytes:Nat} {C D:List (List NV)}
def ids:NV->List D4
 | .slc id _ _ _ _=> [id]
 |_=> []
def Sl (m:NH) (v:NV) (e:Nat) (C:List (List NV)):Prop:=(∀x∈C,x.length=e)/\((v= .nils/\C= [])∨
 ∃id off kc w c,v= .slc id off C.length e kc/\m.get id=some (.cells w c)/\aP m id/\off+C.length*e<=c.length/\(c.drop off).take (C.length*e)=C.flatten)
def bn (B m:NH) (v:NV) (e:Nat) (C:List (List NV)):Prop:=(∀x∈C,x.length=e)/\((v= .nils/\C= [])∨
 ∃id off kc c,v= .slc id off C.length e kc/\¬aP B id/\m.get id=some (.cells true c)/\aP m id/\off+C.length*e<=c.length/\off+kc*e<=c.length/\(c.drop off).take (C.length*e)=C.flatten)
theorem cR {e:Nat} (h:∀x∈C,x.length=e):C.flatten.length=C.length*e:=by
 induction C with
 |nil=>simp
 |cons a C ih=>
  rw[List.flatten_cons,List.length_append,h a (List.mem_cons_self ..),ih fun x hx=>h x (List.mem_cons_of_mem _ hx),List.length_cons,Nat.succ_mul]
  omega
theorem uz {e:Nat}:∀{C:List (List NV)} (_:∀x∈C,x.length=e) (i:Nat) (hi:i<C.length),(C.flatten.drop (i*e)).take e=C[i]:=by
 intro C
 induction C with
 |nil=>intro _ i hi;simp at hi
 |cons a C ih=>
  intro h i hi
  have ha:=h a (List.mem_cons_self ..)
  cases i with
  |zero=>
   rw[Nat.zero_mul,List.drop_zero,List.flatten_cons,List.take_append,ha,Nat.sub_self,List.take_zero,List.append_nil,←ha]
   simp
  |succ i=>
   rw[List.flatten_cons,List.drop_append,Nat.succ_mul,List.drop_eq_nil_of_le (by omega),List.nil_append,ha,Nat.add_sub_cancel]
   exact ih (fun x hx=>h x (List.mem_cons_of_mem _ hx)) i (by simpa using hi)
theorem bn.sl  {v:NV} {e:Nat} (h:bn B m v e C):Sl m v e C:=by
 obtain ⟨h0,h|⟨id,off,kc,c,h1,_,h2,h3,h4,_,h5⟩⟩:=h
 ·exact ⟨h0,Or.inl h⟩
 ·exact ⟨h0,Or.inr ⟨id,off,kc,true,c,h1,h2,h3,h4,h5⟩⟩
section
variable {m:NH} {v:NV} {e:Nat} {C:List (List NV)}
theorem Sl.len (h:Sl m v e C):uW v= .val (.int .i64 (.lit (C.length:Int))):=by
 obtain ⟨_,⟨rfl,rfl⟩|⟨id,off,kc,w,c,rfl,_⟩⟩:=h<;>rfl
theorem Sl.one (h:Sl m v e C):cellsOf v=some [v]:=by
 obtain ⟨_,⟨rfl,rfl⟩|⟨id,off,kc,w,c,rfl,_⟩⟩:=h<;>rfl
theorem sQ {c:List NV} {off e:Nat} (h:∀x∈C,x.length=e) (hn:C.length=n) (hc:off+n*e<=c.length) (hf:(c.drop off).take (n*e)=C.flatten) (i:Nat) (hi:i<C.length):
 off+i*e+e<=c.length/\(c.drop (off+i*e)).take e=C[i]:=by
 subst hn
 have h1:i*e+e<=C.length*e:=by rw[←Nat.succ_mul];exact Nat.mul_le_mul_right e hi
 refine ⟨by omega, ?_⟩
 rw[←uz h i hi,←hf,List.drop_take,List.take_take,List.drop_drop,Nat.min_eq_left (by omega)]
theorem Sl.at (h:Sl m v e C) (i:Nat) (hi:i<C.length):∃id off w c,iN e v (.int .i64 (.lit (i:Int)))= .val (.ptr id off)/\m.get id=some (.cells w c)/\aP m id/\off+e<=c.length/\(c.drop off).take e=C[i]:=by
 obtain ⟨h0,⟨rfl,rfl⟩|⟨id,off,kc,w,c,rfl,h1,h2,h3,h4⟩⟩:=h
 ·simp at hi
 ·obtain ⟨h5,h6⟩:=sQ h0 rfl h3 h4 i hi
  exact ⟨id,off+i*e,w,c,vJ (by omega) (by omega),h1,h2,h5,h6⟩
theorem Sl.chg {T:List D4} {m':NH} (h:Sl m v e C) (hc:Chg T m m') (ht:∀id∈ids v,id∉T):Sl m' v e C:=by
 obtain ⟨h0,⟨rfl,rfl⟩|⟨id,off,kc,w,c,rfl,h1,h2,h3,h4⟩⟩:=h
 ·exact ⟨h0,Or.inl ⟨rfl,rfl⟩⟩
 ·exact ⟨h0,Or.inr ⟨id,off,kc,w,c,rfl,(hc.get h2 (ht id (List.mem_cons_self ..))).trans h1,hc.old h2,h3,h4⟩⟩
theorem Sl.grew {m':NH} (h:Sl m v e C) (hc:Chg [] m m'):Sl m' v e C:=h.chg hc fun _ _=>Jd
theorem Sl.old (h:Sl m v e C):∀id∈ids v,aP m id:=by
 obtain ⟨h0,⟨rfl,rfl⟩|⟨id,off,kc,w,c,rfl,h1,h2,h3,h4⟩⟩:=h
 ·intro id hid;simp[ids] at hid
 ·intro i hi;simp[ids] at hi;rw[hi];exact h2
theorem bn.chg  {T:List D4} {m':NH} (h:bn B m v e C) (hc:Chg T m m') (ht:∀id∈ids v,id∉T):bn B m' v e C:=by
 obtain ⟨h0,⟨rfl,rfl⟩|⟨id,off,kc,c,rfl,hb,h1,h2,h3,h4⟩⟩:=h
 ·exact ⟨h0,Or.inl ⟨rfl,rfl⟩⟩
 ·exact ⟨h0,Or.inr ⟨id,off,kc,c,rfl,hb,(hc.get h2 (ht id (List.mem_cons_self ..))).trans h1,hc.old h2,h3,h4⟩⟩
theorem bn.new  (h:bn B m v e C):∀id∈ids v,¬aP B id:=by
 obtain ⟨h0,⟨rfl,rfl⟩|⟨id,off,kc,c,rfl,hb,h1,h2,h3,h4⟩⟩:=h
 ·intro id hid;simp[ids] at hid
 ·intro i hi;simp[ids] at hi;rw[hi];exact hb
theorem bn.nil :bn B m .nils e []:=⟨fun x hx=>by simp at hx,Or.inl ⟨rfl,rfl⟩⟩
theorem Sl.nil:Sl m .nils e []:=⟨fun x hx=>by simp at hx,Or.inl ⟨rfl,rfl⟩⟩
theorem bn.of  {id:D4} {k:Nat} {c:List NV} (h:∀x∈C,x.length=e) (hb:¬aP B id) (hg:m.get id=some (.cells true c)) (ho:aP m id) (hc:c=C.flatten) (hn:n=C.length) (hk:k=C.length):bn B m (.slc id 0 n e k) e C:=by
 subst hn hk hc
 have hl:=cR h
 exact ⟨h,Or.inr ⟨id,0,_,_,rfl,hb,hg,ho,by omega,by omega,by rw[List.drop_zero,←hl,List.take_length]⟩⟩
theorem bn.back  {B':NH} (h:bn B m v e C) (hb:∀id,aP B' id->aP B id):bn B' m v e C:=by
 obtain ⟨h0,⟨rfl,rfl⟩|⟨id,off,kc,c,rfl,hb',h1,h2,h3,h4⟩⟩:=h
 ·exact ⟨h0,Or.inl ⟨rfl,rfl⟩⟩
 ·exact ⟨h0,Or.inr ⟨id,off,kc,c,rfl,fun q=>hb' (hb _ q),h1,h2,h3,h4⟩⟩
theorem eN  {x:NV} (h:Sl m x n D) {K:Nat->List NV->NR}:eq n m x K=K D.length D.flatten:=by
 obtain ⟨h0,⟨rfl,rfl⟩|⟨id,off,kc,w,c,rfl,h1,h2,h3,h4⟩⟩:=h
 ·rfl
 ·show cond (Nat.beq n n) (bj m id fun c=>aC (dC c off (Nat.mul D.length n)) fun l=>K D.length l) .fail=_
  rw[Nat.beq_refl]
  show bj m id (fun c=>aC (dC c off (Nat.mul D.length n)) fun l=>K D.length l)=_
  unfold bj
  rw[h1]
  show aC (dC c off (D.length*n)) (fun l=>K D.length l)=_
  rw[eu,Ja h3,h4];rfl
theorem Chg.put (m:NH) (id:D4) (o:NO):Chg [id] m (m.put id o):=
 ⟨Nat.le_refl _,fun {i} _ hn=>NH.get_put_ne m o (by simpa using hn)⟩
theorem aP.next_ne  {i:D4} (h:aP m i):i≠m.next:=by
 intro e;rw[e] at h;exact Nat.lt_irrefl _ h
theorem Chg.add (m:NH) (o:NO):Chg [] m (m.add o):=
 ⟨by show m.next.toNat<=m.next.nxt.toNat;rw[D4.toNat_nxt];omega,fun {i} ho _=>NH.get_add_ne m o ho.next_ne⟩
theorem iB (m:NH) (o:NO):aP (m.add o) m.next:=by
 show m.next.toNat<m.next.nxt.toNat;rw[D4.toNat_nxt];omega
theorem rL  (h:n*bytes<=1099511627776) (h':n<=1099511627776):room n bytes=true:=by
 unfold room
 rw[show Nat.ble (Nat.mul n bytes) 1099511627776=true from Nat.ble_eq_true_of_le h,show Nat.ble n 1099511627776=true from Nat.ble_eq_true_of_le h']
 rfl
theorem bn.app  {x:NV} (hv:bn B m v e C) (hx:Sl m x e D) (hD:D≠ []) (hB:∀id,aP B id->aP m id) (hr:(C.length+D.length)*bytes<=1099511627776) (hr':C.length+D.length<=1099511627776):
 ∃v' m',nP e bytes m v x= .mem v' m'/\bn B m' v' e (C++D)/\Chg (ids v) m m':=by
 unfold nP
 rw[eN hx]
 have hDl:∀y∈D,y.length=e:=hx.1
 have hDp:0<D.length:=List.length_pos_iff.mpr hD
 obtain ⟨k,hk⟩:∃k,D.length=k+1:=⟨D.length - 1,by omega⟩
 have hall:∀y∈C++D,y.length=e:=fun y hy=>(List.mem_append.mp hy).elim (hv.1 y) (hDl y)
 have hnext:¬aP B m.next:=fun q=>Nat.lt_irrefl _ (hB _ q)
 obtain ⟨h0,⟨rfl,rfl⟩|⟨id,off,kc,c,rfl,hb,h1,h2,h3,h3',h4⟩⟩:=hv
 ·refine ⟨.slc m.next 0 D.length e D.length,m.add (.cells true D.flatten), ?_, ?_,Chg.add m _⟩
  ·show Nat.rec (motive:=fun _=>NR) (.val .nils) (fun _ _=>cond (room D.length bytes) (m.new (.cells true D.flatten) fun id h=> .mem (.slc id 0 D.length e D.length) h) .fail) D.length=_
   rw[rL (by simpa using hr) (by simpa using hr'),NH.new_eq,hk];rfl
  ·exact bn.of hall hnext (NH.get_add_same m _) (iB m _) (by simp) (by simp) (by simp)
 ·have e1:cO e bytes m (.slc id off C.length e kc) D.length D.flatten=(cond (Nat.ble (C.length+D.length) kc)
   (aC (bX D.flatten (off+C.length*e) c) fun c=>m.set id (.cells true c) fun h=> .mem (.slc id off (C.length+D.length) e kc) h)
   (aC (cV off c) fun c=>aC (dV (C.length*e) c) fun old=>cond (room (C.length+D.length) bytes)
    (eU old D.flatten fun l=>m.set id .dead fun h=>h.new (.cells true l) fun id h=> .mem (.slc id 0 (C.length+D.length) e (C.length+D.length)) h) .fail)):=by
   show cond (Nat.beq e e) (Nat.rec (motive:=fun _=>NR) (.val (.slc id off C.length e kc)) (fun _ _=>cE m id fun c=>an (Nat.add C.length D.length) fun n=>cond (Nat.ble n kc)
    (aC (bX D.flatten (Nat.add off (Nat.mul C.length e)) c) fun c=>m.set id (.cells true c) fun h=> .mem (.slc id off n e kc) h)
    (aC (cV off c) fun c=>aC (dV (Nat.mul C.length e) c) fun old=>cond (room n bytes)
     (eU old D.flatten fun l=>m.set id .dead fun h=>h.new (.cells true l) fun id h=> .mem (.slc id 0 n e n) h) .fail)) D.length) .fail=_
   rw[Nat.beq_refl,hk]
   show cE m id _=_
   unfold cE
   rw[h1]
   show an (C.length+(k+1)) _=_
   rw[ab]
   rfl
  rw[e1]
  have fl:=cR hDl
  have fc:=cR h0
  cases hle:Nat.ble (C.length+D.length) kc with
  |true=>
   have hle:=Nat.le_of_ble_eq_true hle
   have hm:C.length*e+D.length*e<=kc*e:=by rw[←Nat.add_mul];exact Nat.mul_le_mul_right e hle
   refine ⟨.slc id off (C.length+D.length) e kc,m.put id (.cells true (c.take (off+C.length*e)++D.flatten++c.drop (off+C.length*e+D.flatten.length))), ?_, ?_,Chg.put m id _⟩
   ·show aC (bX D.flatten (off+C.length*e) c) _=_
    rw[cU,Ja (by omega)]
    show m.set id _ _=_
    rw[NH.set_eq]
   ·refine ⟨hall,Or.inr ⟨id,off,kc,_,by rw[List.length_append],hb,NH.get_put_same m id _,h2, ?_, ?_, ?_⟩⟩
    ·simp only[List.length_append,List.length_take,List.length_drop,Nat.add_mul];omega
    ·simp only[List.length_append,List.length_take,List.length_drop];omega
    ·have e3:c.take (off+C.length*e)=c.take off++C.flatten:=by rw[List.take_add,h4]
     have e4:(c.take off).length=off:=by rw[List.length_take];omega
     have e5:(c.take off++C.flatten++D.flatten++c.drop (off+C.length*e+D.flatten.length)).drop off=C.flatten++D.flatten++c.drop (off+C.length*e+D.flatten.length):=by
      rw[List.append_assoc,List.append_assoc]
      have:=List.drop_left (l₁:=c.take off) (l₂:=C.flatten++(D.flatten++c.drop (off+C.length*e+D.flatten.length)))
      rw[e4] at this
      rw[this,List.append_assoc]
     rw[e3,e5,List.flatten_append,List.length_append,Nat.add_mul]
     rw[show C.length*e+D.length*e=(C.flatten++D.flatten).length by rw[List.length_append,fl,fc]]
     exact List.take_left
  |false=>
   refine ⟨.slc m.next 0 (C.length+D.length) e (C.length+D.length),(m.put id .dead).add (.cells true (C.flatten++D.flatten)), ?_, ?_, ?_⟩
   ·show aC (cV off c) _=_
    rw[eK,Ja (by omega)]
    show aC (dV (C.length*e) (c.drop off)) _=_
    rw[eD,Ja (by rw[List.length_drop];omega),h4]
    show cond (room (C.length+D.length) bytes) _ _=_
    rw[rL hr hr']
    show eU C.flatten D.flatten _=_
    rw[dh,NH.set_eq,NH.new_eq];rfl
   ·exact bn.of hall hnext (NH.get_add_same (m.put id .dead) _) (iB (m.put id .dead) _) (by simp) (by simp) (by simp)
   ·exact (Chg.put m id .dead).trans (Chg.add _ _) fun i hi _=>by simp at hi
theorem Sl.appNil {x:NV} (hv:Sl m v e C) (hx:Sl m x e []):nP e bytes m v x= .val v:=by
 unfold nP
 rw[eN hx]
 obtain ⟨h0,⟨rfl,rfl⟩|⟨id,off,kc,w,c,rfl,h1,h2,h3,h4⟩⟩:=hv
 ·rfl
 ·show cond (Nat.beq e e) _ _=_
  rw[Nat.beq_refl];rfl
def ll (off:Nat):List (Nat×NV)->List NV->List NV
 | [],c=>c
 |(k,x)::us,c=>ll off us (c.set (off+k) x)
theorem ki {off:Nat}:∀(us:List (Nat×NV)) (c:List NV),(ll off us c).length=c.length:=by
 intro us
 induction us with
 |nil=>intro c;rfl
 |cons u us ih=>intro c;obtain ⟨k,x⟩:=u;show (ll off us (c.set (off+k) x)).length=_;rw[ih,List.length_set]
theorem bn.at  (h:bn B m v e C) (i:Nat) (hi:i<C.length):∃id off c,iN e v (.int .i64 (.lit (i:Int)))= .val (.ptr id off)/\ids v= [id]/\¬aP B id/\m.get id=some (.cells true c)/\aP m id/\off+e<=c.length/\(c.drop off).take e=C[i]/\
 ∀(us:List (Nat×NV)) (M:NH),(∀u∈us,u.1<e)->M.get id=some (.cells true (ll off us c))->aP M id->bn B M v e (C.set i (ll 0 us C[i])):=by
 obtain ⟨h0,⟨rfl,rfl⟩|⟨id,off,kc,c,rfl,hb,h1,h2,h3,h3',h4⟩⟩:=h
 ·simp at hi
 ·obtain ⟨h5,h6⟩:=sQ h0 rfl h3 h4 i hi
  refine ⟨id,off+i*e,c,vJ (by omega) (by omega),rfl,hb,h1,h2,h5,h6,fun us M hk hM hMo=> ?_⟩
  have hlen:∀y∈C.set i (ll 0 us C[i]),y.length=e:=by
   intro y hy
   rcases List.mem_or_eq_of_mem_set hy with hy|hy
   ·exact h0 y hy
   ·rw[hy,ki];exact h0 _ (List.getElem_mem hi)
  refine ⟨hlen,Or.inr ⟨id,off,kc,_,by rw[List.length_set],hb,hM,hMo,by rw[ki,List.length_set];exact h3,by rw[ki];exact h3', ?_⟩⟩
  rw[List.length_set]
  have hone:∀(k:Nat) (x:NV) (_:k<e) (C:List (List NV)) (_:∀x∈C,x.length=e) (i:Nat) (hi:i<C.length),(C.set i (C[i].set k x)).flatten=C.flatten.set (i*e+k) x:=by
   intro k x hk C
   induction C with
   |nil=>intro _ i hi;simp at hi
   |cons a C ih=>
    intro h i hi
    have ha:=h a (List.mem_cons_self ..)
    cases i with
    |zero=>simp only[List.set_cons_zero,List.flatten_cons,List.getElem_cons_zero,Nat.zero_mul,Nat.zero_add];rw[List.set_append_left _ _ (by omega)]
    |succ i=>
     simp only[List.set_cons_succ,List.flatten_cons,List.getElem_cons_succ]
     rw[ih (fun x hx=>h x (List.mem_cons_of_mem _ hx)) i (by simpa using hi),List.set_append_right _ _ (by rw[ha,Nat.succ_mul];omega),ha,Nat.succ_mul]
     congr 2;omega
  have hall:∀(us:List (Nat×NV)) (_:∀u∈us,u.1<e) (c:List NV) (C:List (List NV)) (_:∀x∈C,x.length=e) (hi:i<C.length),(c.drop off).take (C.length*e)=C.flatten->
   ((ll (off+i*e) us c).drop off).take (C.length*e)=(C.set i (ll 0 us C[i])).flatten:=by
   intro us
   induction us with
   |nil=>intro _ c C _ hi hf;simp[ll];exact hf
   |cons u us ih=>
    obtain ⟨k,x⟩:=u
    intro hk c C hC hi hf
    have hk0:k<e:=hk (k,x) (List.mem_cons_self ..)
    have:=ih (fun u hu=>hk u (List.mem_cons_of_mem _ hu)) (c.set (off+i*e+k) x) (C.set i (C[i].set k x))
     (fun y hy=>by
      rcases List.mem_or_eq_of_mem_set hy with hy|hy
      ·exact hC y hy
      ·rw[hy,List.length_set];exact hC _ (List.getElem_mem hi))
     (by rw[List.length_set];exact hi)
     (by rw[List.length_set,hone k x hk0 C hC i hi,←hf,List.drop_set,I9 (by omega),List.take_set];congr 1;omega)
    rw[List.getElem_set_self,List.set_set] at this
    simp only[List.length_set] at this
    show ((ll (off+i*e) us (c.set (off+i*e+k) x)).drop off).take (C.length*e)=(C.set i (ll 0 us (C[i].set (0+k) x))).flatten
    rw[Nat.zero_add];exact this
  exact hall us hk c C h0 hi h4
theorem Sl.flat (h:Sl m v e C):sB v:=by
 obtain ⟨_,⟨rfl,rfl⟩|⟨id,off,kc,w,c,rfl,_⟩⟩:=h<;>trivial
theorem Sl.same (h:Sl m v e C):bp (n+1) v v=true:=gc h.flat
theorem Sl.ssl (h:Sl m v e C) {t:Tm} {lo hi:Option NOpd} {a b:Nat} (hab:a<=b) (hb:b<=C.length) (hlo:∀K:Nat->NR,ic t lo 0 K=K a) (hhi:∀(d:Nat) (K:Nat->NR),d=C.length->ic t hi d K=K b):
 ∃v',pj e t lo hi v= .val v'/\Sl m v' e ((C.drop a).take (b - a))/\(∀i∈ids v',i∈ids v):=by
 obtain ⟨h0,⟨rfl,rfl⟩|⟨id,off,kc,w,c,rfl,h1,h2,h3,h4⟩⟩:=h
 ·simp at hb
  subst hb
  have ha:a=0:=by omega
  subst ha
  refine ⟨.nils, ?_,⟨by simp,Or.inl ⟨rfl,by simp⟩⟩,fun _ h=>h⟩
  rw[uH,hhi 0 _ rfl,hlo];rfl
 ·have hlen:((C.drop a).take (b - a)).length=b - a:=by rw[List.length_take,List.length_drop];omega
  have hall:∀x∈(C.drop a).take (b - a),x.length=e:=fun x hx=>h0 x (List.mem_of_mem_drop (List.mem_of_mem_take hx))
  have hmul:a*e+(b - a)*e<=C.length*e:=by rw[←Nat.add_mul];exact Nat.mul_le_mul_right e (by omega)
  refine ⟨.slc id (off+a*e) (b - a) e (kc - a), ?_,⟨hall,Or.inr ⟨id,off+a*e,kc - a,w,c,by rw[hlen],h1,h2,by rw[hlen];omega, ?_⟩⟩,fun _ h=>h⟩
  ·rw[qk,hhi _ _ rfl,hlo,uO hab hb]
  ·rw[hlen]
   have e1:(c.drop (off+a*e)).take ((b - a)*e)=(((c.drop off).take (C.length*e)).drop (a*e)).take ((b - a)*e):=by
    rw[List.drop_take,List.take_take,List.drop_drop,Nat.min_eq_left (by omega)]
   rw[e1,h4]
   have e2:C.flatten=(C.take a).flatten++(((C.drop a).take (b - a)).flatten++((C.drop a).drop (b - a)).flatten):=by
    rw[←List.flatten_append,List.take_append_drop,←List.flatten_append,List.take_append_drop]
   have e3:((C.take a).flatten).length=a*e:=by
    rw[cR fun x hx=>h0 x (List.mem_of_mem_take hx),List.length_take,Nat.min_eq_left (by omega)]
   have e4:(((C.drop a).take (b - a)).flatten).length=(b - a)*e:=by rw[cR hall,hlen]
   rw[e2,←e3,List.drop_left,←e4,List.take_left]
theorem qu {α:Type} (n:Nat) (z:List α):Nm.rep n z=(List.replicate n z).flatten:=by
 induction n with
 |zero=>rfl
 |succ n ih=>show z++Nm.rep n z=_;rw[ih,List.replicate_succ,List.flatten_cons]
theorem dK {c cs:List NV} {off e:Nat} (h:(c.drop off).take e=cs) (k:Nat) (hk:k<e):c[off+k]? =cs[k]? :=by
 rw[←h,List.getElem?_take_of_lt hk,List.getElem?_drop]
end
end Nm
namespace Nm
open Go Go.RowKit
variable {m:NH} {l cs:List NV} {t:Tm} {k cur:Nat} {ps:List (Nat×Nat×NOpd)} {S:Nat->List NV->Option NV} {C:List (List NV)}
section
variable {L:List (D4×NV)} {t:Tm} {ctx:Option NV} {m:NH} {K:NV->NH->Prop}
theorem D9 {q:Bool}:(q==true)=q:=by cases q<;>rfl
theorem Ec {q:Bool}:(q==false)= !q:=by cases q<;>rfl
theorem cZ {l:List (AK×NO)} {S:List D4} (h:tO l=S):Chg S m (hp l k m):=h▸wi l k m
def yo (f:List NV->List NV) (o:Option (List NV)):Option (List NV):=match o with|some l=>some (f l)|none=>none
theorem Dl {f:List NV->List NV}:yo f (some l)=some (f l):=_root_.id rfl
noncomputable def Ib (t:Tm) (ps:List (Nat×Nat×NOpd)) (off k cur:Nat) (l:List NV) (o:Option (List NV)):Option (List NV):=match o with
 |some cs=>if cs.length=k/\cur<=off/\off - cur+k<=l.length then yo (fun r=>l.take (off - cur)++(cs++r)) (bN t ps (off+k) (l.drop (off - cur+k))) else none
 |none=>none
theorem Fu :bN t [] cur l=some l:=_root_.id rfl
theorem uZ {α:Type} (K:List α->Option (List α)):∀(k:Nat) (l:List α),eg k K l=if k<=l.length then (match K (l.drop k) with|some r=>some (l.take k++r)|none=>none) else none:=by
 intro k
 induction k with
 |zero=>intro l;show K l=_;simp;cases K l<;>rfl
 |succ k ih=>
  intro l
  cases l with
  |nil=>simp;rfl
  |cons a l=>
   show Option.rec (motive:=fun _=>Option (List α)) none (fun t'=>some (a::t')) (eg k K l)=_
   rw[ih]
   by_cases h:k<=l.length
   ·rw[Ja h,Ja (by simpa using h),List.drop_succ_cons]
    cases K (l.drop k)<;>rfl
   ·rw[I9 h,I9 (by simpa using h)]
theorem IR  {off:Nat} {x:NOpd}:bN t ((off,k,x)::ps) cur l=oO (ρ t x) fun v=>Ib t ps off k cur l (cellsOf v):=by
 show Option.rec (motive:=fun _=>Option (List NV)) none (fun v:NV=>Option.rec (motive:=fun _=>Option (List NV)) none (fun cs=>cG cs fun j=>cond (Nat.beq j k) (cond (Nat.ble cur off)
  (eg (Nat.sub off cur) (fun l=>Option.rec (motive:=fun _=>Option (List NV)) none (fun l=>Option.rec (motive:=fun _=>Option (List NV)) none (fun l=>eU cs l some) (bN t ps (Nat.add off j) l)) (cV j l)) l) none) none) (cellsOf v)) (ρ t x)=_
 cases ρ t x with
 |none=>rfl
 |some v=>
  show Option.rec (motive:=fun _=>Option (List NV)) none (fun cs=>cG cs fun j=>cond (Nat.beq j k) (cond (Nat.ble cur off)
   (eg (Nat.sub off cur) (fun l=>Option.rec (motive:=fun _=>Option (List NV)) none (fun l=>Option.rec (motive:=fun _=>Option (List NV)) none (fun l=>eU cs l some) (bN t ps (Nat.add off j) l)) (cV j l)) l) none) none) (cellsOf v)=Ib t ps off k cur l (cellsOf v)
  cases cellsOf v with
  |none=>rfl
  |some cs=>
   show cG cs (fun j=>cond (Nat.beq j k) (cond (Nat.ble cur off)
    (eg (Nat.sub off cur) (fun l=>Option.rec (motive:=fun _=>Option (List NV)) none (fun l=>Option.rec (motive:=fun _=>Option (List NV)) none (fun l=>eU cs l some) (bN t ps (Nat.add off j) l)) (cV j l)) l) none) none)=if cs.length=k/\cur<=off/\off - cur+k<=l.length then _ else _
   rw[bv]
   cases hb:Nat.beq cs.length k with
   |false=>rw[I9 (fun h=>Nat.ne_of_beq_eq_false hb h.1)];rfl
   |true=>
    have hk:=Jf hb
    subst hk
    cases hle:Nat.ble cur off with
    |false=>rw[I9 (fun h=>by rw[Nat.ble_eq_true_of_le h.2.1] at hle;cases hle)];rfl
    |true=>
     have hle:=Nat.le_of_ble_eq_true hle
     show eg (off - cur) (fun l=>Option.rec (motive:=fun _=>Option (List NV)) none (fun l=>Option.rec (motive:=fun _=>Option (List NV)) none (fun l=>eU cs l some) (bN t ps (off+cs.length) l)) (cV cs.length l)) l=_
     rw[uZ]
     by_cases h1:off - cur<=l.length
     ·rw[Ja h1,eK,List.length_drop]
      by_cases h2:cs.length<=l.length - (off - cur)
      ·rw[Ja h2,Ja ⟨rfl,hle,by omega⟩,List.drop_drop]
       dsimp only
       cases bN t ps (off+cs.length) (l.drop (off - cur+cs.length)) with
       |none=>rfl
       |some r=>dsimp only[yo];rw[dh]
      ·rw[I9 h2,I9 (fun h=>h2 (by omega))]
     ·rw[I9 h1,I9 (fun h=>h1 (by omega))]
theorem Hw  {off:Nat} (h1:cs.length=k) (h2:cur<=off) (h3:off - cur+k<=l.length):
 Ib t ps off k cur l (some cs)=yo (fun r=>l.take (off - cur)++(cs++r)) (bN t ps (off+k) (l.drop (off - cur+k))):=Ja ⟨h1,h2,h3⟩
theorem nK.wf' {P:Program} {f:Nat} {args:List NV} {m':NH} {v:NV} (h:nK P S f args m v m') {K:NV->NH->Prop}:WF P S f args m K=K v m':=by
 rw[h.wf,aq]
theorem vo (m:NH) (o:NO):hp [(.n 0,o)] 1 m=m.add o:=by
 have:=wE (m:=m) (l:= []) (k:=0) (o:=o)
 rw[aq] at this
 exact this.symm
theorem bn.app1  {B:NH} {v:NV} {e:Nat} {x:D4} {w:Bool} {kc bytes:Nat} (hv:bn B m v e C) (hx:m.get x=some (.cells w cs)) (hox:aP m x) (hl:cs.length=e) (hB:∀id,aP B id->aP m id)
 (hr:(C.length+1)*bytes<=1099511627776) (hr':C.length+1<=1099511627776):∃v' m',nP e bytes m v (.slc x 0 1 e kc)= .mem v' m'/\bn B m' v' e (C++ [cs])/\Chg (ids v) m m':=
 hv.app (D:= [cs]) ⟨fun y hy=>by simp at hy;rw[hy];exact hl,Or.inr ⟨x,0,kc,w,cs,rfl,hx,hox,by subst hl;simp,by subst hl;simp⟩⟩ (by simp) hB hr hr'
theorem zF {P:Program} {dst:D4} {L:List (D4×NV)} {dfs:List Dfr} {ctx:Option NV} {K:Dyn->Prop} {B:NH} {v:NV} {e:Nat} {x:D4} {w:Bool} {kc bytes:Nat} (hv:bn B m v e C) (hx:m.get x=some (.cells w cs)) (hox:aP m x) (hl:cs.length=e) (hB:∀id,aP B id->aP m id)
 (hr:(C.length+1)*bytes<=1099511627776) (hr':C.length+1<=1099511627776) (h:∀v' m',bn B m' v' e (C++ [cs])->Chg (ids v) m m'->K ⟨aw ((dst,v')::L) t,dfs,ctx,hp [] 0 m'⟩):
 wN P S (some dst) (aw L t) dfs ctx m (nP e bytes m v (.slc x 0 1 e kc)) K:=by
 obtain ⟨v',m',h1,h2,h3⟩:=hv.app1 (bytes:=bytes) (kc:=kc) hx hox hl hB hr hr'
 have:=h v' m' h2 h3
 rw[aq] at this
 rw[h1];exact this
theorem DI {b:Bool}:cellsOf (.bool b)=some [.bool b]:=_root_.id rfl
theorem GN {k:IntKind} {x:SI}:cellsOf (.int k x)=some [.int k x]:=_root_.id rfl
theorem G5 {i:D4} {o:Nat}:cellsOf (.ptr i o)=some [.ptr i o]:=_root_.id rfl
theorem BK:cellsOf (.nils)=some [.nils]:=_root_.id rfl
theorem Gv {i:D4} {o n e:Nat}:cellsOf (.slc i o n e k)=some [.slc i o n e k]:=_root_.id rfl
theorem F4 {i:D4}:cellsOf (.map i)=some [.map i]:=_root_.id rfl
theorem Ic {f:Nat}:cellsOf (.fn f l)=some [.fn f l]:=_root_.id rfl
theorem Hm :cellsOf (.agg l)=some l:=_root_.id rfl
noncomputable def Hs (m:NH) (o:Option (List NV)):NR:=match o with|some cs=> .mem (.ptr m.next 0) (m.add (.cells true cs))|none=> .fail
theorem Gt  {x:NOpd} {ty:Nat}:ae (.box x ty) t m=oN (ρ t x) fun v=>Hs m (cellsOf v):=DV
theorem FA :Hs m (some cs)= .mem (.ptr m.next 0) (m.add (.cells true cs)):=_root_.id rfl
abbrev ii (z:Int):NV:= .int .i64 (.lit z)
end
end Nm
namespace Nm
open Go Go.RowKit
variable {K Φ:NV->NH->Prop} {t:Tm} {dfs:List Dfr} {ps:List D4} {o:Out} {rs:List NRes} {Q:Out->Dyn->Prop}
def j5 (P:Program) (S:Nat->List NV->Option NV) (q:D4) (args:List NV) (m:NH) (v:NV) (m':NH):Prop:=∃c,rQ P S q args m (.val v c m')
def WY (P:Program) (S:Nat->List NV->Option NV) (q:D4) (args:List NV) (m:NH) (K:NV->NH->Prop):Prop:=∃v c m',rQ P S q args m (.val v c m')/\K v m'
section
variable {P:Program} {S:Nat->List NV->Option NV} {f:Nat} {q:D4} {args:List NV} {m:NH}
theorem rQ.det {x y:CR} (h:rQ P S q args m x) (h':rQ P S q args m y):x=y:=by
 obtain ⟨hn,n,e⟩:=h
 obtain ⟨hn',k,e'⟩:=h'
 rw[←dR (bC (Nat.le_max_left n k)) e hn,dR (bC (Nat.le_max_right n k)) e' hn']
theorem j5.wy {v:NV} {m':NH} (h:j5 P S q args m v m'):WY P S q args m K=K v (hp [] 0 m'):=by
 rw[aq]
 apply propext
 constructor
 ·rintro ⟨u,c,n,hc,hk⟩
  obtain ⟨c',h'⟩:=h
  have:=rQ.det hc h'
  injection this with a _ b
  rw[←a,←b];exact hk
 ·intro hk
  obtain ⟨c,h⟩:=h
  exact ⟨v,c,m',h,hk⟩
def BW (q:D4) (K:NV->NH->Prop) (o:Out) (d:Dyn):Prop:=match d.h.get q with
 |some (.loop _ _ tm ps a b)=>(match o with
  | .norm=>K (.bool true) (d.h.put q (.loop 0 .none tm ps a b))
  | .ret=>K (.bool false) (d.h.put q (.loop 2 .ret tm ps a b))
  | .exit i=>K (.bool false) (d.h.put q (.loop 2 (.exit i) tm ps a b))
  | .pan _=>False)
 |_=>False
theorem WY.of_wp {p:Jump} {tm:NT NV} {a b A B:NC} (hm:m.get q=some (.loop 0 p tm ps a b)) (hlen:args.length=ps.length) (ea:a=A) (eb:b=B)
 (h:wp P S (some q) A ⟨lG ps args tm, [],none,hp [] 0 m⟩ (fun o d=>o= .norm/\d.dfs= []/\d.h.get q=some (.loop 0 p tm ps a b)/\wp P S (some q) B ⟨d.t, [],none,d.h.put q (.loop 1 p tm ps a b)⟩ (BW q K))):WY P S q args m K:=by
 subst ea eb
 rw[aq] at h
 obtain ⟨o,d1,h1,rfl,hd,hq,h2⟩:=br _ _ _ h
 obtain ⟨o,d2,h3,h4⟩:=br _ _ _ h2
 unfold BW at h4
 cases hg:d2.h.get q with
 |none=>rw[hg] at h4;exact h4.elim
 |some w=>
  rw[hg] at h4
  cases w with
  |loop st p2 tm2 ps2 a2 b2=>
   cases o with
   |norm=>exact ⟨_,none,_,rQ.of hm hlen h1 hd hq h3 (by simp) (by unfold cP;rw[hg];exact NH.set_eq _ _ _ _) (by simp),h4⟩
   |ret=>exact ⟨_,none,_,rQ.of hm hlen h1 hd hq h3 (by simp) (by unfold cP;rw[hg];exact NH.set_eq _ _ _ _) (by simp),h4⟩
   |exit i=>exact ⟨_,none,_,rQ.of hm hlen h1 hd hq h3 (by simp) (by unfold cP;rw[hg];exact NH.set_eq _ _ _ _) (by simp),h4⟩
   |pan v=>exact h4.elim
  |_=>exact h4.elim
noncomputable def IB (q:D4) (K:NV->NH->Prop) (o:Out) (m:NH) (x:Option NO):Prop:=match x with
 |some (.loop _ _ tm ps a b)=>(match o with
  | .norm=>K (.bool true) (m.put q (.loop 0 .none tm ps a b))
  | .ret=>K (.bool false) (m.put q (.loop 2 .ret tm ps a b))
  | .exit i=>K (.bool false) (m.put q (.loop 2 (.exit i) tm ps a b))
  | .pan _=>False)
 |_=>False
theorem El  {ctx:Option NV}:BW q K o ⟨t,dfs,ctx,m⟩=IB q K o m (m.get q):=_root_.id rfl
section
variable {K:NV->NH->Prop} {st:Nat} {p:Jump} {tm:NT NV} {ps:List D4} {a b:NC} {i:Nat}
theorem GC:IB q K .norm m (some (.loop st p tm ps a b))=K (.bool true) (m.put q (.loop 0 .none tm ps a b)):=_root_.id rfl
theorem HF:IB q K .ret m (some (.loop st p tm ps a b))=K (.bool false) (m.put q (.loop 2 .ret tm ps a b)):=_root_.id rfl
end
theorem WY.ret  (h:WY P S q args m K):∃v m',j5 P S q args m v m'/\K v m':=by
 obtain ⟨v,c,m',hc,hk⟩:=h;exact ⟨v,m',⟨c,hc⟩,hk⟩
theorem WY.ex  (h:∀K:NV->NH->Prop,(∀v m',Φ v m'->K v m')->WY P S q args m K):∃v m',j5 P S q args m v m'/\Φ v m':=(h Φ fun _ _ h=>h).ret
theorem WF.ex  (h:∀K:NV->NH->Prop,(∀v m',Φ v m'->K v m')->WF P S f args m K):∃v m',nK P S f args m v m'/\Φ v m':=(h Φ fun _ _ h=>h).ret
def oW (ks:List D4) (t t':Tm):Prop:=∀k,k∉ks->NT.get k t'=NT.get k t
theorem oW.refl (ks:List D4) (t:Tm):oW ks t t:=fun _ _=>rfl
theorem oW.get {ks:List D4} {t':Tm} (h:oW ks t t') {k:D4} {v:Option NV} (g:NT.get k t=v) (hk:k∉ks):NT.get k t'=v:=(h k hk).trans g
theorem oW.trans {ks ls:List D4} {a b c:Tm} (h:oW ks a b) (h':oW ls b c) (hs:∀k∈ls,k∈ks):oW ks a c:=fun k hk=>(h' k fun q=>hk (hs k q)).trans (h k hk)
noncomputable def tL:List Dfr->NH->Option NH
 | [],m=>some m
 | .mark id::l,m=>(match m.get id with|some (.defd true)=>tL l (m.put id (.defd false))|_=>none)
 | .call ..::_,_=>none
def u0 (rs:List NRes) (K:NV->NH->Prop) (o:Out) (d:Dyn):Prop:=(o= .norm∨o= .ret)/\∃m',tL d.dfs d.h=some m'/\∃v,bK m' d.t rs .fail (fun l=> .val (fm l) d.ctx m')= .val v d.ctx m'/\K v m'
theorem kS {F:Nat->List NV->Option NV->NH->CR} {K:Option NV->NH->CR}:∀(l:List Dfr) (m m':NH) (p:Option NV),tL l m=some m'->unwind F K l p m=K p m':=by
 intro l
 induction l with
 |nil=>intro m m' p h;injection h with h;rw[←h];rfl
 |cons c l ih=>
  intro m m' p h
  cases c with
  |call f cap=>cases h
  |mark id=>
   show (match m.get id with
    |some (.defd true)=>m.set id (.defd false) fun h=>unwind F K l p h
    |_=>CR.fail)=_
   change (match m.get id with|some (.defd true)=>tL l (m.put id (.defd false))|_=>none)=some m' at h
   cases hg:m.get id with
   |none=>rw[hg] at h;cases h
   |some o=>
    rw[hg] at h
    cases o with
    |defd b=>cases b with
     |true=>dsimp only at h ⊢;rw[NH.set_eq];exact ih _ _ _ h
     |false=>cases h
    |_=>cases h
theorem Call.of_runM {nf:NFun} (hs:∀l,S f l=none) (hf:ai P f=some (.code nf)) {d:Dyn} {m':NH} (ho:o= .norm∨o= .ret) (h:dy P S none nf.body ⟨cX args 0 .leaf, [],none,m⟩ o d)
 (hd:tL d.dfs d.h=some m') {v:NV} (hv:bK m' d.t nf.results .fail (fun l=> .val (fm l) d.ctx m')= .val v d.ctx m'):Call P S f args m (.val v d.ctx m'):=by
 obtain ⟨n,hn⟩:=h
 refine ⟨by simp,n, ?_⟩
 unfold bJ
 rw[hs args]
 dsimp only
 rw[hf]
 show bZ P (ev P S n) 3 f args none m=_
 rw[d5,hf]
 dsimp only
 rw[hn]
 rcases ho with rfl|rfl
 ·show unwind _ (finish nf.results d) d.dfs none d.h=_
  rw[kS _ _ _ _ hd];exact hv
 ·show unwind _ (finish nf.results d) d.dfs none d.h=_
  rw[kS _ _ _ _ hd];exact hv
theorem WF.of_wpM {nf:NFun} (hs:∀l,S f l=none) (hf:ai P f=some (.code nf)) {L:List (D4×NV)} (hL:cX args 0 .leaf=aw L .leaf)
 (h:wp P S none nf.body ⟨aw L .leaf, [],none,hp [] 0 m⟩ (u0 nf.results K)):WF P S f args m K:=by
 rw[aq] at h
 obtain ⟨o,d,h1,ho,m',hd,v,hv,hK⟩:=br _ _ _ h
 rw[←hL] at h1
 exact ⟨v,d.ctx,m',Call.of_runM hs hf ho h1 hd hv,hK⟩
noncomputable def IG (rs:List NRes) (K:NV->NH->Prop) (t:Tm) (ctx:Option NV) (o:Option NH):Prop:=match o with|some m'=>uc rs K .ret ⟨t, [],ctx,m'⟩|none=>False
theorem zi  {ctx:Option NV} (ho:o= .norm∨o= .ret):u0 rs K o ⟨t,dfs,ctx,m⟩=IG rs K t ctx (tL dfs m):=by
 apply propext
 constructor
 ·rintro ⟨_,m',h1,v,h2,h3⟩
  change tL dfs m=some m' at h1
  rw[h1]
  exact ⟨Or.inr rfl,rfl,v,h2,h3⟩
 ·intro h
  cases hu:tL dfs m with
  |none=>rw[hu] at h;exact h.elim
  |some m'=>
   rw[hu] at h
   obtain ⟨_,_,v,h2,h3⟩:=h
   exact ⟨ho,m',hu,v,h2,h3⟩
theorem EP  {ctx:Option NV}:u0 rs K .ret ⟨t,dfs,ctx,m⟩=IG rs K t ctx (tL dfs m):=zi (.inr rfl)
theorem Fa  {ctx:Option NV}:IG rs K t ctx (some m)=uc rs K .ret ⟨t, [],ctx,m⟩:=_root_.id rfl
theorem zZ {r:Option D4} {g:NOpd} {a b:NC} {d:Dyn}:wp P S r (.rangeFunc g ps a b) d Q=W P S r (.rangeFunc g ps a b) d Q:=_root_.id rfl
theorem DD:tL [] m=some m:=_root_.id rfl
noncomputable def He (l:List Dfr) (i:D4) (m:NH) (o:Option NO):Option NH:=match o with|some (.defd true)=>tL l (m.put i (.defd false))|_=>none
theorem Fe {l:List Dfr} {i:D4}:tL (.mark i::l) m=He l i m (m.get i):=_root_.id rfl
theorem AY {l:List Dfr} {i:D4}:He l i m (some (.defd true))=tL l (m.put i (.defd false)):=_root_.id rfl
theorem W.range {cap:List NV} {fx:NOpd} {a b:NC} {ctx:Option NV} {M m':NH} {v:NV}
 (hf:ρ t fx=some (.fn f cap)) {x:D4} (hx:m.next=x) {y:D4} (hy:(m.add (.defd true)).next=y) (hM:(m.add (.defd true)).add (.loop 0 .none t ps a b)=M) (hc:nK P S f (.yld y::cap) M v m')
 {tm:NT NV} {ps':List D4} {a' b':NC} (hl:m'.get y=some (.loop 0 .none tm ps' a' b')) (hQ:Q .norm ⟨t,.mark x::dfs,ctx,hp [] 0 (m'.put y (.loop 3 .none tm ps' a' b'))⟩):
 W P S none (.rangeFunc fx ps a b) ⟨t,dfs,ctx,m⟩ Q:=by
 subst hx hy hM
 rw[aq] at hQ
 obtain ⟨c,hc⟩:=hc
 refine ⟨_,_,dy.range hf hc ?_,hQ⟩
 unfold dq
 rw[hl]
 dsimp only
 rw[show Nat.beq 0 1=false from rfl,cond_false,NH.set_eq]
end
end Nm
namespace Nm
open Go Go.RowKit
variable {args:List NV} {C:List (List NV)}
section
variable (P:Program) (S:Nat->List NV->Option NV) (r:Option D4)
def E5 (c:NC) (Q:Out->Dyn->Prop) (d:Dyn):Prop:=wp P S r c d Q
def xE (dst:Option D4) (t:Tm) (dfs:List Dfr) (ctx:Option NV) (m:NH) (x:NR) (l:List NOper) (K:Dyn->Prop):Prop:=wN P S dst t dfs ctx m x fun d=>wO P S l d K
def wH (dst:Option D4) (t:Tm) (dfs:List Dfr) (ctx:Option NV) (l:List NOper) (K:Dyn->Prop) (v:NV) (m:NH):Prop:=wO P S l ⟨aF dst v t,dfs,ctx,m⟩ K
def gA (dst:Option D4) (op:NOp) (l:List NOper) (K:Dyn->Prop) (d:Dyn):Prop:=xE P S dst d.t d.dfs d.ctx d.h (ae op d.t d.h) l K
def gB (dst:Option D4) (l:List NOper) (K:Dyn->Prop) (d:Dyn):Prop:=wO P S l ⟨aF dst aA d.t,d.dfs,d.ctx,d.h⟩ K
def dA (dst:Option D4) (op:NOp) (pre idx:Nat) (l:List NOper) (hs:List (Nat×NH)) (rs:List (Nat×(NH->NR)×NV)) (K:Dyn->Prop) (d:Dyn):Prop:=wX (ao op) (ae op d.t d.h) P S (ae op d.t) dst pre idx l hs rs d K
def dB (dst:Option D4) (l:List NOper) (hs:List (Nat×NH)) (rs:List (Nat×(NH->NR)×NV)) (K:Dyn->Prop) (d:Dyn):Prop:=wD P S l hs rs ⟨aF dst aA d.t,d.dfs,d.ctx,d.h⟩ K
def F8 (pre idx:Nat) (m:NH) (l:List NOper) (hs:List (Nat×NH)) (rs:List (Nat×(NH->NR)×NV)) (K:Dyn->Prop) (d:Dyn):Prop:=aT pre d.h rs=true/\wD P S l ((idx,m)::hs) rs d K
def AD (dst:Option D4) (t:Tm) (dfs:List Dfr) (ctx:Option NV) (K:Dyn->Prop) (v:NV) (m:NH):Prop:=K ⟨aF dst v t,dfs,ctx,m⟩
end
section
variable {P:Program} {S:Nat->List NV->Option NV} {r:Option D4} {dst:Option D4} {op:NOp} {pre idx:Nat} {l:List NOper} {hs:List (Nat×NH)} {rs:List (Nat×(NH->NR)×NV)}
 {L:List (D4×NV)} {t:Tm} {dfs:List Dfr} {ctx:Option NV} {m m':NH} {v:NV} {k g:D4} {d:Dyn} {Q:Out->Dyn->Prop} {K:Dyn->Prop} {b:Bool}
theorem FN {x y:NC}:wp P S r (.seq x y) d Q=wp P S r x d (fE (E5 P S r y Q) Q):=_root_.id rfl
theorem Hf {c:NC}:E5 P S r c Q d=wp P S r c d Q:=_root_.id rfl
theorem Dz {g:NOpd} {x y:NC}:wp P S r (.cond g x y) ⟨aw L t,dfs,ctx,m⟩ Q=wC (ρ (aw L t) g) (E5 P S r x Q) (E5 P S r y Q) ⟨aw L t,dfs,ctx,m⟩:=_root_.id rfl
theorem D0:wO P S (⟨dst,op,none,pre,idx⟩::l) ⟨aw L t,dfs,ctx,m⟩ K=xE P S dst (aw L t) dfs ctx m (ae op (aw L t) m) l K:=_root_.id rfl
theorem GG:xE P S (some k) (aw L t) dfs ctx m (.val v) l K=wO P S l ⟨aw ((k,v)::L) t,dfs,ctx,m⟩ K:=_root_.id rfl
theorem F7:xE P S (some k) (aw L t) dfs ctx m (.mem v m') l K=wO P S l ⟨aw ((k,v)::L) t,dfs,ctx,m'⟩ K:=_root_.id rfl
theorem Dv:xE P S none (aw L t) dfs ctx m (.mem v m') l K=wO P S l ⟨aw L t,dfs,ctx,m'⟩ K:=_root_.id rfl
theorem Ct {f:Nat}:xE P S dst t dfs ctx m (.call f args) l K=WF P S f args m (wH P S dst t dfs ctx l K):=_root_.id rfl
theorem FP {q:D4}:xE P S dst t dfs ctx m (.yld q args) l K=WY P S q args m (wH P S dst t dfs ctx l K):=_root_.id rfl
theorem zB:wH P S (some k) (aw L t) dfs ctx l K v m=wO P S l ⟨aw ((k,v)::L) t,dfs,ctx,m⟩ K:=_root_.id rfl
theorem xL:wO P S (⟨dst,op,some (g,b),pre,idx⟩::l) ⟨aw L t,dfs,ctx,m⟩ K=wG (dl g L (NT.get g t)) b (gA P S dst op l K) (gB P S dst l K) ⟨aw L t,dfs,ctx,m⟩:=ym
theorem Iq:gA P S dst op l K ⟨aw L t,dfs,ctx,m⟩=xE P S dst (aw L t) dfs ctx m (ae op (aw L t) m) l K:=_root_.id rfl
theorem Ig:gB P S (some k) l K ⟨aw L t,dfs,ctx,m⟩=wO P S l ⟨aw ((k,aA)::L) t,dfs,ctx,m⟩ K:=_root_.id rfl
theorem wM:wD P S (⟨dst,op,some (g,b),pre,idx⟩::l) hs rs ⟨aw L t,dfs,ctx,m⟩ K=wG (dl g L (NT.get g t)) b (dA P S dst op pre idx l hs rs K) (dB P S dst l hs rs K) ⟨aw L t,dfs,ctx,m⟩:=uN
theorem IS:dA P S dst op pre idx l hs rs K ⟨aw L t,dfs,ctx,m⟩=wX (ao op) (ae op (aw L t) m) P S (ae op (aw L t)) dst pre idx l hs rs ⟨aw L t,dfs,ctx,m⟩ K:=_root_.id rfl
theorem IT:dB P S (some k) l hs rs K ⟨aw L t,dfs,ctx,m⟩=wD P S l hs rs ⟨aw ((k,aA)::L) t,dfs,ctx,m⟩ K:=_root_.id rfl
def GO (P:Program) (S:Nat->List NV->Option NV) (dst:Option D4) (t:Tm) (dfs:List Dfr) (ctx:Option NV) (m:NH) (x:NR) (K:Dyn->Prop):Prop:=wN P S dst t dfs ctx m x K
section
variable {f:NH->NR}
theorem Dq {x:NR}:wX .eff x P S f dst pre idx l hs rs ⟨t,dfs,ctx,m⟩ K=(ahead pre hs=true/\GO P S dst t dfs ctx m x (F8 P S pre idx m l hs rs K)):=_root_.id rfl
end
theorem Ej:GO P S (some k) (aw L t) dfs ctx m (.val v) K=K ⟨aw ((k,v)::L) t,dfs,ctx,m⟩:=_root_.id rfl
theorem CS:GO P S (some k) (aw L t) dfs ctx m (.mem v m') K=K ⟨aw ((k,v)::L) t,dfs,ctx,m'⟩:=_root_.id rfl
theorem zw:GO P S none (aw L t) dfs ctx m (.mem v m') K=K ⟨aw L t,dfs,ctx,m'⟩:=_root_.id rfl
theorem y8 {f:Nat}:GO P S dst t dfs ctx m (.call f args) K=WF P S f args m (AD dst t dfs ctx K):=_root_.id rfl
theorem yP:AD (some k) (aw L t) dfs ctx K v m=K ⟨aw ((k,v)::L) t,dfs,ctx,m⟩:=_root_.id rfl
theorem DG {m0:NH}:F8 P S pre idx m0 l hs rs K ⟨t,dfs,ctx,m⟩=(aT pre m rs=true/\wD P S l ((idx,m0)::hs) rs ⟨t,dfs,ctx,m⟩ K):=_root_.id rfl
theorem uJ {B:NH} {e:Nat} {x:D4} {w:Bool} {cs:List NV} {kc bytes:Nat} (hv:bn B m v e C) (hx:m.get x=some (.cells w cs)) (hox:aP m x) (hl:cs.length=e) (hB:∀id,aP B id->aP m id)
 (hr:(C.length+1)*bytes<=1099511627776) (hr':C.length+1<=1099511627776) (h:∀v' m',bn B m' v' e (C++ [cs])->Chg (ids v) m m'->wO P S l ⟨aw ((k,v')::L) t,dfs,ctx,hp [] 0 m'⟩ K):
 xE P S (some k) (aw L t) dfs ctx m (nP e bytes m v (.slc x 0 1 e kc)) l K:=zF hv hx hox hl hB hr hr' h
theorem y9 {e a b:Nat} {lo hi:Option NOpd} (h:Sl m v e C) (hab:a<=b) (hb:b<=C.length) (hlo:∀K:Nat->NR,ic (aw L t) lo 0 K=K a) (hhi:∀(d:Nat) (K:Nat->NR),d=C.length->ic (aw L t) hi d K=K b)
 (hK:∀v',Sl m v' e ((C.drop a).take (b - a))->(∀i∈ids v',i∈ids v)->wO P S l ⟨aw ((k,v')::L) t,dfs,ctx,m⟩ K):xE P S (some k) (aw L t) dfs ctx m (pj e (aw L t) lo hi v) l K:=by
 obtain ⟨v',h1,h2,h3⟩:=h.ssl hab hb hlo hhi
 rw[h1];exact hK v' h2 h3
end
end Nm
namespace Nm
open Go Go.RowKit
variable {K:NV->NH->Prop} {n:Int} {k:IntKind} {rs l:List NRes}
section
variable {t:Tm} {m:NH}
theorem wrap_u64 :bo .u64 n=n % 18446744073709551616:=by rw[bF];rfl
theorem DT {a b:Int}:cN .num .add (.int .u64 (.lit a)) (.int .u64 (.lit b))=some (.int .u64 (.lit ((a+b) % 18446744073709551616))):=by
 refine (jJ rfl).trans ?_
 show bH .u64 (bo .u64 (qA a b))=_
 rw[nC,wrap_u64,aI]
theorem DS {a b:Int}:cN .num .mul (.int .u64 (.lit a)) (.int .u64 (.lit b))=some (.int .u64 (.lit ((a*b) % 18446744073709551616))):=by
 refine (jJ rfl).trans ?_
 show bH .u64 (bo .u64 (mN a b))=_
 rw[fh,wrap_u64,aI]
noncomputable def Ea (k:IntKind) (v:NV):NR:=match v with| .int _ (.lit n)=> .val (.int k (.lit (bo k n)))|_=> .fail
theorem G7  {x:NOpd}:ae (.toInt k x) t m=oN (ρ t x) (Ea k):=by
 show wV t x (fun v=>match v with| .int _ (.lit n)=>vr (bH k (bo k n))|_=> .fail)=_
 rw[bz]
 congr 1
 funext v
 cases v with
 |int k' x=>cases x with
  |lit n=>show vr (bH k (bo k n))=_;rw[aI];rfl
 |_=>rfl
theorem D3 :Ea .u64 (.int k (.lit n))= .val (.int .u64 (.lit (n % 18446744073709551616))):=by show NR.val (.int .u64 (.lit (bo .u64 n)))=_;rw[wrap_u64]
theorem DQ  (h:-9223372036854775808<=n) (h':n<9223372036854775808):Ea .i64 (.int k (.lit n))= .val (.int .i64 (.lit n)):=by show NR.val (.int .i64 (.lit (bo .i64 n)))=_;rw[wrap_small h h']
noncomputable def AC (v:NV):NR:=match v with| .ptr i o=> .val (.ptr i o)| .fn f c=> .val (.fn f c)| .yld l=> .val (.yld l)|_=> .fail
theorem BT {x:NOpd}:ae (.nilCheck x) t m=oN (ρ t x) AC:=by
 show wV t x _=_
 rw[bz]
 cases ρ t x with
 |none=>rfl
 |some v=>cases v<;>rfl
theorem zL {i:D4} {o:Nat}:AC (.ptr i o)= .val (.ptr i o):=_root_.id rfl
noncomputable def rR (x:NR) (K:NV->Prop):Prop:=match x with| .val v=>K v|_=>False
noncomputable def mg (t:Tm) (m:NH):List NRes->(List NV->Prop)->Prop
 | [],K=>K []
 | .tmp k::l,K=>rK (NT.get k t) fun v=>mg t m l fun vs=>K (v::vs)
 | .cell1 k::l,K=>rR (ae (.load1 (.tmp k)) t m) fun v=>mg t m l fun vs=>K (v::vs)
 | .cellN k n::l,K=>rR (ae (.loadN n (.tmp k)) t m) fun v=>mg t m l fun vs=>K (v::vs)
theorem vI:∀(rs:List NRes) (K:List NV->Prop) (G:List NV->CR),mg t m rs K->∃l,bK m t rs .fail G=G l/\K l:=by
 intro rs
 induction rs with
 |nil=>intro K G h;exact ⟨[],rfl,h⟩
 |cons r rs ih=>
  intro K G h
  cases r with
  |tmp k=>
   cases hv:NT.get k t with
   |none=>unfold mg at h;rw[hv] at h;exact h.elim
   |some v=>
    unfold mg at h;rw[hv] at h
    obtain ⟨l,h1,h2⟩:=ih (fun vs=>K (v::vs)) (fun l=>G (v::l)) h
    refine ⟨v::l, ?_,h2⟩
    show (match (match NT.get k t with|some v=>NR.val v|none=> .fail) with| .val v=>bK m t rs .fail (fun l=>G (v::l))|_=> .fail)=_
    rw[hv];exact h1
  |cell1 k=>
   cases hv:ae (.load1 (.tmp k)) t m with
   |val v=>
    unfold mg at h;rw[hv] at h
    obtain ⟨l,h1,h2⟩:=ih (fun vs=>K (v::vs)) (fun l=>G (v::l)) h
    refine ⟨v::l, ?_,h2⟩
    change ej (.tmp k) t m= .val v at hv
    show (match ej (.tmp k) t m with| .val v=>bK m t rs .fail (fun l=>G (v::l))|_=> .fail)=_
    rw[hv];exact h1
   |_=>unfold mg at h;rw[hv] at h;exact h.elim
  |cellN k n=>
   cases hv:ae (.loadN n (.tmp k)) t m with
   |val v=>
    unfold mg at h;rw[hv] at h
    obtain ⟨l,h1,h2⟩:=ih (fun vs=>K (v::vs)) (fun l=>G (v::l)) h
    refine ⟨v::l, ?_,h2⟩
    change ed n (.tmp k) t m= .val v at hv
    show (match ed n (.tmp k) t m with| .val v=>bK m t rs .fail (fun l=>G (v::l))|_=> .fail)=_
    rw[hv];exact h1
   |_=>unfold mg at h;rw[hv] at h;exact h.elim
def yU (rs:List NRes) (K:NV->NH->Prop) (o:Out) (d:Dyn):Prop:=(o= .norm∨o= .ret)/\d.dfs= []/\mg d.t d.h rs fun l=>K (fm l) d.h
theorem ky  {o:Out} {d:Dyn} (h:yU rs K o d):uc rs K o d:=by
 obtain ⟨h1,h2,h3⟩:=h
 obtain ⟨l,h4,h5⟩:=vI rs _ (fun l=> .val (fm l) d.ctx d.h) h3
 exact ⟨h1,h2,fm l,h4,h5⟩
theorem kl  {ctx:Option NV}:yU rs K .ret ⟨t, [],ctx,m⟩=mg t m rs (fun l=>K (fm l) m):=propext ⟨fun h=>h.2.2,fun h=>⟨.inr rfl,rfl,h⟩⟩
theorem zN  {ctx:Option NV}:yU rs K .norm ⟨t, [],ctx,m⟩=mg t m rs (fun l=>K (fm l) m):=propext ⟨fun h=>h.2.2,fun h=>⟨.inl rfl,rfl,h⟩⟩
theorem GI {K:List NV->Prop}:mg t m [] K=K []:=_root_.id rfl
theorem Ha {K:List NV->Prop} {k:D4}:mg t m (.tmp k::l) K=rK (NT.get k t) fun v=>mg t m l fun vs=>K (v::vs):=_root_.id rfl
theorem HD {K:List NV->Prop} {k:D4}:mg t m (.cell1 k::l) K=rR (ae (.load1 (.tmp k)) t m) fun v=>mg t m l fun vs=>K (v::vs):=_root_.id rfl
theorem Gu {K:List NV->Prop} {k:D4} {n:Nat}:mg t m (.cellN k n::l) K=rR (ae (.loadN n (.tmp k)) t m) fun v=>mg t m l fun vs=>K (v::vs):=_root_.id rfl
theorem IW {v:NV} {K:NV->Prop}:rR (.val v) K=K v:=_root_.id rfl
theorem xQ {v:NV}:fm [v]=v:=_root_.id rfl
theorem yF {a b:NV} {l:List NV}:fm (a::b::l)= .tup (a::b::l):=_root_.id rfl
theorem WF.of_wpG {P:Program} {S:Nat->List NV->Option NV} {f:Nat} {args:List NV} {nf:NFun} (hs:∀l,S f l=none) (hf:ai P f=some (.code nf)) {L:List (D4×NV)} (hL:cX args 0 .leaf=aw L .leaf)
 (h:wp P S none nf.body ⟨aw L .leaf, [],none,hp [] 0 m⟩ (yU nf.results K)):WF P S f args m K:=by
 rw[aq] at h
 obtain ⟨o,d,h1,h2⟩:=br _ _ _ h
 obtain ⟨ho,hd,v,hv,hK⟩:=ky h2
 rw[←hL] at h1
 exact ⟨v,d.ctx,d.h,Call.of_run hs hf ho h1 hd hv (by simp),hK⟩
end
end Nm
namespace Nm
open Go Go.RowKit
section
variable {t:Tm} {m:NH}
theorem yB:ae .mkMap t m= .mem (.map m.next) (m.add (.map [])):=NH.new_eq m (.map []) (fun id h=>NR.mem (.map id) h)
end
end Nm
namespace Nm
open Go Go.RowKit
variable {v:NV} {m:NH}
theorem ES  {id:D4}:(hp [] 0 m).get id=m.get id:=by rw[aq]
def iv:Jump->Out
 | .none=> .norm
 | .ret=> .ret
 | .exit i=> .exit i
section
variable {P:Program} {S:Nat->List NV->Option NV}
theorem W.rangeJ {cap:List NV} {fx:NOpd} {ps:List D4} {a b:NC} {t:Tm} {dfs:List Dfr} {ctx:Option NV} {Q:Out->Dyn->Prop} {m':NH} {f:Nat}
 (hf:ρ t fx=some (.fn f cap)) (hc:nK P S f (.yld (na m 1)::cap) (hp [(.n 1,.loop 0 .none t ps a b),(.n 0,.defd true)] 2 m) v m')
 {st:Nat} {p:Jump} {tm:NT NV} {ps':List D4} {a' b':NC} (hl:m'.get (na m 1)=some (.loop st p tm ps' a' b')) (hst:st≠1) (hQ:Q (iv p) ⟨t,.mark (na m 0)::dfs,ctx,hp [(.o (na m 1),.loop 3 p tm ps' a' b')] 0 m'⟩) (ho:aP m' (na m 1)):
 W P S none (.rangeFunc fx ps a b) ⟨t,dfs,ctx,m⟩ Q:=by
 have e1:(m.add (.defd true)).next=na m 1:=by rw[←vo];rfl
 have e0:m.next=na m 0:=(rx m).symm
 have e2:(m.add (.defd true)).add (.loop 0 .none t ps a b)=hp [(.n 1,.loop 0 .none t ps a b),(.n 0,.defd true)] 2 m:=by rw[←vo m (.defd true),wE]
 rw[←pP ho,aq] at hQ
 rw[←e1] at hQ hl hc
 rw[←e2] at hc
 rw[←e0] at hQ
 obtain ⟨c,hc⟩:=hc
 refine ⟨_,_,dy.range hf hc ?_,hQ⟩
 unfold dq
 rw[hl]
 dsimp only
 rw[show Nat.beq st 1=false from by cases h:Nat.beq st 1 with|false=>rfl|true=>exact I8 (Jf h) hst,cond_false,NH.set_eq]
 cases p<;>rfl
end
theorem pI {e bytes:Nat} {m':NH} {x v':NV} (h:nP e bytes m v x= .mem v' m'):∀i∈ids v',i∈ids v∨¬aP m i:=by
 have hn:¬aP m m.next:=fun q=>Nat.lt_irrefl _ q
 have new:∀{a b c d:Nat},∀i∈ids (.slc m.next a b c d),i∈ids v∨¬aP m i:=by
  intro a b c d i hi
  rcases List.mem_cons.mp hi with rfl|hi
  ·exact Or.inr hn
  ·exact I8 hi (by simp)
 have key:∀(k:Nat) (nw:List NV),cO e bytes m v k nw= .mem v' m'->∀i∈ids v',i∈ids v∨¬aP m i:=by
  intro k nw h
  cases v with
  |nils=>
   cases k with
   |zero=>cases h
   |succ k=>
    obtain ⟨-,h⟩:=ay (show cond (room (k+1) bytes) (m.new (.cells true nw) fun id h=>NR.mem (.slc id 0 (k+1) e (k+1)) h) .fail=_ from h) (by simp)
    rw[NH.new_eq] at h;cases h;exact new
  |slc id off len e' kc=>
   cases k with
   |zero=>
    obtain ⟨-,h⟩:=ay (show cond (Nat.beq e' e) (NR.val (.slc id off len e' kc)) .fail=_ from h) (by simp)
    cases h
   |succ k=>
    obtain ⟨-,h⟩:=ay (show cond (Nat.beq e' e) (cE m id fun c=>an (Nat.add len (k+1)) fun n=>cond (Nat.ble n kc)
     (aC (bX nw (Nat.add off (Nat.mul len e)) c) fun c=>m.set id (.cells true c) fun h=>NR.mem (.slc id off n e kc) h)
     (aC (cV off c) fun c=>aC (dV (Nat.mul len e) c) fun old=>cond (room n bytes)
      (eU old nw fun l=>m.set id .dead fun h=>h.new (.cells true l) fun id h=>NR.mem (.slc id 0 n e n) h) .fail)) .fail=_ from h) (by simp)
    obtain ⟨c,-,h⟩:=cM h (by simp)
    rw[ab] at h
    cases hb:Nat.ble (Nat.add len (k+1)) kc with
    |true=>
     rw[hb] at h
     obtain ⟨c',-,h⟩:=ax h (by simp)
     rw[NH.set_eq] at h
     cases h
     exact fun i hi=>Or.inl hi
    |false=>
     rw[hb] at h
     obtain ⟨c',-,h⟩:=ax h (by simp)
     obtain ⟨c'',-,h⟩:=ax h (by simp)
     obtain ⟨-,h⟩:=ay h (by simp)
     rw[dh,NH.set_eq,NH.new_eq] at h
     cases h
     exact new
  |_=>cases h
 unfold nP at h
 cases x with
 |nils=>exact key 0 [] h
 |slc id off len esz kc=>
  obtain ⟨-,h⟩:=ay (show cond (Nat.beq esz e) (bj m id (fun c=>aC (dC c off (Nat.mul len e)) fun l=>cO e bytes m v len l)) .fail=_ from h) (by simp)
  unfold bj at h
  split at h
  ·obtain ⟨l,-,h⟩:=ax h (by simp)
   exact key _ _ h
  ·cases h
 |_=>cases h
theorem bn.app2  {B:NH} {e:Nat} {C:List (List NV)} {x:D4} {w:Bool} {cs:List NV} {kc bytes:Nat} (hv:bn B m v e C) (hx:m.get x=some (.cells w cs)) (hox:aP m x) (hl:cs.length=e) (hB:∀id,aP B id->aP m id)
 (hr:(C.length+1)*bytes<=1099511627776) (hr':C.length+1<=1099511627776):∃v' m',nP e bytes m v (.slc x 0 1 e kc)= .mem v' m'/\bn B m' v' e (C++ [cs])/\Chg (ids v) m m'/\∀i∈ids v',i∈ids v∨¬aP m i:=by
 obtain ⟨v',m',h1,h2,h3⟩:=hv.app1 (bytes:=bytes) (kc:=kc) hx hox hl hB hr hr'
 exact ⟨v',m',h1,h2,h3,pI h1⟩
section
variable {P:Program} {S:Nat->List NV->Option NV} {dst:D4} {L:List (D4×NV)} {t:Tm} {dfs:List Dfr} {ctx:Option NV} {l:List NOper} {K:Dyn->Prop} {B m:NH} {v:NV} {e:Nat} {C:List (List NV)} {x:D4} {w:Bool} {cs:List NV} {kc bytes:Nat}
end
section
variable {P:Program} {S:Nat->List NV->Option NV} {f:Nat} {args:List NV} {m:NH} {K:NV->NH->Prop}
end
section
variable {P:Program} {S:Nat->List NV->Option NV} {r:Option D4} {a b:NC} {d:Dyn} {Q:Out->Dyn->Prop}
theorem H0 {c:NC} (Φ:Dyn->Prop) (h1:∀R:Dyn->Prop,(∀d',Φ d'->R d')->wp P S r a d (fE (E5 P S r b (fE R Q)) Q)) (h2:∀d',Φ d'->wp P S r c d' Q):wp P S r (.seq a (.seq b c)) d Q:=h1 _ h2
end
section
variable {P:Program} {S:Nat->List NV->Option NV} {q:D4} {args:List NV} {m:NH} {K:NV->NH->Prop}
end
section
variable {P:Program} {S:Nat->List NV->Option NV} {f:Nat} {q:D4} {args:List NV} {m:NH}
theorem WF.ex1  {Φ:NH->Prop} (h:∀K:NV->NH->Prop,(∀m',Φ m'->K v m')->WF P S f args m K):∃m',nK P S f args m v m'/\Φ m':=by
 obtain ⟨w,m',h1,rfl,h2⟩:=WF.ret (h (fun w m'=>w=v/\Φ m') fun m' h=>⟨rfl,h⟩)
 exact ⟨m',h1,h2⟩
theorem WY.ex1  {Φ:NH->Prop} (h:∀K:NV->NH->Prop,(∀m',Φ m'->K v m')->WY P S q args m K):∃m',j5 P S q args m v m'/\Φ m':=by
 obtain ⟨w,m',h1,rfl,h2⟩:=WY.ret (h (fun w m'=>w=v/\Φ m') fun m' h=>⟨rfl,h⟩)
 exact ⟨m',h1,h2⟩
end
end Nm
