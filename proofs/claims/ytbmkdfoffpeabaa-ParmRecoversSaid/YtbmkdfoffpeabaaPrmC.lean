/- A machine that runs the given program with memory and order of evaluation taken apart from the model's, the proof that what it answers is what the model answers, and rules to reason of its runs. Part 3 of 4. -/
import Derived.Below
import Derived.Test.YtbmkdfoffpeabaaPrmB
set_option linter.unusedVariables false
namespace Nm
open Go
section
variable {P:Program} {S:Nat->List NV->Option NV}
theorem tg (hM:P.follows .mixedOrders=true) {n:Nat} (hO:fF P S n) (hC:CallsOK P S (ev P S n)):fF P S (n+1):=by
 intro c nc fn bl la hc hk rnd d o d' hrun st hst B b k ι a cs w hfn hT s hsz
 have self:∀{x:Code} {nx:NC} {bl la:List Nat},bR P x=some nx->CheckCode.code P fn bl la x= .ok ()->∀{d1:Dyn} {o1:Out} {d2:Dyn},ev P S n rnd nx d1= .mk o1 d2->∀{st:Item},uC st x->
  ∀{k:List Item} {ι:aM} {a:Act} {cs:List Frame} {w:World},TR ι d1.t a.tmps->Sd P ι B rnd d1.dfs d1.ctx d1.h b a.defers cs w->fn.ntmps<=a.tmps.size->
  cz P B rnd b k (lone (b.atR a (st::k)) cs w) ι d1.ctx d1.h a.tmps.size cs w o1 d2:=
  fun hx hkx _ _ _ hr _ hs _ _ _ _ _ hT s hsz=>hO _ _ fn _ _ hx hkx rnd _ _ _ hr _ hs B b _ _ _ _ _ hfn hT s hsz
 have hcode:(∀x,c≠.loop x)->st= .code c:=fun h=>by
  rcases hst with h1|⟨x,h1,_⟩
  ·exact h1
  ·exact I5 h1 (h x)
 cases c with
 |skip=>
  rw[hcode (by simp)]
  cases hc
  have hrun':(Res.mk .norm d)= .mk o d':=hrun
  cases hrun'
  exact ⟨ι,a,cs,w,.one stepR_skip,hT,Mv.refl s,rfl⟩
 |region id ops draw=>
  rw[hcode (by simp)]
  cases draw with
  |false=>
   have hc':(match cM P ops ops.toList 0 [] with|some l=>some (NC.reg l)|none=>none)=some nc:=hc
   split at hc'
   ·rename_i l hl
    cases hc'
    have hrun':cp P S (ev P S n) rnd l d= .mk o d':=hrun
    obtain ⟨t,dfs,ctx,h⟩:=d
    refine cz.of_steps (.one stepR_region) ?_
    have:=tf (k:=k) hC (jD hk) ops.toList 0 l [] (fun j=>by simp) hl t dfs ctx h o d' hrun' ι a cs w hT s hsz
    rw[List.range_eq_range']
    simpa using this
   ·cases hc'
  |true=>
   obtain ⟨l,rfl,hL⟩:=EV hc
   have hrun':ru P S (ev P S n) l rnd d= .mk o d':=hrun
   have hs':Sd P ι B rnd d.dfs d.ctx d.h b a.defers cs w.drew:=⟨s.df,s.cx,s.rel.drew,s.base,s.rn⟩
   refine cz.undrew (cz.of_steps (.one stepR_region_draw) ?_)
   have hsch:Region.schedule (P.follows .mixedOrders) ops (w.tape w.drawn (.order b.fn id))=Region.linearise .any ops (w.tape w.drawn (.order b.fn id)):=by unfold Region.schedule;rw[hM];rfl
   rw[hsch]
   exact pJ hC (jD hk) hL hsz hrun' hs' hT rfl _
 |seq x y=>
  rw[hcode (by simp)]
  have hc':(match bR P x with|some a=>(match bR P y with|some b=>some (NC.seq a b)|none=>none)|none=>none)=some nc:=hc
  split at hc'
  ·rename_i nx hx
   split at hc'
   ·rename_i ny hy
    cases hc'
    obtain ⟨k1,k2⟩:=wj hk
    have hrun':(match ev P S n rnd nx d with
     | .mk o d=>(match o with
      | .norm=>ev P S n rnd ny d
      |o=> .mk o d)
     | .fail=> .fail)=Res.mk o d':=pC.symm.trans hrun
    refine cz.of_steps (.one stepR_seq) ?_
    cases he:ev P S n rnd nx d with
    |fail=>rw[he] at hrun';cases hrun'
    |mk o1 d1=>
     rw[he] at hrun'
     have g1:=self hx k1 he (.inl rfl) (k:= .code y::k) hT s hsz
     cases o1 with
     |norm=>
      exact g1.then fun ι' a' cs' w' hT' s' hz=>by
       have:=self hy k2 hrun' (.inl rfl) (k:=k) hT' s' (by rw[hz];exact hsz)
       rw[hz] at this;exact this
     |ret=>cases hrun';exact g1.out (by simp) (by simp)
     |exit id=>cases hrun';exact g1.out (fun _ _=>rfl) (by simp)
     |pan v=>cases hrun';exact g1.out (by simp) (by simp)
   ·cases hc'
  ·cases hc'
 |cond e x y=>
  rw[hcode (by simp)]
  have hc':(match au e with
   |some c=>(match bR P x with|some a=>(match bR P y with|some b=>some (NC.cond c a b)|none=>none)|none=>none)
   |none=>none)=some nc:=hc
  split at hc'
  ·rename_i ne hne
   split at hc'
   ·rename_i nx hx
    split at hc'
    ·rename_i ny hy
     cases hc'
     obtain ⟨k1,k2⟩:=tI hk
     have hrun':(match ρ d.t ne with
      |some (.bool c)=>Bool.rec (ev P S n rnd ny d) (ev P S n rnd nx d) c
      |_=> .fail)=Res.mk o d':=rX.symm.trans hrun
     cases hv:ρ d.t ne with
     |none=>rw[hv] at hrun';cases hrun'
     |some v=>
      rw[hv] at hrun'
      cases v with
      |bool q=>
       have hq:=jw hT e ne hne _ hv
       have hev:a.eval e= .bool q:=by generalize a.eval e=z at hq;cases hq;rfl
       refine cz.of_steps (.one (stepR_cond hev)) ?_
       cases q with
       |true=>exact self hx k1 hrun' (.inl rfl) hT s hsz
       |false=>exact self hy k2 hrun' (.inl rfl) hT s hsz
      |_=>cases hrun'
    ·cases hc'
   ·cases hc'
  ·cases hc'
 |block id x=>
  rw[hcode (by simp)]
  have hc':(match bR P x with|some a=>ak id fun id=>some (NC.block id a)|none=>none)=some nc:=hc
  split at hc'
  ·rename_i nx hx
   rw[ab] at hc'
   cases hc'
   have k1:=rg hk
   have hrun':(match ev P S n rnd nx d with
    | .mk o d=>(match o with
     | .exit i=>cond (Nat.beq i id) (.mk .norm d) (.mk (.exit i) d)
     |o=> .mk o d)
    | .fail=> .fail)=Res.mk o d':=oS.symm.trans hrun
   refine cz.of_steps (.one stepR_block) ?_
   cases he:ev P S n rnd nx d with
   |fail=>rw[he] at hrun';cases hrun'
   |mk o1 d1=>
    rw[he] at hrun'
    have g1:=self hx k1 he (.inl rfl) (k:= .inBlock id::k) hT s hsz
    cases o1 with
    |norm=>
     cases hrun'
     obtain ⟨ι1,a1,cs1,w1,q1,q2⟩:=g1
     exact ⟨ι1,a1,cs1,w1,Steps.trans q1 (.one stepR_inBlock),q2⟩
    |ret=>cases hrun';exact g1.out (by simp) (by simp)
    |exit i=>
     dsimp only at hrun'
     cases hb:Nat.beq i id with
     |true=>
      rw[hb] at hrun'
      cases hrun'
      have:=Jc hb
      subst this
      obtain ⟨ι1,a1,cs1,w1,⟨k0,q0,q1⟩,q2⟩:=g1
      refine ⟨ι1,a1,cs1,w1,Steps.trans q1 (.one (stepR_exit ?_)),q2⟩
      rw[q0];simp[exitTo]
     |false=>
      rw[hb] at hrun'
      cases hrun'
      have hne:=Nat.ne_of_beq_eq_false hb
      refine g1.out (fun i' hi'=> ?_) (by simp)
      cases hi'
      have:(id==i)=false:=by simpa using fun e=>hne e.symm
      simp[exitTo,this]
    |pan v=>cases hrun';exact g1.out (by simp) (by simp)
  ·cases hc'
 |loop x=>
  have hc':(match bR P x with|some a=>some (NC.loop a)|none=>none)=some nc:=hc
  split at hc'
  ·rename_i nx hx
   cases hc'
   have k1:=tK hk
   have hrun':(match ev P S n rnd nx d with
    | .mk o d=>(match o with
     | .norm=>ev P S n rnd (.loop nx) d
     |o=> .mk o d)
    | .fail=> .fail)=Res.mk o d':=mS.symm.trans hrun
   have h1:Steps P (lone (b.atR a (st::k)) cs w) (lone (b.atR a (.code x:: .inLoop x::k)) cs w):=by
    rcases hst with rfl|⟨y,hy,rfl⟩
    ·exact .one stepR_loop
    ·cases hy;exact .one stepR_inLoop
   refine cz.of_steps h1 ?_
   cases he:ev P S n rnd nx d with
   |fail=>rw[he] at hrun';cases hrun'
   |mk o1 d1=>
    rw[he] at hrun'
    have g1:=self hx k1 he (.inl rfl) (k:= .inLoop x::k) hT s hsz
    cases o1 with
    |norm=>
     exact g1.then fun ι' a' cs' w' hT' s' hz=>by
      have:=self hc hk hrun' (.inr ⟨x,rfl,rfl⟩) (k:=k) hT' s' (by rw[hz];exact hsz)
      rw[hz] at this;exact this
    |ret=>cases hrun';exact g1.out (by simp) (by simp)
    |exit id=>cases hrun';exact g1.out (fun _ _=>rfl) (by simp)
    |pan v=>cases hrun';exact g1.out (by simp) (by simp)
  ·cases hc'
 |exit id=>
  rw[hcode (by simp)]
  have hc':(ak id fun id=>some (NC.exit id))=some nc:=hc
  rw[ab] at hc'
  cases hc'
  have hrun':Res.mk (.exit id) d= .mk o d':=hrun
  cases hrun'
  exact ⟨ι,a,cs,w,⟨k,rfl,Steps.refl P _⟩,hT,Mv.refl s,rfl⟩
 |ret=>
  rw[hcode (by simp)]
  cases hc
  have hrun':Res.mk .ret d= .mk o d':=hrun
  cases hrun'
  exact ⟨ι,a,cs,w,⟨k,Steps.refl P _⟩,hT,Mv.refl s,rfl⟩
 |rangeFunc g ps x y=>
  rw[hcode (by simp)]
  have hc':(match au g,ph ps.toList with
   |some f,some ps=>(match bR P x with|some a=>(match bR P y with|some b=>some (NC.rangeFunc f ps a b)|none=>none)|none=>none)
   |_,_=>none)=some nc:=hc
  split at hc'
  ·rename_i nf nps hf hps
   split at hc'
   ·rename_i nx hx
    split at hc'
    ·rename_i ny hy
     cases hc'
     obtain ⟨k1,k2,k3⟩:=pP hk
     have hnps:=w5 hps
     obtain ⟨t,dfs,ctx,h⟩:=d
     have hrun':(match ρ t nf with
      |some (.fn f cap)=>(match (generalizing:=false) rnd with
       |none=>h.new (.defd true) fun m h=>bI P S (ev P S n) f cap nps nx ny t (.mark m::dfs) ctx h
       |some l=>(match h.get l with
        |some (.loop ..)=>bI P S (ev P S n) f cap nps nx ny t dfs ctx h
        |_=> .fail))
      |_=> .fail)=Res.mk o d':=hrun
     cases hv:ρ t nf with
     |none=>rw[hv] at hrun';cases hrun'
     |some v=>
      rw[hv] at hrun'
      cases v with
      |fn f cap=>
       have hq:=jw hT g nf hf _ hv
       obtain ⟨cap',hcap,hg⟩:∃cap',VRL ι cap cap'/\a.eval g= .func (.func f) #[] cap'.toArray:=by
        generalize a.eval g=z at hq
        cases hq with
        |fn _ _ cap' h=>exact ⟨cap',h,rfl⟩
       cases rnd with
       |none=>
        have hro:b.roundOf=none:=s.rn
        have hrun2:(h.new (.defd true) fun m h=>bI P S (ev P S n) f cap nps nx ny t (.mark m::dfs) ctx h)=Res.mk o d':=hrun'
        rw[NH.new_eq] at hrun2
        obtain ⟨ι1,i1,i2,i3,i4⟩:=s.rel.alloc s.base (.defd true) (.deferred (some [])) ⟨w.heap.size,0,0⟩ rfl (fun ι' _=>dc w _)
        have henter:=run_enterLoop_outer (P:=P) (w:=w) b.fn a.tmps ps x y
        have hs1:Sd P ι1 B none (.mark h.next::dfs) ctx (h.add (.defd true)) b ([{target:= .collected w.heap.size,args:=#[]}]++a.defers) cs (w.alloc (.deferred (some []))):=
         ⟨⟨⟨_,i1,rfl⟩,s.df.mono i2⟩,s.cx.mono i2,i3,Nat.le_trans s.base i4.size,s.rn⟩
        have g:=gp (k:=k) hC hfn hx hy k2 k3 hnps k1 hrun2 (w0:=w) (mark:= [{target:= .collected w.heap.size,args:=#[]}]) (r:=w.heap.size) (hT.mono i2) hs1 hsz (hcap.mono i2) hg (by rw[hro,henter];simp)
        obtain ⟨ι2,a2,cs2,w2,q1,q2,q3,q4⟩:=g
        exact ⟨ι2,a2,cs2,w2,q1,q2,⟨q3.sd,i4.trans q3.gr,q3.ca⟩,q4⟩
       |some l0=>
        obtain ⟨p0,hp0,hro⟩:=s.rn
        have hrun2:(match h.get l0 with
         |some (.loop ..)=>bI P S (ev P S n) f cap nps nx ny t dfs ctx h
         |_=> .fail)=Res.mk o d':=hrun'
        obtain ⟨ob,ho1,ho2⟩:=s.rel.obj _ _ hp0
        rw[ho1] at hrun2
        cases ob with
        |loop st pd tm ps2 a2 b2=>
         obtain ⟨L3,l1,_⟩:=ho2
         have henter:(Instr.enterLoop b.fn a.tmps ps x y (some p0.b)).run P w= .ok (w.heap.size, []) (w.alloc (.loop {state:= .ready,pending:=none,fn:=b.fn,tmps:=a.tmps,params:=ps,assign:=x,body:=y,defers:=L3.defers})):=by
          unfold Instr.enterLoop
          simp only[Sem.run_bind,run_getLoop l1,run_newObj_alloc,Result.andThen,Sem.run_pure]
         exact gp (k:=k) hC hfn hx hy k2 k3 hnps k1 hrun2 (w0:=w) (mark:= []) (r:=L3.defers) hT s hsz hcap hg (by rw[hro,henter])
        |_=>cases hrun2
      |_=>cases hrun'
    ·cases hc'
   ·cases hc'
  ·cases hc'
 |_=>cases hc
end
end Nm
namespace Nm
open Go
variable {ι:aM} {m:FrameMode} {w:World} {tmps:Array Value}
def sx (ι:aM):Option NV->FrameMode->Prop
 |none,m=>m= .returning
 |some v,m=>∃v',m= .panicking [{v:=v',recovered:=false}]/\VR ι v v'
theorem sx.mono  {ι':aM} (hι:ι.le ι') {p:Option NV} (h:sx ι p m):sx ι' p m:=by
 cases p with
 |none=>exact h
 |some v=>obtain ⟨v',h1,h2⟩:=h;exact ⟨v',h1,h2.mono hι⟩
theorem sx.ne_run  {p:Option NV} (h:sx ι p m):m≠.run:=by
 cases p with
 |none=>rw[show m= .returning from h];simp
 |some v=>obtain ⟨v',h1,h2⟩:=h;rw[h1];simp
theorem sx.settle  {p:Option NV} (h:sx ι p m):Go.settle m=m:=by
 cases p with
 |none=>rw[show m= .returning from h];rfl
 |some v=>obtain ⟨v',h1,h2⟩:=h;rw[h1];rfl
theorem sx.ctx  {p:Option NV} {c:Frame} {cs:List Frame} (h:sx ι p c.mode):qM ι .deferred (c::cs) p:=by
 cases p with
 |none=>
  intro b hb
  have h':c.mode= .returning:=h
  unfold tryRecover
  rw[hb]
  simp only[h']
 |some v=>
  obtain ⟨v',h1,h2⟩:=h
  exact ⟨rfl,c,cs,v', [],rfl,h1,h2⟩
section
variable {P:Program} {S:Nat->List NV->Option NV} {B:Nat}
def yd (tmps:Array Value):ResultVar->Sem Value
 | .tmp t=>pure (tmps.getD t undef)
 | .cell a t=>do loadVar t (←asAddr (tmps.getD a undef))
theorem qf (fn:Func) (tmps:Array Value):results fn tmps=(do let vs ←fn.results.mapM (yd tmps);pure (if h:vs.size=1 then vs[0] else .tuple vs)):=by
 unfold results
 congr 1
noncomputable def ni (h:NH) (t:Tm):NRes->NR
 | .tmp k=>(match NT.get k t with|some v=>NR.val v|none=> .fail)
 | .cell1 k=>d8 (.tmp k) t h
 | .cellN k n=>ee n (.tmp k) t h
theorem nj (h:NH) (t:Tm) (r:NRes) (l:List NRes) (F:CR) (K:List NV->CR):
 bJ h t (r::l) F K=(match ni h t r with| .val v=>bJ h t l F fun l=>K (v::l)|_=>F):=by
 cases r<;>rfl
theorem lk  {T:TypeId} {v:Value} {u:Value} (h:aB ((Instr.loadAt T v).run P w)= .ok (.value u) w):(do loadVar T (←asAddr v):Sem Value).run P w= .ok u w:=by
 cases v with
 |pointer a=>
  cases a with
  |none=>simp[aB,Instr.loadAt,Instr.sureAddr,stuck,Sem.run_bind,Sem.run,Result.andThen] at h
  |some a=>
   simp only[aB,Instr.loadAt,Instr.sureAddr,asAddr,Sem.run_bind,Sem.run_pure,Result.andThen] at h ⊢
   cases hr:Sem.run P (loadVar T a) w with
   |ok x w1=>rw[hr] at h;cases h;rfl
   |halt x w1=>rw[hr] at h;cases h
 |_=>simp[aB,Instr.loadAt,Instr.sureAddr,stuck,Sem.run_bind,Sem.run,Result.andThen] at h
theorem uj  {h:NH} {t:Tm} (hT:TR ι t tmps) (hR:Rel P ι B h w) {r0:CR} (hr0:r0≠.fail):∀(l:List ResultVar) (nl:List NRes) (K:List NV->CR),cl P l=some nl->bJ h t nl .fail K=r0->
 ∃vs vs',K vs=r0/\VRL ι vs vs'/\(l.mapM (yd tmps)).run P w= .ok vs' w:=by
 have ov:∀k:Nat,OV ι t (.tmp (D4.of k)) (tmps.getD k undef):=by
  intro k v hv
  obtain ⟨v',h1,h2⟩:=hT k v hv
  rw[sK h1];exact h2
 intro l
 induction l with
 |nil=>
  intro nl K hc hk
  cases hc
  exact ⟨[], [],hk,.nil,by simp⟩
 |cons r l ih=>
  intro nl K hc hk
  have step:∀{nr:NRes} {nl':List NRes},cl P l=some nl'->nl=nr::nl'->(∀v,ni h t nr= .val v->∃v',(yd tmps r).run P w= .ok v' w/\VR ι v v')->
   ∃vs vs',K vs=r0/\VRL ι vs vs'/\((r::l).mapM (yd tmps)).run P w= .ok vs' w:=by
   intro nr nl' h1 h2 h3
   subst h2
   rw[nj] at hk
   cases hv:ni h t nr with
   |val v=>
    rw[hv] at hk
    obtain ⟨v',q1,q2⟩:=h3 v hv
    obtain ⟨vs,vs',p1,p2,p3⟩:=ih nl' _ h1 hk
    refine ⟨v::vs,v'::vs',p1,.cons _ _ _ _ q2 p2, ?_⟩
    rw[List.mapM_cons]
    simp only[Sem.run_bind,q1,p3,Result.andThen,Sem.run_pure]
   |_=>rw[hv] at hk;exact I5 hk.symm hr0
  cases r with
  |tmp k=>
   have hc':(match cl P l with|some l=>D4.ofNat k fun t=>some (NRes.tmp t::l)|none=>none)=some nl:=by
    have e:cl P (.tmp k::l)=(match ResultVar.tmp k,cl P l with
     | .tmp t,some l=>D4.ofNat t fun t=>some (.tmp t::l)
     | .cell t ty,some l=>(match iN P ty with
      |some none=>D4.ofNat t fun t=>some (.cell1 t::l)
      |some (some n)=>D4.ofNat t fun t=>some (.cellN t n::l)
      |none=>none)
     |_,none=>none):=rfl
    rw[e] at hc
    cases hl:cl P l with
    |none=>rw[hl] at hc;exact hc
    |some l1=>rw[hl] at hc;exact hc
   cases hl:cl P l with
   |none=>rw[hl] at hc';cases hc'
   |some l1=>
    rw[hl] at hc'
    have hc2:(D4.ofNat k fun t=>some (NRes.tmp t::l1))=some nl:=hc'
    rw[D4.ofNat_eq] at hc2
    refine step hl (Option.some.inj hc2).symm fun v hv=> ?_
    have hv':(match NT.get (D4.of k) t with|some v=>NR.val v|none=> .fail)=NR.val v:=hv
    cases hg:NT.get (D4.of k) t with
    |none=>rw[hg] at hv';cases hv'
    |some u=>
     rw[hg] at hv';cases hv'
     exact ⟨_,rfl,ov k _ hg⟩
  |cell k T=>
   have e:cl P (.cell k T::l)=(match ResultVar.cell k T,cl P l with
    | .tmp t,some l=>D4.ofNat t fun t=>some (.tmp t::l)
    | .cell t ty,some l=>(match iN P ty with
     |some none=>D4.ofNat t fun t=>some (.cell1 t::l)
     |some (some n)=>D4.ofNat t fun t=>some (.cellN t n::l)
     |none=>none)
    |_,none=>none):=rfl
   rw[e] at hc
   cases hl:cl P l with
   |none=>rw[hl] at hc;cases hc
   |some l1=>
    rw[hl] at hc
    dsimp only at hc
    cases ha:iN P T with
    |none=>rw[ha] at hc;cases hc
    |some q=>
     rw[ha] at hc
     cases q with
     |none=>
      have hc2:(D4.ofNat k fun t=>some (NRes.cell1 t::l1))=some nl:=hc
      rw[D4.ofNat_eq] at hc2
      refine step hl (Option.some.inj hc2).symm fun v hv=> ?_
      have:=jG (B:=B) (h:=h) (w:=w) ha (ov k) hR
      rw[show d8 (.tmp (D4.of k)) t h= .val v from hv] at this
      obtain ⟨v',h1,h2⟩:=this
      exact ⟨v',lk h1,h2⟩
     |some m=>
      have hc2:(D4.ofNat k fun t=>some (NRes.cellN t m::l1))=some nl:=hc
      rw[D4.ofNat_eq] at hc2
      refine step hl (Option.some.inj hc2).symm fun v hv=> ?_
      have:=jA (B:=B) (h:=h) (w:=w) ha (ov k) hR
      rw[show ee m (.tmp (D4.of k)) t h= .val v from hv] at this
      obtain ⟨v',h1,h2⟩:=this
      exact ⟨v',lk h1,h2⟩
theorem lS  {h:NH} {t:Tm} (hT:TR ι t tmps) (hR:Rel P ι B h w) {fn:Func} {nl:List NRes} (hc:cl P fn.results.toList=some nl) {ctx:Option NV} {r0:CR} (hr0:r0≠.fail)
 (h0:bJ h t nl .fail (fun l=> .val (fh l) ctx h)=r0):∃v v',r0= .val v ctx h/\VR ι v v'/\(results fn tmps).run P w= .ok v' w:=by
 obtain ⟨vs,vs',h1,h2,h3⟩:=uj hT hR hr0 _ _ _ hc h0
 refine ⟨fh vs,if h:vs'.toArray.size=1 then vs'.toArray[0] else .tuple vs'.toArray,h1.symm, ?_, ?_⟩
 ·cases h2 with
  |nil=>exact .tup [] [] .nil
  |cons v v' l l' hv hl=>
   cases hl with
   |nil=>exact hv
   |cons u u' l l' hu hl=>
    have:¬(v'::u'::l').toArray.size=1:=by simp
    rw[dif_neg this]
    exact .tup _ _ (.cons _ _ _ _ hv (.cons _ _ _ _ hu hl))
 ·rw[qf,Array.mapM_eq_mapM_toList]
  simp only[Sem.run_bind,map_eq_pure_bind,h3,Result.andThen,Sem.run_pure]
end
end Nm
namespace Nm
open Go
section
variable {P:Program} {S:Nat->List NV->Option NV} {B:Nat}
theorem fY {f:Nat} {nf:NFun} (h:aj P f=some (.code nf)):∃fn c,P.funcs[f]? =some fn/\fn.body=some c/\fn.name≠ "runtime.NumGoroutine" /\bR P c=some nf.body/\cl P fn.results.toList=some nf.results:=by
 unfold aj at h
 split at h
 ·rename_i fn hfn
  cases hn:(fn.name== "runtime.NumGoroutine") with
  |true=>rw[hn] at h;cases h
  |false=>
   rw[hn] at h
   simp only[cond_false] at h
   split at h
   ·rename_i c hb
    split at h
    ·rename_i nb nr h1 h2
     rw[ab] at h
     cases h
     exact ⟨fn,c,hfn,hb,by simpa using hn,h1,h2⟩
    ·cases h
   ·split at h<;>cases h
 ·cases h
theorem i6 {f:Nat} {fn:Func} {c:Code} (hf:P.funcs[f]? =some fn) (hb:fn.body=some c) (hn:fn.name≠ "runtime.NumGoroutine") (args:Array Value) (w:World):(callFunc f args).run P w= .ok (.enter f args) w:=by
 simp[callFunc,hf,hb,hn]
noncomputable def cZ:List NV->Nat->Tm->Tm
 | [],_,t=>t
 |v::vs,k,t=>cZ vs (k+1) (NT.put (D4.of k) v t)
theorem xu {R:Type} (vs:List NV) (K:Tm->R):uS vs K=K (cZ vs 0 .leaf):=by
 have go:∀(vs:List NV) (k:Nat) (t:Tm),(List.rec (motive:=fun _=>D4->Tm->R) (fun _ t=>K t) (fun v _ ih k t=>NT.set k v t fun t=>k.succ fun k=>ih k t) vs (D4.of k) t:R)=K (cZ vs k t):=by
  intro vs
  induction vs with
  |nil=>intro k t;rfl
  |cons v vs ih=>
   intro k t
   have e:(List.rec (motive:=fun _=>D4->Tm->R) (fun _ t=>K t) (fun v _ ih k t=>NT.set k v t fun t=>k.succ fun k=>ih k t) (v::vs) (D4.of k) t:R)=
    NT.set (D4.of k) v t fun t=>(D4.of k).succ fun k=>(List.rec (motive:=fun _=>D4->Tm->R) (fun _ t=>K t) (fun v _ ih k t=>NT.set k v t fun t=>k.succ fun k=>ih k t) vs k t:R):=rfl
   rw[e,NT.set_eq,D4.succ_eq]
   exact ih (k+1) _
 exact go vs 0 .leaf
theorem qo:∀(vs:List NV) (k:Nat) (t:Tm) (j:Nat) (v:NV),NT.get (D4.of j) (cZ vs k t)=some v->(∃i,j=k+i/\vs[i]? =some v)∨(NT.get (D4.of j) t=some v/\(j<k∨k+vs.length<=j)):=by
 intro vs
 induction vs with
 |nil=>intro k t j v h;exact .inr ⟨h,by simp;omega⟩
 |cons u vs ih=>
  intro k t j v h
  rcases ih (k+1) _ j v h with ⟨i,h1,h2⟩|⟨h1,h2⟩
  ·exact .inl ⟨i+1,by omega,by simpa using h2⟩
  ·by_cases e:j=k
   ·subst e
    rw[NT.get_put_same] at h1
    exact .inl ⟨0,rfl,by simpa using h1⟩
   ·rw[NT.get_put_ne (fun x=>e (D4.of_inj x))] at h1
    exact .inr ⟨h1,by simp;omega⟩
theorem za {ι:aM} {args:List NV} {args':List Value} (h:VRL ι args args') (n:Nat):TR ι (cZ args 0 .leaf) (args'.toArray++Array.replicate n undef):=by
 intro j v hv
 rcases qo args 0 .leaf j v hv with ⟨i,h1,h2⟩|⟨h1,_⟩
 ·obtain ⟨v',h3,h4⟩:=h.get h2
  refine ⟨v', ?_,h4⟩
  have:j=i:=by omega
  subst this
  have hlt:=(List.getElem?_eq_some_iff.1 h3).1
  rw[Array.getElem?_append_left (by simpa using hlt)]
  simpa using h3
 ·rw[NT.get_leaf] at h1;cases h1
def Ga (P:Program) (B:Nat) (ι:aM) (h:NH) (w:World) (fr0:Frame) (kind:CallKind) (ctx:Option NV) (cs:List Frame):CR->Prop
 | .fail=>True
 | .val v ctx' h'=>∃ι' v' w' cs' fr,VR ι' v v'/\Rel P ι' B h' w'/\B<=w'.heap.size/\Grow ι h w ι' h' w'/\kS cs ctx cs' ctx'/\Steps P (lone fr0 cs w) (lone fr cs' w')/\fr.kind=kind/\fr.fn=fr0.fn/\fr.going P w' (.returned v')
 | .pan v ctx' h'=>∃ι' v' w' cs' fr,VR ι' v v'/\Rel P ι' B h' w'/\B<=w'.heap.size/\Grow ι h w ι' h' w'/\kS cs ctx cs' ctx'/\Steps P (lone fr0 cs w) (lone fr cs' w')/\fr.kind=kind/\fr.fn=fr0.fn/\fr.going P w' (.panicked [{v:=v',recovered:=false}])
def zZ (P:Program) (callF:Nat->List NV->Option NV->NH->CR):Prop:=
 ∀(f:Nat) (args:List NV) (p:Option NV) (h:NH),callF f args p h≠.fail->(∃nf,aj P f=some (.code nf))/\
  ∀(B:Nat) (ι:aM) (w:World) (args':List Value) (kind:CallKind) (cs:List Frame),Rel P ι B h w->B<=w.heap.size->VRL ι args args'->qM ι kind cs p->
   Ga P B ι h w (Frame.enter P f args'.toArray kind) kind p cs (callF f args p h)
theorem jr (callF:Nat->List NV->Option NV->NH->CR) (K:Option NV->NH->CR) (c:Dfr) (l:List Dfr) (p:Option NV) (h:NH):
 unwind callF K (c::l) p h=match c with
  | .call f cap=>(match callF f cap p h with
   | .val _ p h=>unwind callF K l p h
   |_=> .fail)
  | .mark id=>match h.get id with
   |some (.defd true)=>unwind callF K l p (h.put id (.defd false))
   |_=> .fail:=by
 have e:unwind callF K (c::l) p h=match c with
  | .call f cap=>(match callF f cap p h with
   | .val _ p h=>unwind callF K l p h
   |_=> .fail)
  | .mark id=>match h.get id with
   |some (.defd true)=>h.set id (.defd false) fun h=>unwind callF K l p h
   |_=> .fail:=rfl
 rw[e]
 cases c with
 |call f cap=>rfl
 |mark id=>
  dsimp only
  split
  ·exact NH.set_eq _ _ _ _
  ·rfl
theorem mP {callF:Nat->List NV->Option NV->NH->CR} (hF:zZ P callF) {K:Option NV->NH->CR} {r:CR} (hr:r≠.fail):∀(l:List Dfr) (p:Option NV) (h:NH),unwind callF K l p h=r->
 ∀(ι:aM) (w:World) (fr:Frame) (cs:List Frame),DR ι l fr.defers->Rel P ι B h w->B<=w.heap.size->sx ι p fr.mode->
 ∃p' h' ι' w' fr',K p' h'=r/\Rel P ι' B h' w'/\B<=w'.heap.size/\Grow ι h w ι' h' w'/\sx ι' p' fr'.mode/\fr'.defers= []/\fr'.tmps=fr.tmps/\fr'.fn=fr.fn/\fr'.kind=fr.kind/\Steps P (lone fr cs w) (lone fr' cs w'):=by
 intro l
 induction l with
 |nil=>
  intro p h hu ι w fr cs hd hR hB hm
  have hde:fr.defers= []:=by
   cases hds:fr.defers with
   |nil=>rfl
   |cons d ds=>rw[hds] at hd;exact hd.elim
  exact ⟨p,h,ι,w,fr,hu,hR,hB,.refl _ _ _,hm,hde,rfl,rfl,rfl,Steps.refl P _⟩
 |cons c l ih=>
  intro p h hu ι w fr cs hd hR hB hm
  rw[jr] at hu
  cases hds:fr.defers with
  |nil=>rw[hds] at hd;cases c<;>exact hd.elim
  |cons d ds=>
   rw[hds] at hd
   cases c with
   |mark id=>
    obtain ⟨⟨pl,hp,hde⟩,hd'⟩:=hd
    have hu':(match h.get id with
     |some (.defd true)=>unwind callF K l p (h.put id (.defd false))
     |_=> .fail)=r:=hu
    obtain ⟨ob,ho1,ho2⟩:=hR.obj _ _ hp
    rw[ho1] at hu'
    cases ob with
    |defd q=>
     cases q with
     |false=>exact I5 hu'.symm hr
     |true=>
      have hob:w.heap[pl.b]? =some (.deferred (some [])):=ho2
      have htake:=run_takeDeferred (P:=P) hob
      have hst:=step_collected (cs:=cs) hm.ne_run hds (by rw[hde]) htake
      have hlt:=hR.lt _ _ hp
      obtain ⟨t1,t2⟩:=hR.turn (w':=w.putObj pl.b (.deferred none)) hp (by rw[ho1];simp) (.defd false) (World.putObj_heap_same hlt) (by simp) rfl rfl rfl (fun q hq=>World.putObj_heap_other hq)
      obtain ⟨p',h',ι',w',fr',q1,q2,q3,q4,q5,q6,q7,q8,q9,q10⟩:=ih p _ hu' ι _ {fr with defers:= []++ds} cs hd' t1 (by simpa using hB) hm
      exact ⟨p',h',ι',w',fr',q1,q2,q3,t2.trans q4,q5,q6,q7,q8,q9,.head hst q10⟩
    |_=>exact I5 hu'.symm hr
   |call f cap=>
    obtain ⟨⟨cap',hcap,hde⟩,hd'⟩:=hd
    have hu':(match callF f cap p h with
     | .val _ p h=>unwind callF K l p h
     |_=> .fail)=r:=hu
    cases hcf:callF f cap p h with
    |fail=>rw[hcf] at hu';exact I5 hu'.symm hr
    |pan v x h1=>rw[hcf] at hu';exact I5 hu'.symm hr
    |val v p1 h1=>
     rw[hcf] at hu'
     obtain ⟨⟨nf,hnf⟩,hFr⟩:=hF f cap p h (by rw[hcf];simp)
     obtain ⟨fnn,code,e1,e2,e3,_⟩:=fY hnf
     have hinv:(invoke d.target d.args).run P w= .ok (.enter f cap'.toArray) w:=by
      rw[hde]
      have:=i6 (P:=P) e1 e2 e3 (#[]++cap'.toArray) w
      simp only[Array.empty_append] at this
      simp only[invoke,Array.empty_append]
      exact this
     have hst:=step_defer (cs:=cs) hm.ne_run hds (by rw[hde]) hinv
     have hfr:=hFr B ι w cap' .deferred ({fr with defers:=ds}::cs) hR hB hcap (sx.ctx (c:={fr with defers:=ds}) hm)
     rw[hcf] at hfr
     obtain ⟨ι1,v',w1,cs1,frx,f1,f2,f3,f4,f5,f6,f7,_,f8⟩:=hfr
     have hback:∃m',sx ι1 p1 m'/\Steps P (lone fr cs w) (lone {fr with defers:=ds,mode:=m'} cs w1):=by
      rcases f5 with ⟨rfl,rfl⟩|⟨rfl,_,c0,rest,v0,older,g1,g2,rfl⟩
      ·refine ⟨fr.mode,hm.mono f4.le,.head hst (Steps.trans f6 (.one ?_))⟩
       have:=step_going_returned (c:={fr with defers:=ds}) (cs:=cs) f7 f8
       rw[show settle ({fr with defers:=ds}:Frame).mode=fr.mode from hm.settle] at this
       exact this
      ·injection g1 with g3 g4
       subst g3 g4
       refine ⟨.returning,rfl,.head hst (Steps.trans f6 (.one ?_))⟩
       have:=step_going_returned (c:={({fr with defers:=ds}:Frame) with mode:= .panicking ({v:=v0,recovered:=true}::older)}) (cs:=cs) f7 f8
       have hol:older= []:=by
        cases p with
        |none=>
         have:fr.mode= .returning:=hm
         rw[show ({fr with defers:=ds}:Frame).mode=fr.mode from rfl,this] at g2
         cases g2
        |some q=>
         obtain ⟨q',hq1,_⟩:=hm
         rw[show ({fr with defers:=ds}:Frame).mode=fr.mode from rfl,hq1] at g2
         cases g2
         rfl
       rw[hol] at this ⊢
       exact this
     obtain ⟨m',hm',hsteps⟩:=hback
     obtain ⟨p',h',ι',w',fr',q1,q2,q3,q4,q5,q6,q7,q8,q9,q10⟩:=ih p1 h1 hu' ι1 w1 {fr with defers:=ds,mode:=m'} cs (hd'.mono f4.le) f2 f3 hm'
     exact ⟨p',h',ι',w',fr',q1,q2,q3,f4.trans q4,q5,q6,q7,q8,q9,hsteps.trans q10⟩
def iJ (P:Program):Prop:=∀(f:Nat) (fn:Func) (c:Code),P.funcs[f]? =some fn->fn.body=some c->CheckCode.code P fn [] [] c= .ok ()
theorem iD (h:P.check= .ok ()):iJ P:=by
 intro f fn c hf hb
 unfold Program.check at h
 obtain ⟨_,h1,_⟩:=bg h
 have h2:=nt h1 f (by simp;exact (Array.getElem?_eq_some_iff.1 hf).1)
 unfold CheckCode.funcAt at h2
 rw[hf] at h2
 have h3:=oL h2
 unfold CheckCode.func at h3
 obtain ⟨_,_,h3⟩:=bg h3
 obtain ⟨_,_,h3⟩:=bg h3
 obtain ⟨_,_,h3⟩:=bg h3
 rw[hb] at h3
 simp only at h3
 obtain ⟨_,_,h3⟩:=bg h3
 obtain ⟨_,h4,_⟩:=bg h3
 exact h4
theorem dZ (self:Option D4->NC->Dyn->Res) (depth f:Nat) (args:List NV) (ctx:Option NV) (h:NH):
 bY P self (depth+1) f args ctx h=match aj P f with
  |some (.code nf)=>(match self none nf.body ⟨cZ args 0 .leaf, [],ctx,h⟩ with
   | .mk o d=>(match o with
    | .norm| .ret=>unwind (bY P self depth) (finish nf.results d) d.dfs none d.h
    | .pan v=>unwind (bY P self depth) (finish nf.results d) d.dfs (some v) d.h
    | .exit _=> .fail)
   | .fail=> .fail)
  |_=> .fail:=by
 have e:bY P self (depth+1) f args ctx h=match aj P f with
  |some (.code nf)=>uS args fun t=>(match self none nf.body ⟨t, [],ctx,h⟩ with
   | .mk o d=>(match o with
    | .norm| .ret=>unwind (bY P self depth) (finish nf.results d) d.dfs none d.h
    | .pan v=>unwind (bY P self depth) (finish nf.results d) d.dfs (some v) d.h
    | .exit _=> .fail)
   | .fail=> .fail)
  |_=> .fail:=rfl
 rw[e]
 split
 ·exact xu _ _
 ·rfl
theorem fS (hK:iJ P) {n:Nat} (hO:fF P S n):∀depth,zZ P (bY P (ev P S n) depth):=by
 intro depth
 induction depth with
 |zero=>intro f args p h hne;exact I5 rfl hne
 |succ depth ih=>
  intro f args p h hne
  rw[dZ] at hne ⊢
  cases hcf:aj P f with
  |none=>rw[hcf] at hne;exact I5 rfl hne
  |some x=>
   cases x with
   |ext e=>rw[hcf] at hne;exact I5 rfl hne
   |code nf=>
    refine ⟨⟨nf,rfl⟩,fun B ι w args' kind cs hR hB hargs hctx=> ?_⟩
    rw[hcf] at hne
    dsimp only at hne ⊢
    obtain ⟨fn,c,hf,hb,hname,hcc,hres⟩:=fY hcf
    let b:Frame:={(default:Frame) with fn:=f,kind:=kind}
    let a0:Act:={tmps:=args'.toArray++Array.replicate (fn.ntmps - args'.toArray.size) undef,defers:= []}
    have henter:Frame.enter P f args'.toArray kind=b.atR a0 [.code c]:=by
     simp[Frame.enter,Frame.atR,hf,hb,b,a0]
     rfl
    cases hev:ev P S n none nf.body ⟨cZ args 0 .leaf, [],p,h⟩ with
    |fail=>rw[hev] at hne;exact I5 rfl hne
    |mk o d=>
     rw[hev] at hne
     have hs:Sd P ι B none [] p h b a0.defers cs w:=⟨trivial,hctx,hR,hB,rfl⟩
     have hgo:=hO c nf.body fn [] [] hcc (hK f fn c hf hb) none ⟨cZ args 0 .leaf, [],p,h⟩ o d hev (.code c) (.inl rfl) B b [] ι a0 cs w hf (za hargs _) hs (by simp[a0];omega)
     rw[←henter] at hgo
     obtain ⟨ι1,a1,cs1,w1,g1,g2,g3,g4⟩:=hgo
     have out:∀(q:Option NV) (fr1:Frame),(unwind (bY P (ev P S n) depth) (finish nf.results d) d.dfs q d.h)≠.fail->sx ι1 q fr1.mode->fr1.defers=a1.defers->fr1.tmps=a1.tmps->fr1.kind=kind->fr1.fn=f->
      Steps P (lone (Frame.enter P f args'.toArray kind) cs w) (lone fr1 cs1 w1)->Ga P B ι h w (Frame.enter P f args'.toArray kind) kind p cs (unwind (bY P (ev P S n) depth) (finish nf.results d) d.dfs q d.h):=by
      intro q fr1 hq hm hdf htm hkd hfn hst
      have sd:=g3.sd
      obtain ⟨p',h',ι',w',fr',q1,q2,q3,q4,q5,q6,q7,q8,q9,q10⟩:=mP ih hq d.dfs q d.h rfl ι1 w1 fr1 cs1 (by rw[hdf];exact sd.df) sd.rel sd.base hm
      have hTR:TR ι' d.t fr'.tmps:=by rw[q7,htm];exact g2.mono q4.le
      have hff:P.funcs[fr'.fn]? =some fn:=by rw[q8,hfn];exact hf
      cases p' with
      |none=>
       have q1':bJ h' d.t nf.results .fail (fun l=> .val (fh l) d.ctx h')=unwind (bY P (ev P S n) depth) (finish nf.results d) d.dfs q d.h:=q1
       obtain ⟨v,v',r1,r2,r3⟩:=lS hTR q2 hres hq q1'
       rw[r1]
       exact ⟨ι',v',w',cs1,fr',r2,q2,q3,g3.gr.trans q4,g3.ca,hst.trans q10,by rw[q9,hkd],by rw[q8,hfn];rfl,q5,q6,fn,hff,r3⟩
      |some v=>
       have q1':CR.pan v d.ctx h'=unwind (bY P (ev P S n) depth) (finish nf.results d) d.dfs q d.h:=q1
       rw[←q1']
       obtain ⟨v',m1,m2⟩:=q5
       exact ⟨ι',v',w',cs1,fr',m2,q2,q3,g3.gr.trans q4,g3.ca,hst.trans q10,by rw[q9,hkd],by rw[q8,hfn];rfl,m1,q6,fn,hff⟩
     cases o with
     |norm=>
      have g1':Steps P (lone (Frame.enter P f args'.toArray kind) cs w) (lone (b.atR a1 []) cs1 w1):=g1
      exact out none {b.atR a1 [] with mode:= .returning} hne rfl rfl rfl rfl rfl (g1'.trans (.one (stepR_end rfl)))
     |ret=>
      obtain ⟨k0,g1'⟩:=g1
      exact out none {b.atR a1 (.code .ret::k0) with mode:= .returning} hne rfl rfl rfl rfl rfl (g1'.trans (.one (stepR_ret rfl)))
     |exit id=>exact I5 rfl hne
     |pan v=>
      obtain ⟨td,v',m1,g1'⟩:=g1
      exact out (some v) _ hne ⟨v',rfl,m1⟩ rfl rfl rfl rfl g1'
end
end Nm
namespace Nm
open Go
theorem x1:Extern.allNextRows.lookup "math/bits.Add64" =none:=by kernel_rfl
theorem x2:Extern.allNextRows.lookup "" =none:=by kernel_rfl
theorem x3:Extern.allGenericRows.lookup "math/bits.Add64" =none:=by kernel_rfl
theorem x4:Extern.allTypedRows.lookup "math/bits.Add64" =none:=by kernel_rfl
theorem x5:Extern.allRows.lookup "math/bits.Add64" =some add64Entry:=by kernel_rfl
theorem y1:Extern.allNextRows.lookup "internal/bytealg.IndexByteString" =none:=by kernel_rfl
theorem y3:Extern.allGenericRows.lookup "internal/bytealg.IndexByteString" =none:=by kernel_rfl
theorem y4:Extern.allTypedRows.lookup "internal/bytealg.IndexByteString" =none:=by kernel_rfl
theorem y5:Extern.allRows.lookup "internal/bytealg.IndexByteString" =some Extern.BytealgIndexByte.indexByte:=by kernel_rfl
theorem xX (c:Nat):∀(l:List Nat) (i:Nat),tA c l i=(l.findIdx? (fun x=>x==c)).map (·+i):=by
 intro l
 induction l with
 |nil=>intro i;rfl
 |cons x l ih=>
  intro i
  have e:tA c (x::l) i=cond (Nat.beq x c) (some i) (ak (Nat.succ i) (tA c l)):=rfl
  rw[e,ab,ih,List.findIdx?_cons]
  cases h:Nat.beq x c with
  |true=>have:=Jc h;simp[this]
  |false=>
   have:=Nat.ne_of_beq_eq_false h
   simp only[cond_false]
   rw[I6 (by simpa using this)]
   cases List.findIdx? (fun x=>x==c) l with
   |none=>rfl
   |some j=>simp;omega
theorem qr (p:Nat->Bool):∀n,(List.range n).find? p=none↔∀i,i<n->p i=false:=by
 intro n;simp
theorem ow (s:ByteArray) (c:Nat) (hc:c<=255):firstIdx s c.toUInt8=match tA c (s.data.toList.map UInt8.toNat) 0 with|some i=>(i:Int)|none=>-1:=by
 rw[xX]
 have hsz:s.data.toList.length=s.size:=aX s
 have hml:(s.data.toList.map UInt8.toNat).length=s.size:=by rw[List.length_map,hsz]
 have hat:∀i (h:i<s.size),(s[i]! ==c.toUInt8)=(((s.data.toList.map UInt8.toNat)[i]'(by rw[hml];exact h))==c):=by
  intro i h
  have e:s[i]! =s.data.toList[i]'(by rw[hsz];exact h):=by
   rw[getElem!_pos s i h];simp[ByteArray.getElem_eq_getElem_data]
  rw[e,List.getElem_map]
  rw[Bool.eq_iff_iff]
  simp only[beq_iff_eq]
  constructor
  ·intro h;rw[h];simp;omega
  ·intro h;rw[←h];simp
 unfold firstIdx
 cases hf:(s.data.toList.map UInt8.toNat).findIdx? (fun x=>x==c) with
 |none=>
  have h1:(List.range s.size).find? (fun i=>s[i]! ==c.toUInt8)=none:=by
   rw[qr]
   intro i hi
   rw[hat i hi]
   rw[List.findIdx?_eq_none_iff] at hf
   exact hf _ (List.getElem_mem _)
  rw[h1];rfl
 |some j=>
  rw[List.findIdx?_eq_some_iff_getElem] at hf
  obtain ⟨hj,h1,h2⟩:=hf
  have hj':j<s.size:=by rw[←hml];exact hj
  have h3:(List.range s.size).find? (fun i=>s[i]! ==c.toUInt8)=some j:=by
   rw[List.find?_range_eq_some]
   refine ⟨?_,by simpa using hj',fun k hk=> ?_⟩
   ·rw[hat j hj'];exact h1
   ·rw[hat k (by omega)]
    simpa using h2 k hk
  rw[h3];simp
section
variable {P:Program} {S:Nat->List NV->Option NV} {B:Nat}
theorem tY {ι:aM} {fn:Func} {e:Ext} {f:Nat} (hf:P.funcs[f]? =some fn) (hb:fn.body=none) (he:sT fn=some e) {args:List NV} {args':List Value} (ha:VRL ι args args') {v:NV} (hv:jl e args=some v) (w:World):
 ∃v',(callFunc f args'.toArray).run P w= .ok (.value v') w/\VR ι v v':=by
 unfold sT at he
 obtain ⟨ho,he⟩:=aH he
 have ho':fn.origin= "" :=by simpa using ho
 cases hn:(fn.name== "math/bits.Add64") with
 |true=>
  rw[hn] at he
  cases he
  have hname:fn.name= "math/bits.Add64" :=by simpa using hn
  have hnx:Extern.findNext fn=none:=by unfold Extern.findNext;rw[hname,ho'];simp only[x1,x2];rfl
  have hfi:Extern.find fn=some add64Entry:=by unfold Extern.find;rw[hname,ho'];simp only[x3,x4,x5];rfl
  have hcall:=run_callFunc_extern hf (by rw[hname];decide) (by rw[hb];rfl) hnx hfi args'.toArray w
  unfold jl at hv
  split at hv
  ·rename_i x y c hargs
   obtain ⟨hc1,hv⟩:=aH hv
   rw[ab,ab] at hv
   cases hv
   cases ha with
   |cons _ _ _ _ h1 ha=>
    cases ha with
    |cons _ _ _ _ h2 ha=>
     cases ha with
     |cons _ _ _ _ h3 ha=>
      cases ha
      cases h1;cases h2;cases h3
      have hc:=Nat.le_of_ble_eq_true hc1
      refine ⟨_, ?_,.tup [_,_] [_,_] (.cons _ _ _ _ (.int .u64 _) (.cons _ _ _ _ (.int .u64 _) .nil))⟩
      have:=run_add64 (P:=P) (Int.ofNat x) (Int.ofNat y) (Int.ofNat c) (Int.natCast_nonneg _) (Int.natCast_nonneg _) (Int.natCast_nonneg _) (by show (c:Int)<=1;omega) w
      rw[hcall]
      show Result.andThen (Sem.run P (add64Entry #[.int .u64 (Int.ofNat x),.int .u64 (Int.ofNat y),.int .u64 (Int.ofNat c)]) w) _=_
      rw[this]
      rfl
  ·rename_i h;cases h
  ·cases hv
 |false=>
  rw[hn] at he
  simp only[cond_false] at he
  obtain ⟨hn2,he⟩:=aH he
  cases he
  have hname:fn.name= "internal/bytealg.IndexByteString" :=by simpa using hn2
  have hnx:Extern.findNext fn=none:=by unfold Extern.findNext;rw[hname,ho'];simp only[y1,x2];rfl
  have hfi:Extern.find fn=some Extern.BytealgIndexByte.indexByte:=by unfold Extern.find;rw[hname,ho'];simp only[y3,y4,y5];rfl
  have hcall:=run_callFunc_extern hf (by rw[hname];decide) (by rw[hb];rfl) hnx hfi args'.toArray w
  unfold jl at hv
  split at hv
  ·rename_i h;cases h
  ·rename_i s c _
   obtain ⟨hc1,hv⟩:=aH hv
   have hc:=Nat.le_of_ble_eq_true hc1
   cases ha with
   |cons _ _ _ _ h1 ha=>
    cases ha with
    |cons _ _ _ _ h2 ha=>
     cases ha
     cases h2
     cases h1 with
     |str l s' hs=>
      subst hs
      have hrun:=run_indexByte_string (P:=P) s' (Int.ofNat c) w
      refine ⟨.int .i64 (firstIdx s' c.toUInt8), ?_, ?_⟩
      ·rw[hcall]
       show Result.andThen (Sem.run P (Extern.BytealgIndexByte.indexByte #[.string s',.int .u8 (Int.ofNat c)]) w) _=_
       rw[hrun]
       rfl
      ·rw[ow s' c hc]
       cases hi:tA c (s'.data.toList.map UInt8.toNat) 0 with
       |none=>rw[hi] at hv;cases hv;exact .int .i64 _
       |some i=>rw[hi] at hv;cases hv;exact .int .i64 _
  ·cases hv
def bv (P:Program) (S:Nat->List NV->Option NV):Prop:=
 ∀(ι:aM) (B:Nat) (h:NH) (w:World) (f:Nat) (args:List NV) (args':List Value) (v:NV),S f args=some v->Rel P ι B h w->B<=w.heap.size->VRL ι args args'->
  oJ P ι B h w ((callFunc f args'.toArray).run P w) (.val v none h)
theorem w9:bv P HQ:=fun _ _ _ _ _ _ _ _ h=>by cases h
theorem uf {f:Nat} {e:Ext} (h:aj P f=some (.ext e)):∃fn,P.funcs[f]? =some fn/\fn.body=none/\sT fn=some e:=by
 unfold aj at h
 split at h
 ·rename_i fn hfn
  cases hn:(fn.name== "runtime.NumGoroutine") with
  |true=>rw[hn] at h;cases h
  |false=>
   rw[hn] at h
   simp only[cond_false] at h
   split at h
   ·split at h
    ·rw[ab] at h;cases h
    ·cases h
   ·rename_i hb
    split at h
    ·rename_i e' he;cases h;exact ⟨fn,hfn,hb,he⟩
    ·cases h
 ·cases h
theorem dg {fr:Frame} {w:World} {e:Ending} (hk:fr.kind= .normal) (h:fr.going P w e):fr.leaving P w e:=by
 cases e with
 |returned v=>exact ⟨h.1,h.2.1,hk,h.2.2⟩
 |panicked c=>exact h
 |outgrown=>trivial
theorem kL (hK:iJ P) (hS:bv P S) {n:Nat} (hO:fF P S n) (ι:aM) (B:Nat) (h:NH) (w:World) (f:Nat) (args:List NV) (args':List Value) (hR:Rel P ι B h w) (hB:B<=w.heap.size) (ha:VRL ι args args'):
 oJ P ι B h w ((callFunc f args'.toArray).run P w) (bD P S (ev P S n) f args h):=by
 unfold bD
 cases hs:S f args with
 |some v=>exact hS ι B h w f args args' v hs hR hB ha
 |none=>
  dsimp only
  cases hcf:aj P f with
  |none=>trivial
  |some x=>
   cases x with
   |ext e=>
    dsimp only
    cases hx:jl e args with
    |none=>trivial
    |some v=>
     intro c cs
     obtain ⟨fn,h1,h2,h3⟩:=uf hcf
     obtain ⟨v',e1,e2⟩:=tY h1 h2 h3 ha hx w
     exact ⟨ι,v',w,e2,hR,hB,.refl _ _ _,.inl e1⟩
   |code nf=>
    dsimp only
    have hD:=fS hK hO 3 f args none h
    obtain ⟨fn,code,e1,e2,e3,_⟩:=fY hcf
    have hent:=i6 (P:=P) e1 e2 e3 args'.toArray w
    cases hr:bY P (ev P S n) 3 f args none h with
    |fail=>trivial
    |val v x h'=>
     intro c cs
     obtain ⟨_,hF⟩:=hD (by rw[hr];simp)
     have hF:=hF B ι w args' .normal (c::cs) hR hB ha (fun b hb=>by unfold tryRecover;rw[hb])
     rw[hr] at hF
     obtain ⟨ι',v',w',cs',fr,f1,f2,f3,f4,f5,f6,f7,_,f8⟩:=hF
     obtain ⟨rfl,_⟩:=f5.none
     exact ⟨ι',v',w',f1,f2,f3,f4,.inr ⟨w,.inl ⟨f,args'.toArray,hent,Steps.trans f6 (.one (step_leave_returned (dg f7 f8)))⟩⟩⟩
    |pan v x h'=>
     intro c cs
     obtain ⟨_,hF⟩:=hD (by rw[hr];simp)
     have hF:=hF B ι w args' .normal (c::cs) hR hB ha (fun b hb=>by unfold tryRecover;rw[hb])
     rw[hr] at hF
     obtain ⟨ι',v',w',cs',fr,f1,f2,f3,f4,f5,f6,f7,_,f8⟩:=hF
     obtain ⟨rfl,_⟩:=f5.none
     exact ⟨ι',v',w',f1,f2,f3,f4,w,.inl ⟨f,args'.toArray,hent,Steps.trans f6 (.one (step_leave_panicked (dg f7 f8)))⟩⟩
noncomputable def lG:List D4->List NV->Tm->Tm
 |p::ps,v::vs,t=>lG ps vs (NT.put p v t)
 |_,_,t=>t
theorem jt {r:CR} (hr:r≠.fail) {K:Tm->CR}:∀{ps:List D4} {vs:List NV} {t:Tm},cT .fail ps vs t K=r->vs.length=ps.length/\K (lG ps vs t)=r:=by
 intro ps
 induction ps with
 |nil=>
  intro vs t h
  cases vs with
  |nil=>exact ⟨rfl,h⟩
  |cons v vs=>exact I5 (show CR.fail=r from h).symm hr
 |cons p ps ih=>
  intro vs t h
  cases vs with
  |nil=>exact I5 (show CR.fail=r from h).symm hr
  |cons v vs=>
   have e:cT .fail (p::ps) (v::vs) t K=NT.set p v t fun t=>cT .fail ps vs t K:=rfl
   rw[e,NT.set_eq] at h
   obtain ⟨h1,h2⟩:=ih h
   exact ⟨by simp[h1],h2⟩
theorem zq {ι:aM}:∀{ps:List Nat} {vs:List NV} {vs':List Value} {t:Tm} {a:Array Value},VRL ι vs vs'->TR ι t a->(∀q∈ps,q<a.size)->
 TR ι (lG (ps.map D4.of) vs t) ((ps.zip vs').foldl (fun tmps (t,a)=>tmps.setIfInBounds t a) a)/\((ps.zip vs').foldl (fun tmps (t,a)=>tmps.setIfInBounds t a) a).size=a.size:=by
 intro ps
 induction ps with
 |nil=>intro vs vs' t a _ hT _;cases vs<;>exact ⟨hT,rfl⟩
 |cons p ps ih=>
  intro vs vs' t a hv hT hp
  cases hv with
  |nil=>exact ⟨hT,rfl⟩
  |cons v v' vs vs' h1 h2=>
   have hT':=hT.put (hp p (by simp)) h1
   obtain ⟨q1,q2⟩:=ih h2 hT' (fun q hq=>by simp;exact hp q (by simp[hq]))
   exact ⟨q1,q2.trans (by simp)⟩
def FS (P:Program) (B:Nat) (ι:aM) (h:NH) (w:World) (fr0:Frame) (c:Frame) (cs:List Frame):CR->Prop
 | .fail=>True
 | .val v _ h'=>∃ι' v' w',VR ι' v v'/\Rel P ι' B h' w'/\B<=w'.heap.size/\Grow ι h w ι' h' w'/\Steps P (lone fr0 (c::cs) w) (lone (c.finish v') cs w')
 | .pan v _ h'=>∃ι' v' w',VR ι' v v'/\Rel P ι' B h' w'/\B<=w'.heap.size/\Grow ι h w ι' h' w'/\Steps P (lone fr0 (c::cs) w) (lone (c.raise [{v:=v',recovered:=false}]) cs w')
theorem ju {n:Nat} (hO:fF P S n) (ι:aM) (B:Nat) (h:NH) (w:World) (l:D4) (p:Pl) (args:List NV) (args':List Value) (hR:Rel P ι B h w) (hB:B<=w.heap.size) (ha:VRL ι args args') (hp:ι l=some p):
 oJ P ι B h w ((Instr.yield p.b args'.toArray).run P w) (round (ev P S n) l args h):=by
 by_cases hne:round (ev P S n) l args h= .fail
 ·rw[hne];trivial
 generalize hrr:round (ev P S n) l args h=r at hne
 have hrr':=hrr
 unfold round at hrr'
 obtain ⟨ob,ho1,ho2⟩:=hR.obj _ _ hp
 rw[ho1] at hrr'
 cases ob with
 |loop st pd tm ps na nb=>
  cases st with
  |succ st=>exact I5 hrr'.symm hne
  |zero=>
   obtain ⟨L,l1,l2,l3,l4,l5,l6,l7,⟨fn,bl,la,lb,l8,l9,l10,l11,_⟩,l12⟩:=ho2
   obtain ⟨hlen,hrr2⟩:=jt hne hrr'
   have hsz:args'.toArray.size=L.params.size:=by
    have:=ha.length
    rw[l5] at hlen
    simp at hlen ⊢;omega
   have hy:=run_yield (P:=P) l1 hsz
   obtain ⟨t1,t2⟩:=zq (ps:=L.params.toList) ha l4 l12
   have hz:(L.params.zip args'.toArray).foldl (fun tmps (t,a)=>tmps.setIfInBounds t a) L.tmps=(L.params.toList.zip args').foldl (fun tmps (t,a)=>tmps.setIfInBounds t a) L.tmps:=by
    rw[←Array.foldl_toList,Array.toList_zip]
   rw[hz] at hy
   rw[←l5] at t1
   generalize (L.params.toList.zip args').foldl (fun tmps (t,a)=>tmps.setIfInBounds t a) L.tmps=tmps at hy t1 t2
   let b:Frame:={(default:Frame) with fn:=L.fn,kind:= .normal,roundOf:=some p.b}
   have hfr:Frame.round p.b L.fn tmps L.assign L.body .normal=b.atR {tmps:=tmps,defers:= []} [.code L.assign,.beginRound,.code L.body]:=by
    simp[Frame.round,Frame.atR,b]
   cases hev:ev P S n (some l) na ⟨lG ps args tm, [],none,h⟩ with
   |fail=>rw[hev] at hrr2;exact I5 hrr2.symm hne
   |mk o d=>
    rw[hev] at hrr2
    cases o with
    |norm=>
     dsimp only at hrr2
     cases hdd:d.dfs with
     |cons x xs=>rw[hdd] at hrr2;exact I5 hrr2.symm hne
     |nil=>
      rw[hdd] at hrr2
      have hrb:bT (ev P S n) l nb d.t d.h=r:=hrr2
      have main:∀(c:Frame) (cs:List Frame),FS P B ι h w (Frame.round p.b L.fn tmps L.assign L.body .normal) c cs r:=by
       intro c cs
       have hctx:∀ι:aM,qM ι b.kind (c::cs) none:=fun ι b' hb'=>by unfold tryRecover;rw[hb']
       have hs:Sd P ι B (some l) [] none h b ([]:List Deferred) (c::cs) w:=⟨trivial,hctx ι,hR,hB,⟨p,hp,rfl⟩⟩
       have hgo:=hO L.assign na fn [] [] l6 l10 (some l) ⟨lG ps args tm, [],none,h⟩ .norm d hev (.code L.assign) (.inl rfl) B b [.beginRound,.code L.body] ι {tmps:=tmps,defers:= []} (c::cs) w l8 t1 hs (by rw[t2];exact l9)
       obtain ⟨ι1,a1,cs1,w1,g1,g2,g3,g4⟩:=hgo
       obtain ⟨rfl,hctx1⟩:=g3.ca.none
       have sd1:=g3.sd
       have hdef1:a1.defers= []:=by
        have:=sd1.df
        rw[hdd] at this
        cases hq:a1.defers with
        |nil=>rfl
        |cons d ds=>rw[hq] at this;exact this.elim
       have hp1:ι1 l=some p:=g3.gr.le _ _ hp
       obtain ⟨ob1,ho3,ho4⟩:=sd1.rel.obj _ _ hp1
       have hrb':=hrb
       unfold bT at hrb'
       rw[ho3] at hrb'
       cases ob1 with
       |loop st1 pd1 tm1 ps1 na1 nb1=>
        cases st1 with
        |succ st1=>exact I5 hrb'.symm hne
        |zero=>
         replace hrb':d.h.set l (.loop 1 pd1 tm1 ps1 na1 nb1) (fun h=>match ev P S n (some l) nb ⟨d.t, [],none,h⟩ with
          | .mk o d=>(match o with
           | .pan v=>(match d.dfs with| []=>CR.pan v none d.h|_=> .fail)
           |o=>cX l o d.h)
          | .fail=> .fail)=r:=hrb'
         rw[NH.set_eq] at hrb'
         obtain ⟨L1,m1,m2,m3⟩:=ho4
         have hbr:=run_beginRound (P:=P) m1 m2
         have hlt1:=sd1.rel.lt _ _ hp1
         have hst1:SR 1 ({L1 with state:= .busy}:Loop).state:=rfl
         obtain ⟨u1,u2⟩:=sd1.rel.turn (w':=w1.putObj p.b (.loop {L1 with state:= .busy})) hp1 (by rw[ho3];simp) (.loop 1 pd1 tm1 ps1 na1 nb1)
          ⟨_,World.putObj_heap_same hlt1,hst1,m3⟩ (by simp) rfl rfl rfl (fun q hq=>World.putObj_heap_other hq)
         have hbeg:=stepR_beginRound (P:=P) (b:=b) (a:=a1) (k:= [.code L.body]) (cs:=c::cs) rfl hbr
         have hs2:Sd P ι1 B (some l) [] none (d.h.put l (.loop 1 pd1 tm1 ps1 na1 nb1)) b a1.defers (c::cs) (w1.putObj p.b (.loop {L1 with state:= .busy})):=
          ⟨by rw[hdef1];trivial,hctx ι1,u1,by simpa using sd1.base,⟨p,hp1,rfl⟩⟩
         generalize w1.putObj p.b (.loop {L1 with state:= .busy})=w2 at *
         generalize d.h.put l (.loop 1 pd1 tm1 ps1 na1 nb1)=h2 at *
         cases hev2:ev P S n (some l) nb ⟨d.t, [],none,h2⟩ with
         |fail=>rw[hev2] at hrb';exact I5 hrb'.symm hne
         |mk o2 d2=>
          rw[hev2] at hrb'
          have hgo2:=hO L.body nb fn bl la l7 l11 (some l) ⟨d.t, [],none,h2⟩ o2 d2 hev2 (.code L.body) (.inl rfl) B b [] ι1 a1 (c::cs) w2 l8 g2 hs2 (by rw[g4,t2];exact l9)
          obtain ⟨ι3,a3,cs3,w3,e1,e2,e3,e4⟩:=hgo2
          obtain ⟨rfl,_⟩:=e3.ca.none
          have hp3:ι3 l=some p:=e3.gr.le _ _ hp1
          have hpre:Steps P (lone (Frame.round p.b L.fn tmps L.assign L.body .normal) (c::cs) w) (lone (b.atR a1 [.code L.body]) (c::cs) w2):=by
           rw[hfr];exact Steps.trans g1 (.one hbeg)
          have hgr:=(g3.gr.trans u2).trans e3.gr
          have fin:∀(jump:Option Code) (st':Nat) (pd':Jump),cX l o2 d2.h=r->(∀tm ps na nb,(match o2 with
           | .norm=>(d2.h.set l (.loop 0 .none tm ps na nb) fun h=>CR.val (.bool true) none h)
           | .ret=>d2.h.set l (.loop 2 .ret tm ps na nb) fun h=> .val (.bool false) none h
           | .exit id=>d2.h.set l (.loop 2 (.exit id) tm ps na nb) fun h=> .val (.bool false) none h
           | .pan _=> .fail)= .val (.bool jump.isNone) none (d2.h.put l (.loop st' pd' tm ps na nb)))->
           (SR st' (if jump.isNone then .ready else .done))->JR pd' jump->
           (∀(v:Value) (w4:World),(Instr.endRound p.b jump).run P w3= .ok v w4->Steps P (lone (b.atR a1 [.code L.body]) (c::cs) w2) (lone (c.finish v) cs w4))->
           FS P B ι h w (Frame.round p.b L.fn tmps L.assign L.body .normal) c cs r:=by
           intro jump st' pd' hre hval hSR hJR hsteps
           unfold cX at hre
           obtain ⟨ob3,ho5,ho6⟩:=e3.sd.rel.obj _ _ hp3
           rw[ho5] at hre
           cases ob3 with
           |loop st3 pd3 tm3 ps3 na3 nb3=>
            have hre':=(hval tm3 ps3 na3 nb3).symm.trans hre
            rw[←hre']
            obtain ⟨L3,k1,k2,k3,k4⟩:=ho6
            have hend:=run_endRound (P:=P) jump k1
            have hlt3:=e3.sd.rel.lt _ _ hp3
            obtain ⟨z1,z2⟩:=e3.sd.rel.turn (w':=w3.putObj p.b (.loop {L3 with state:=if jump.isNone then .ready else .done,pending:=jump})) hp3 (by rw[ho5];simp) (.loop st' pd' tm3 ps3 na3 nb3)
             ⟨_,World.putObj_heap_same hlt3,hSR,hJR,k4⟩ (by simp) rfl rfl rfl (fun q hq=>World.putObj_heap_other hq)
            exact ⟨ι3,.bool jump.isNone,_,.bool _,z1,by simpa using e3.sd.base,hgr.trans z2,hpre.trans (hsteps _ _ hend)⟩
           |_=>exact I5 hre.symm hne
          cases o2 with
          |norm=>
           exact fin none 0 .none hrb' (fun tm ps na nb=>NH.set_eq _ _ _ _) rfl rfl fun v w4 he=>Steps.trans e1 (.one (stepR_round_end rfl rfl he))
          |ret=>
           obtain ⟨k0,e1⟩:=e1
           exact fin (some .ret) 2 .ret hrb' (fun tm ps na nb=>NH.set_eq _ _ _ _) rfl rfl fun v w4 he=>Steps.trans e1 (.one (stepR_round_ret rfl rfl he))
          |exit id=>
           obtain ⟨k0,e0,e1⟩:=e1
           exact fin (some (.exit id)) 2 (.exit id) hrb' (fun tm ps na nb=>NH.set_eq _ _ _ _) rfl rfl fun v w4 he=>Steps.trans e1 (.one (stepR_round_exit rfl rfl (by rw[e0];rfl) he))
          |pan v=>
           dsimp only at hrb'
           cases hd2:d2.dfs with
           |cons x xs=>rw[hd2] at hrb';exact I5 hrb'.symm hne
           |nil=>
            rw[hd2] at hrb'
            rw[←show CR.pan v none d2.h=r from hrb']
            obtain ⟨td,v',f1,f2⟩:=e1
            have hdef3:a3.defers= []:=by
             have:=e3.sd.df
             rw[hd2] at this
             cases hq:a3.defers with
             |nil=>rfl
             |cons d ds=>rw[hq] at this;exact this.elim
            refine ⟨ι3,v',w3,f1,e3.sd.rel,e3.sd.base,hgr,hpre.trans (Steps.trans f2 (.one (step_leave_panicked ⟨rfl,hdef3,fn,l8⟩)))⟩
       |_=>exact I5 hrb'.symm hne
      cases r with
      |fail=>trivial
      |val v x h'=>
       intro c cs
       obtain ⟨ι',v',w',q1,q2,q3,q4,q5⟩:=main c cs
       exact ⟨ι',v',w',q1,q2,q3,q4,.inr ⟨w,.inr ⟨p.b,L.fn,tmps,L.assign,L.body,hy,q5⟩⟩⟩
      |pan v x h'=>
       intro c cs
       obtain ⟨ι',v',w',q1,q2,q3,q4,q5⟩:=main c cs
       exact ⟨ι',v',w',q1,q2,q3,q4,w,.inr ⟨p.b,L.fn,tmps,L.assign,L.body,hy,q5⟩⟩
    |_=>exact I5 hrr2.symm hne
 |_=>exact I5 hrr'.symm hne
theorem ki (hM:P.follows .mixedOrders=true) (hK:iJ P) (hS:bv P S):∀n,fF P S n/\CallsOK P S (ev P S n):=by
 intro n
 induction n with
 |zero=>
  have h0:fF P S 0:=fun c nc fn bl la _ _ rnd d o d' h=>by cases h
  exact ⟨h0,⟨kL hK hS h0,ju h0⟩⟩
 |succ n ih=>
  have h1:fF P S (n+1):=tg hM ih.1 ih.2
  exact ⟨h1,⟨kL hK hS h1,ju h1⟩⟩
end
end Nm
namespace Nm
open Go Go.RowKit
noncomputable def u9 (cf:Nat->Option NFn) (S:Nat->List NV->Option NV) (n f:Nat) (args:List NV):CR:=bY cf (ev cf S n) 3 f args none ⟨.leaf,.e⟩
def ι0:aM:=fun _=>none
theorem Ha (P:Program) (w:World):Rel P ι0 w.heap.size ⟨.leaf,.e⟩ w where
 obj:=fun i p h=>by cases h
 inj:=fun i j p q h=>by cases h
 base:=fun i p h=>by cases h
 lt:=fun i p h=>by cases h
 fresh:=fun i o h=>by rw[show NH.get ⟨.leaf,.e⟩ i=NT.get i .leaf from rfl,NT.get_leaf] at h;cases h
theorem zW {P:Program} {S:Nat->List NV->Option NV} (hM:P.follows .mixedOrders=true) (hP:P.check= .ok ()) (hS:bv P S) {n f:Nat} {args:List NV} {v:NV} {x:Option NV} {h:NH} (hr:u9 P S n f args= .val v x h) {args':List Value} (ha:VRL ι0 args args') (w:World):
 Calls P f args'.toArray w fun e w'=>(∃ι v',e= .returned v'/\VR ι v v'/\Rel P ι w.heap.size h w')/\Below w.heap.size w w':=by
 intro cs
 obtain ⟨hO,_⟩:=ki hM (iD hP) hS n
 have hD:=fS (iD hP) hO 3 f args none ⟨.leaf,.e⟩
 obtain ⟨_,hF⟩:=hD (by rw[show bY P (ev P S n) 3 f args none ⟨.leaf,.e⟩= .val v x h from hr];simp)
 have hF:=hF w.heap.size ι0 w args' .normal cs (Ha P w) (Nat.le_refl _) ha (fun b hb=>by unfold tryRecover;rw[hb])
 rw[show bY P (ev P S n) 3 f args none ⟨.leaf,.e⟩= .val v x h from hr] at hF
 obtain ⟨ι',v',w',cs',fr,f1,f2,f3,f4,f5,f6,f7,f8,f9⟩:=hF
 obtain ⟨rfl,_⟩:=f5.none
 refine ⟨.returned v',w',fr,⟨⟨ι',v',rfl,f1,f2⟩,⟨f4.os,f4.tape,f4.output,f4.size,fun k hk=>f4.frame k hk fun i p hi=>by cases hi⟩⟩,f6,f8,dg f7 f9⟩
end Nm
namespace Nm
open Go Go.RowKit
mutual
def dv:NV->Bool
 | .bool _| .int _ _| .str _| .nilp| .nils| .nilm| .nilf| .nili=>true
 | .ifc _ v=>dv v
 | .agg l=>gM l
 | .tup l=>gM l
 |_=>false
def gM:List NV->Bool
 | []=>true
 |v::l=>dv v&&gM l
end
mutual
theorem VR.plain {ι ι':aM}:∀{v:NV} {v':Value},VR ι v v'->dv v=true->VR ι' v v'
 |_,_,.bool b,_=> .bool b
 |_,_,.int k n,_=> .int k n
 |_,_,.str l s h,_=> .str l s h
 |_,_,.nilp,_=> .nilp
 |_,_,.ptr ..,h=>by simp[dv] at h
 |_,_,.nils,_=> .nils
 |_,_,.slc ..,h=>by simp[dv] at h
 |_,_,.nilm,_=> .nilm
 |_,_,.map ..,h=>by simp[dv] at h
 |_,_,.nilf,_=> .nilf
 |_,_,.fn ..,h=>by simp[dv] at h
 |_,_,.yld ..,h=>by simp[dv] at h
 |_,_,.nili,_=> .nili
 |_,_,.ifc t v v' h,k=> .ifc t v v' (VR.plain h (by simpa [dv] using k))
 |_,_,.agg l l' h h1,k=> .agg l l' (VRL.plain h (by simpa [dv] using k)) h1
 |_,_,.tup l l' h,k=> .tup l l' (VRL.plain h (by simpa [dv] using k))
theorem VRL.plain {ι ι':aM}:∀{l:List NV} {l':List Value},VRL ι l l'->gM l=true->VRL ι' l l'
 |_,_,.nil,_=> .nil
 |_,_,.cons v v' l l' h hl,k=> .cons v v' l l' (VR.plain h (by simp[gM] at k;exact k.1)) (VRL.plain hl (by simp[gM] at k;exact k.2))
end
variable {P:Program} {f:Nat} {args:List NV} {S:Nat->List NV->Option NV}
noncomputable def bA (f:Nat) (args:List NV) (v:NV) (S:Nat->List NV->Option NV):Nat->List NV->Option NV:=fun g l=>
 cond (Nat.beq g f) (cond (fQ (bi 3) l args) (some v) (S g l)) (S g l)
noncomputable def bO (cf:Nat->Option NFn) (S:Nat->List NV->Option NV) (n f:Nat) (args:List NV) (v:NV):Bool:=
 match u9 cf S n f args with
 | .val u _ _=>cond (gM args) (cond (dv v) (bi 5 u v) false) false
 |_=>false
theorem nX  {self:Option D4->NC->Dyn->Res} {d:Nat} {ctx:Option NV} {h:NH} (hn:bY P self d f args ctx h≠.fail):∃nf,aj P f=some (.code nf):=by
 cases d with
 |zero=>exact I5 rfl hn
 |succ d=>
  rw[dZ] at hn
  cases hc:aj P f with
  |none=>rw[hc] at hn;exact I5 rfl hn
  |some x=>
   cases x with
   |code nf=>exact ⟨nf,rfl⟩
   |ext e=>rw[hc] at hn;exact I5 rfl hn
theorem aY  (hM:P.follows .mixedOrders=true) (hP:P.check= .ok ()) (hS:bv P S) {n:Nat} {v:NV} (hr:bO P S n f args v=true):bv P (bA f args v S):=by
 intro ι B h w g l l' u hg hR hB hl
 have hg':cond (Nat.beq g f) (cond (fQ (bi 3) l args) (some v) (S g l)) (S g l)=some u:=hg
 by_cases h1:Nat.beq g f=true/\fQ (bi 3) l args=true
 ·obtain ⟨h2,h3⟩:=h1
  rw[h2,h3] at hg'
  cases hg'
  have:=Jc h2
  subst this
  have:=iO (iL 3) h3
  subst this
  unfold bO at hr
  split at hr
  ·rename_i u x h0 hrun
   obtain ⟨p1,hr⟩:=dW hr
   obtain ⟨p2,hr⟩:=dW hr
   have:=iL _ _ _ hr
   subst this
   intro c cs
   have hcalls:=zW hM hP hS hrun (hl.plain p1) w
   obtain ⟨e,w',fr,⟨⟨ι1,v',he,hv,_⟩,hb⟩,hcomes,hfn,hleave⟩:=hcalls (c::cs)
   subst he
   obtain ⟨nf,hnf⟩:=nX (show bY P (ev P S n) 3 g l none ⟨.leaf,.e⟩≠.fail by rw[show bY P (ev P S n) 3 g l none ⟨.leaf,.e⟩=_ from hrun];simp)
   obtain ⟨fn,code,e1,e2,e3,_⟩:=fY hnf
   refine ⟨ι,v',w',hv.plain p2,⟨fun i p hi=> ?_,hR.inj,hR.base,fun i p hi=>Nat.lt_of_lt_of_le (hR.lt i p hi) hb.size,hR.fresh⟩,Nat.le_trans hB hb.size, ?_,.inr ⟨w,.inl ⟨g,l'.toArray,i6 e1 e2 e3 _ w,Steps.trans hcomes (.one (step_leave_returned hleave))⟩⟩⟩
   ·obtain ⟨o,o1,o2⟩:=hR.obj i p hi
    exact ⟨o,o1,o2.mono (aM.le_refl _) (hb.block _ (hR.lt i p hi))⟩
   ·exact ⟨aM.le_refl _,Nat.le_refl _,fun _ _ x=> .inl x,fun i p x y=> .inr ⟨i,p,x,y,rfl⟩,fun _ _ _=>rfl,hb.size,hb.os,hb.tape,hb.output,fun b hb' _=>hb.block b hb'⟩
  ·cases hr
 ·have:S g l=some u:=by
   cases h2:Nat.beq g f with
   |false=>rw[h2] at hg';exact hg'
   |true=>
    rw[h2] at hg'
    cases h3:fQ (bi 3) l args with
    |false=>rw[h3] at hg';exact hg'
    |true=>exact I5 ⟨h2,h3⟩ h1
  exact hS ι B h w g l l' u this hR hB hl
noncomputable def ao (P:Program) (k:Nat) (nf:NFun) (f:Nat):Option NFn:=cond (Nat.beq f k) (some (.code nf)) (aj P f)
noncomputable def aq (m:Nat) (a b:Nat->Option NFn) (f:Nat):Option NFn:=cond (Nat.ble f m) (a f) (b f)
def gQ (P:Program) (cf:Nat->Option NFn):Prop:=∀f,cf f=aj P f
theorem af  {k:Nat} {nf:NFun} (h:aj P k=some (.code nf)):gQ P (ao P k nf):=fun f=>by
 unfold ao
 cases hb:Nat.beq f k with
 |false=>rfl
 |true=>rw[Jc hb];exact h.symm
theorem ag  {m:Nat} {a b:Nat->Option NFn} (ha:gQ P a) (hb:gQ P b):gQ P (aq m a b):=fun f=>by
 unfold aq
 cases Nat.ble f m with
 |false=>exact hb f
 |true=>exact ha f
theorem gQ.kept  {cf:Nat->Option NFn} (h:gQ P cf) {n:Nat} {v:NV} (hr:bO cf S n f args v=true):bO P S n f args v=true:=by
 have e:cf=aj P:=funext h
 rw[e] at hr;exact hr
end Nm
namespace Nm
open Go Go.RowKit
variable {o:Out} {m:NH} {d1 d d':Dyn} {t:Tm} {dfs:List Dfr} {x y:NC} {f:Nat} {l:List NOper} {args:List NV} {v:NV} {rnd dst:Option D4}
def Le (a b:Option D4->NC->Dyn->Res):Prop:=∀r c d o d',a r c d= .mk o d'->b r c d= .mk o d'
section
variable {P:Program} {S:Nat->List NV->Option NV} {a b:Option D4->NC->Dyn->Res}
theorem fk {F G:Nat->List NV->Option NV->NH->CR} (h:∀f l p m r,F f l p m=r->r≠.fail->G f l p m=r) {K:Option NV->NH->CR}:∀(l:List Dfr) (p:Option NV) (m:NH) (r:CR),unwind F K l p m=r->r≠.fail->unwind G K l p m=r:=by
 intro l
 induction l with
 |nil=>exact fun p m r e _=>e
 |cons c l ih=>
  intro p m r e hr
  rw[jr] at e ⊢
  cases c with
  |mark id=>
   dsimp only at e ⊢
   split at e
   ·exact ih _ _ _ e hr
   ·exact I5 e.symm hr
  |call f cap=>
   dsimp only at e ⊢
   cases hf:F f cap p m with
   |fail=>rw[hf] at e;exact I5 e.symm hr
   |pan v x m'=>rw[hf] at e;exact I5 e.symm hr
   |val v x m'=>
    rw[hf] at e
    rw[h f cap p m _ hf (by simp)]
    exact ih _ _ _ e hr
theorem pE (h:Le a b):∀(d f:Nat) (l:List NV) (p:Option NV) (m:NH) (r:CR),bY P a d f l p m=r->r≠.fail->bY P b d f l p m=r:=by
 intro d
 induction d with
 |zero=>intro f l p m r e hr;exact I5 e.symm hr
 |succ d ih=>
  intro f l p m r e hr
  rw[dZ] at e ⊢
  cases hc:aj P f with
  |none=>rw[hc] at e;exact I5 e.symm hr
  |some x=>
   cases x with
   |ext x=>rw[hc] at e;exact I5 e.symm hr
   |code nf=>
    rw[hc] at e
    dsimp only at e ⊢
    cases ha:a none nf.body ⟨cZ l 0 .leaf, [],p,m⟩ with
    |fail=>rw[ha] at e;exact I5 e.symm hr
    |mk o d'=>
     rw[ha] at e
     rw[h _ _ _ _ _ ha]
     cases o with
     |norm=>exact fk (fun f l p m r=>ih f l p m r) _ _ _ _ e hr
     |ret=>exact fk (fun f l p m r=>ih f l p m r) _ _ _ _ e hr
     |pan v=>exact fk (fun f l p m r=>ih f l p m r) _ _ _ _ e hr
     |exit id=>exact I5 e.symm hr
theorem cH (h:Le a b) {l:List NV} {r:CR} (e:bD P S a f l m=r) (hr:r≠.fail):bD P S b f l m=r:=by
 unfold bD at e ⊢
 cases hs:S f l with
 |some v=>rw[hs] at e;exact e
 |none=>
  rw[hs] at e
  dsimp only at e ⊢
  cases hc:aj P f with
  |none=>rw[hc] at e;exact e
  |some x=>
   rw[hc] at e
   cases x with
   |ext x=>exact e
   |code nf=>exact pE h _ _ _ _ _ _ e hr
theorem ln (h:Le a b) {l:D4} {bd:NC} {r:CR} (e:bT a l bd t m=r) (hr:r≠.fail):bT b l bd t m=r:=by
 unfold bT at e ⊢
 split at e
 ·rename_i p tm ps assign body hm
  rw[NH.set_eq] at e ⊢
  cases ha:a (some l) bd ⟨t, [],none,m.put l (.loop 1 p tm ps assign body)⟩ with
  |fail=>rw[ha] at e;exact I5 e.symm hr
  |mk o d=>rw[ha] at e;rw[h _ _ _ _ _ ha];exact e
 ·exact I5 e.symm hr
theorem dU (h:Le a b) {l:D4} {r:CR} (e:round a l args m=r) (hr:r≠.fail):round b l args m=r:=by
 unfold round at e ⊢
 split at e
 ·rename_i x tm ps assign body hm
  obtain ⟨h1,h2⟩:=jt hr e
  have key:∀K:Tm->CR,cT .fail ps args tm K=K (lG ps args tm):=by
   clear e h2 hm
   intro K
   induction ps generalizing args tm with
   |nil=>cases args with
    |nil=>rfl
    |cons=>simp at h1
   |cons q ps ih=>
    cases args with
    |nil=>simp at h1
    |cons v vs=>
     have e:cT .fail (q::ps) (v::vs) tm K=NT.set q v tm fun t=>cT .fail ps vs t K:=rfl
     rw[e,NT.set_eq]
     exact ih _ (by simpa using h1)
  rw[key]
  cases ha:a (some l) assign ⟨lG ps args tm, [],none,m⟩ with
  |fail=>rw[ha] at h2;exact I5 h2.symm hr
  |mk o d=>
   rw[ha] at h2
   rw[h _ _ _ _ _ ha]
   cases o with
   |norm=>
    dsimp only at h2 ⊢
    split at h2
    ·exact ln h h2 hr
    ·exact I5 h2.symm hr
   |_=>exact I5 h2.symm hr
 ·exact I5 e.symm hr
theorem ko (h:Le a b) {ctx:Option NV} {x:NR} {r:OpO} (e:c7 P S a rnd dfs ctx m x=r) (hr:r≠.fail):c7 P S b rnd dfs ctx m x=r:=by
 cases x with
 |call f l=>
  have e':sr dfs ctx (bD P S a f l m)=r:=e
  have hn:bD P S a f l m≠.fail:=fun hh=>by rw[hh] at e';exact hr e'.symm
  show sr dfs ctx (bD P S b f l m)=r
  rw[cH h rfl hn];exact e'
 |yld l args=>
  have e':sr dfs ctx (round a l args m)=r:=e
  have hn:round a l args m≠.fail:=fun hh=>by rw[hh] at e';exact hr e'.symm
  show sr dfs ctx (round b l args m)=r
  rw[dU h rfl hn];exact e'
 |_=>exact e
theorem ww  {K L:Dyn->Res} (hk:∀d o d',K d= .mk o d'->L d= .mk o d') {ctx:Option NV} {x:OpO} (e:uo dst K t dfs ctx x= .mk o d'):uo dst L t dfs ctx x= .mk o d':=by
 cases x with
 |fail=>cases e
 |next v dfs ctx h=>exact hk _ _ _ e
 |pan v h=>exact e
theorem CI  {K:Dyn->Res} {ctx:Option NV} {x:OpO} (e:uo dst K t dfs ctx x= .mk o d'):x≠.fail:=by
 rintro rfl;cases e
theorem fE (h:Le a b):∀(l:List NOper) (d:Dyn) (o:Out) (d':Dyn),cp P S a rnd l d= .mk o d'->cp P S b rnd l d= .mk o d':=by
 intro l
 induction l with
 |nil=>exact fun d o d' e=>e
 |cons x l ih=>
  rintro ⟨t,dfs,ctx,m⟩ o d' e
  rw[b8] at e ⊢
  cases hg:av t x.guard with
  |none=>rw[hg] at e;cases e
  |some on=>
   rw[hg] at e
   cases on with
   |false=>exact ih _ _ _ e
   |true=>
    dsimp only at e ⊢
    rw[ko h rfl (CI e)]
    exact ww ih e
theorem jh (h:Le a b):∀(l:List NOper) (hs:List (Nat×NH)) (rs:List (Nat×(NH->NR)×NV)) (d:Dyn) (o:Out) (d':Dyn),bu P S a rnd l hs rs d= .mk o d'->bu P S b rnd l hs rs d= .mk o d':=by
 intro l
 induction l with
 |nil=>exact fun hs rs d o d' e=>e
 |cons x l ih=>
  rintro hs rs ⟨t,dfs,ctx,m⟩ o d' e
  rw[bB] at e ⊢
  cases hg:av t x.guard with
  |none=>rw[hg] at e;cases e
  |some on=>
   rw[hg] at e
   cases on with
   |false=>exact ih _ _ _ _ _ e
   |true=>
    dsimp only at e ⊢
    cases hcl:am x.op with
    |pure=>
     rw[hcl] at e
     dsimp only at e ⊢
     cases hop:ae x.op t m<;>rw[hop] at e<;>first|exact ih _ _ _ _ _ e|cases e
    |alloc=>
     rw[hcl] at e
     dsimp only at e ⊢
     cases ha:ahead x.pre hs with
     |false=>rw[ha] at e;cases e
     |true=>
      rw[ha] at e
      simp only[cond_true] at e ⊢
      cases hop:ae x.op t m<;>rw[hop] at e<;>first|exact ih _ _ _ _ _ e|cases e
    |read=>
     rw[hcl] at e
     dsimp only at e ⊢
     cases hop:ae x.op t m with
     |val v=>
      rw[hop] at e
      dsimp only at e ⊢
      cases hst:dG x.pre (ae x.op t) v hs with
      |false=>rw[hst] at e;cases e
      |true=>rw[hst] at e;exact ih _ _ _ _ _ e
     |_=>rw[hop] at e;cases e
    |eff=>
     rw[hcl] at e
     dsimp only at e ⊢
     cases ha:ahead x.pre hs with
     |false=>rw[ha] at e;cases e
     |true=>
      rw[ha] at e
      simp only[cond_true] at e ⊢
      have hk:∀d o d',cond (aR x.pre d.h rs) (bu P S a rnd l ((x.idx,m)::hs) rs d) .fail= .mk o d'->cond (aR x.pre d.h rs) (bu P S b rnd l ((x.idx,m)::hs) rs d) .fail= .mk o d':=by
       intro d o d' e
       cases hs':aR x.pre d.h rs with
       |false=>rw[hs'] at e;cases e
       |true=>rw[hs'] at e;exact ih _ _ _ _ _ e
      have hne:c7 P S a rnd dfs ctx m (ae x.op t m)≠.fail:=by
       intro hh
       rw[hh] at e
       cases e
      rw[ko h rfl hne]
      cases hoo:c7 P S a rnd dfs ctx m (ae x.op t m) with
      |fail=>exact I5 hoo hne
      |pan v m'=>rw[hoo] at e;exact e
      |next v dfs1 ctx1 m'=>
       rw[hoo] at e
       have e':cC (bK x.idx l) (cond (aR x.pre m' rs) (bu P S a rnd l ((x.idx,m)::hs) rs ⟨aD x.dst v t,dfs1,ctx1,m'⟩) .fail)= .mk o d':=e
       show cC (bK x.idx l) (cond (aR x.pre m' rs) (bu P S b rnd l ((x.idx,m)::hs) rs ⟨aD x.dst v t,dfs1,ctx1,m'⟩) .fail)= .mk o d'
       cases hin:cond (aR x.pre m' rs) (bu P S a rnd l ((x.idx,m)::hs) rs ⟨aD x.dst v t,dfs1,ctx1,m'⟩) .fail with
       |fail=>rw[hin] at e';cases e'
       |mk o2 d2=>
        have:=hk ⟨aD x.dst v t,dfs1,ctx1,m'⟩ o2 d2 hin
        rw[hin] at e'
        rw[show cond (aR x.pre m' rs) (bu P S b rnd l ((x.idx,m)::hs) rs ⟨aD x.dst v t,dfs1,ctx1,m'⟩) .fail= .mk o2 d2 from this]
        exact e'
theorem iH (h:Le a b) {cap:List NV} {ps:List D4} {ctx:Option NV} (e:bI P S a f cap ps x y t dfs ctx m= .mk o d'):bI P S b f cap ps x y t dfs ctx m= .mk o d':=by
 unfold bI at e ⊢
 rw[NH.new_eq] at e ⊢
 cases hc:bD P S a f (.yld m.next::cap) (m.add (.loop 0 .none t ps x y)) with
 |fail=>rw[hc] at e;cases e
 |val v c m'=>rw[hc] at e;rw[cH h hc (by simp)];exact e
 |pan v c m'=>rw[hc] at e;rw[cH h hc (by simp)];exact e
theorem qc (h:Le a b):Le (cN P S a) (cN P S b):=by
 intro r c d o d' e
 cases c with
 |skip=>exact e
 |reg l=>exact fE h _ _ _ _ e
 |regD l=>
  have e':(match bu P S a r l [] [] d with| .mk (.pan v) d=>Res.mk (.pan v) ⟨lp l d.t,d.dfs,d.ctx,d.h⟩|r=>r)= .mk o d':=e
  show (match bu P S b r l [] [] d with| .mk (.pan v) d=>Res.mk (.pan v) ⟨lp l d.t,d.dfs,d.ctx,d.h⟩|r=>r)= .mk o d'
  cases hr:bu P S a r l [] [] d with
  |fail=>rw[hr] at e';cases e'
  |mk o2 d2=>rw[hr] at e';rw[jh h _ _ _ _ _ _ hr];exact e'
 |seq x y=>
  have e':(match a r x d with| .mk o d=>(match o with| .norm=>a r y d|o=> .mk o d)| .fail=> .fail)=Res.mk o d':=(qb (cf:=P) (S:=S)).symm.trans e
  refine (qb (cf:=P) (S:=S)).trans ?_
  show (match b r x d with| .mk o d=>(match o with| .norm=>b r y d|o=> .mk o d)| .fail=> .fail)=Res.mk o d'
  cases hx:a r x d with
  |fail=>rw[hx] at e';cases e'
  |mk o2 d2=>
   rw[hx] at e'
   rw[h _ _ _ _ _ hx]
   cases o2 with
   |norm=>exact h _ _ _ _ _ e'
   |_=>exact e'
 |cond g x y=>
  have e':(match ρ d.t g with|some (.bool c)=>(Bool.rec (a r y d) (a r x d) c:Res)|_=> .fail)=Res.mk o d':=(nn (cf:=P) (S:=S)).symm.trans e
  refine (nn (cf:=P) (S:=S)).trans ?_
  show (match ρ d.t g with|some (.bool c)=>(Bool.rec (b r y d) (b r x d) c:Res)|_=> .fail)=Res.mk o d'
  cases hg:ρ d.t g with
  |none=>rw[hg] at e';cases e'
  |some v=>
   rw[hg] at e'
   cases v with
   |bool q=>cases q<;>exact h _ _ _ _ _ e'
   |_=>cases e'
 |block id x=>
  have e':(match a r x d with| .mk o d=>(match o with| .exit i=>cond (Nat.beq i id) (.mk .norm d) (.mk (.exit i) d)|o=> .mk o d)| .fail=> .fail)=Res.mk o d':=(kr (cf:=P) (S:=S)).symm.trans e
  refine (kr (cf:=P) (S:=S)).trans ?_
  show (match b r x d with| .mk o d=>(match o with| .exit i=>cond (Nat.beq i id) (.mk .norm d) (.mk (.exit i) d)|o=> .mk o d)| .fail=> .fail)=Res.mk o d'
  cases hx:a r x d with
  |fail=>rw[hx] at e';cases e'
  |mk o2 d2=>rw[hx] at e';rw[h _ _ _ _ _ hx];exact e'
 |loop x=>
  have e':(match a r x d with| .mk o d=>(match o with| .norm=>a r (.loop x) d|o=> .mk o d)| .fail=> .fail)=Res.mk o d':=(nB (cf:=P) (S:=S)).symm.trans e
  refine (nB (cf:=P) (S:=S)).trans ?_
  show (match b r x d with| .mk o d=>(match o with| .norm=>b r (.loop x) d|o=> .mk o d)| .fail=> .fail)=Res.mk o d'
  cases hx:a r x d with
  |fail=>rw[hx] at e';cases e'
  |mk o2 d2=>
   rw[hx] at e'
   rw[h _ _ _ _ _ hx]
   cases o2 with
   |norm=>exact h _ _ _ _ _ e'
   |_=>exact e'
 |rangeFunc f ps x y=>
  obtain ⟨t,dfs,ctx,m⟩:=d
  have e':(match ρ t f with
   |some (.fn f cap)=>(match (generalizing:=false) r with
    |none=>m.new (.defd true) fun q m=>bI P S a f cap ps x y t (.mark q::dfs) ctx m
    |some l=>(match m.get l with
     |some (.loop ..)=>bI P S a f cap ps x y t dfs ctx m
     |_=> .fail))
   |_=> .fail)=Res.mk o d':=e
  show (match ρ t f with
   |some (.fn f cap)=>(match (generalizing:=false) r with
    |none=>m.new (.defd true) fun q m=>bI P S b f cap ps x y t (.mark q::dfs) ctx m
    |some l=>(match m.get l with
     |some (.loop ..)=>bI P S b f cap ps x y t dfs ctx m
     |_=> .fail))
   |_=> .fail)=Res.mk o d'
  cases hf:ρ t f with
  |none=>rw[hf] at e';cases e'
  |some v=>
   rw[hf] at e'
   cases v with
   |fn f cap=>
    dsimp only at e' ⊢
    cases r with
    |none=>
     dsimp only at e' ⊢
     rw[NH.new_eq] at e' ⊢
     exact iH h e'
    |some l=>
     dsimp only at e' ⊢
     split at e'
     ·exact iH h e'
     ·cases e'
   |_=>cases e'
 |exit id=>exact e
 |ret=>exact e
theorem yM:∀n,Le (ev P S n) (ev P S (n+1)):=by
 intro n
 induction n with
 |zero=>intro r c d o d' e;cases e
 |succ n ih=>exact qc ih
theorem bx {n m:Nat} (hnm:n<=m):Le (ev P S n) (ev P S m):=by
 induction m with
 |zero=>
  have:n=0:=by omega
  subst this;exact fun _ _ _ _ _ e=>e
 |succ m ih=>
  by_cases h:n=m+1
  ·subst h;exact fun _ _ _ _ _ e=>e
  ·exact fun r c d o d' e=>yM m r c d o d' (ih (by omega) r c d o d' e)
end
def dz (P:Program) (S:Nat->List NV->Option NV) (r:Option D4) (c:NC) (d:Dyn) (o:Out) (d':Dyn):Prop:=∃n,ev P S n r c d= .mk o d'
def Call (P:Program) (S:Nat->List NV->Option NV) (f:Nat) (l:List NV) (m:NH) (x:CR):Prop:=x≠.fail/\∃n,bD P S (ev P S n) f l m=x
def jI (P:Program) (S:Nat->List NV->Option NV) (r:Option D4) (l:List NOper) (d:Dyn) (o:Out) (d':Dyn):Prop:=∃n,cp P S (ev P S n) r l d= .mk o d'
section
variable {P:Program} {S:Nat->List NV->Option NV} {r:Option D4}
theorem dz.skip (d:Dyn):dz P S r .skip d .norm d:=⟨1,rfl⟩
theorem dz.ret (d:Dyn):dz P S r .ret d .ret d:=⟨1,rfl⟩
theorem dz.exit (id:Nat) (d:Dyn):dz P S r (.exit id) d (.exit id) d:=⟨1,rfl⟩
theorem dz.seq  {d2:Dyn} (hx:dz P S r x d .norm d1) (hy:dz P S r y d1 o d2):dz P S r (.seq x y) d o d2:=by
 obtain ⟨n,hn⟩:=hx
 obtain ⟨m,hm⟩:=hy
 refine ⟨max n m+1, ?_⟩
 refine pC.trans ?_
 show (match ev P S (max n m) r x d with| .mk o d=>(match o with| .norm=>ev P S (max n m) r y d|o=> .mk o d)| .fail=> .fail)=Res.mk o d2
 rw[bx (Nat.le_max_left n m) _ _ _ _ _ hn]
 exact bx (Nat.le_max_right n m) _ _ _ _ _ hm
theorem dz.seq_out  (hx:dz P S r x d o d1) (ho:o≠.norm):dz P S r (.seq x y) d o d1:=by
 obtain ⟨n,hn⟩:=hx
 refine ⟨n+1, ?_⟩
 refine pC.trans ?_
 show (match ev P S n r x d with| .mk o d=>(match o with| .norm=>ev P S n r y d|o=> .mk o d)| .fail=> .fail)=Res.mk o d1
 rw[hn]
 cases o<;>first|rfl|exact I5 rfl ho
theorem dz.cond {g:NOpd} {q:Bool} (hg:ρ d.t g=some (.bool q)) (h:dz P S r (if q then x else y) d o d1):dz P S r (.cond g x y) d o d1:=by
 obtain ⟨n,hn⟩:=h
 refine ⟨n+1, ?_⟩
 refine rX.trans ?_
 show (match ρ d.t g with|some (.bool c)=>(Bool.rec (ev P S n r y d) (ev P S n r x d) c:Res)|_=> .fail)=Res.mk o d1
 rw[hg]
 cases q<;>exact hn
theorem dz.block {id:Nat} (h:dz P S r x d o d1):dz P S r (.block id x) d (match o with| .exit i=>_root_.cond (Nat.beq i id) .norm (.exit i)|o=>o) d1:=by
 obtain ⟨n,hn⟩:=h
 refine ⟨n+1, ?_⟩
 refine oS.trans ?_
 show (match ev P S n r x d with| .mk o d=>(match o with| .exit i=>_root_.cond (Nat.beq i id) (Res.mk .norm d) (Res.mk (.exit i) d)|o=>Res.mk o d)| .fail=>Res.fail)=_
 rw[hn]
 cases o with
 |exit i=>dsimp only;cases Nat.beq i id<;>rfl
 |_=>rfl
theorem dz.loop  {d2:Dyn} (hx:dz P S r x d .norm d1) (hy:dz P S r (.loop x) d1 o d2):dz P S r (.loop x) d o d2:=by
 obtain ⟨n,hn⟩:=hx
 obtain ⟨m,hm⟩:=hy
 refine ⟨max n m+1, ?_⟩
 refine mS.trans ?_
 show (match ev P S (max n m) r x d with| .mk o d=>(match o with| .norm=>ev P S (max n m) r (.loop x) d|o=> .mk o d)| .fail=> .fail)=Res.mk o d2
 rw[bx (Nat.le_max_left n m) _ _ _ _ _ hn]
 exact bx (Nat.le_max_right n m) _ _ _ _ _ hm
theorem dz.loop_out  (hx:dz P S r x d o d1) (ho:o≠.norm):dz P S r (.loop x) d o d1:=by
 obtain ⟨n,hn⟩:=hx
 refine ⟨n+1, ?_⟩
 refine mS.trans ?_
 show (match ev P S n r x d with| .mk o d=>(match o with| .norm=>ev P S n r (.loop x) d|o=> .mk o d)| .fail=> .fail)=Res.mk o d1
 rw[hn]
 cases o<;>first|rfl|exact I5 rfl ho
theorem dz.reg  (h:jI P S r l d o d1):dz P S r (.reg l) d o d1:=by
 obtain ⟨n,hn⟩:=h
 exact ⟨n+1,hn⟩
theorem jI.nil (d:Dyn):jI P S r [] d .norm d:=⟨0,rfl⟩
theorem jI.val {x:NOper} {ctx:Option NV} (hg:av t x.guard=some true) (hop:ae x.op t m= .val v)
 (h:jI P S r l ⟨aD x.dst v t,dfs,ctx,m⟩ o d1):jI P S r (x::l) ⟨t,dfs,ctx,m⟩ o d1:=by
 obtain ⟨n,hn⟩:=h
 refine ⟨n, ?_⟩
 rw[b8,hg,hop]
 exact hn
theorem jI.mem {x:NOper} {ctx:Option NV} {m':NH} (hg:av t x.guard=some true) (hop:ae x.op t m= .mem v m')
 (h:jI P S r l ⟨aD x.dst v t,dfs,ctx,m'⟩ o d1):jI P S r (x::l) ⟨t,dfs,ctx,m⟩ o d1:=by
 obtain ⟨n,hn⟩:=h
 refine ⟨n, ?_⟩
 rw[b8,hg,hop]
 exact hn
theorem jI.off {x:NOper} {ctx:Option NV} (hg:av t x.guard=some false)
 (h:jI P S r l ⟨aD x.dst aA t,dfs,ctx,m⟩ o d1):jI P S r (x::l) ⟨t,dfs,ctx,m⟩ o d1:=by
 obtain ⟨n,hn⟩:=h
 refine ⟨n, ?_⟩
 rw[b8,hg]
 exact hn
theorem jI.call {x:NOper} {ctx:Option NV} {m':NH} {c:Option NV} (hg:av t x.guard=some true) (hop:ae x.op t m= .call f args)
 (hc:Call P S f args m (.val v c m')) (h:jI P S r l ⟨aD x.dst v t,dfs,ctx,m'⟩ o d1):jI P S r (x::l) ⟨t,dfs,ctx,m⟩ o d1:=by
 obtain ⟨n,hn⟩:=h
 obtain ⟨hne,k,hk⟩:=hc
 refine ⟨max n k, ?_⟩
 rw[b8,hg,hop]
 show uo x.dst (cp P S (ev P S (max n k)) r l) t dfs ctx (sr dfs ctx (bD P S (ev P S (max n k)) f args m))=_
 rw[cH (bx (Nat.le_max_right n k)) hk hne]
 exact fE (bx (Nat.le_max_left n k)) _ _ _ _ hn
theorem Call.of_run  {nf:NFun} (hs:∀l,S f l=none) (hf:aj P f=some (.code nf)) (ho:o= .norm∨o= .ret) (h:dz P S none nf.body ⟨cZ args 0 .leaf, [],none,m⟩ o d) (hd:d.dfs= [])
 {x:CR} (hx:bJ d.h d.t nf.results .fail (fun l=> .val (fh l) d.ctx d.h)=x) (hne:x≠.fail):Call P S f args m x:=by
 obtain ⟨n,hn⟩:=h
 refine ⟨hne,n, ?_⟩
 unfold bD
 rw[hs]
 dsimp only
 rw[hf]
 dsimp only
 rw[dZ,hf]
 dsimp only
 rw[hn]
 rcases ho with rfl|rfl<;>(dsimp only;rw[hd];exact hx)
theorem xp (hM:P.follows .mixedOrders=true) (hP:P.check= .ok ()) (hS:bv P S) {m':NH} {c:Option NV} {nf:NFun} (hf:aj P f=some (.code nf)) (hs:S f args=none) (hc:Call P S f args m (.val v c m'))
 {ι:aM} {w:World} (hR:Rel P ι w.heap.size m w) (hlive:∀i p,ι i=some p->¬Live (m.get i)) {args':List Value} (ha:VRL ι args args'):
 Calls P f args'.toArray w fun e w'=>(∃ι' v',e= .returned v'/\VR ι' v v'/\ι.le ι'/\Rel P ι' w.heap.size m' w')/\Below w.heap.size w w':=by
 intro cs
 obtain ⟨_,n,hn⟩:=hc
 have hn':bY P (ev P S n) 3 f args none m= .val v c m':=by
  unfold bD at hn
  rw[hs] at hn
  dsimp only at hn
  rw[hf] at hn
  exact hn
 obtain ⟨hO,_⟩:=ki hM (iD hP) hS n
 have hD:=fS (iD hP) hO 3 f args none m
 obtain ⟨_,hF⟩:=hD (by rw[hn'];simp)
 have hF:=hF w.heap.size ι w args' .normal cs hR (Nat.le_refl _) ha (fun b hb=>by unfold tryRecover;rw[hb])
 rw[hn'] at hF
 obtain ⟨ι',v',w',cs',fr,f1,f2,f3,f4,f5,f6,f7,f8,f9⟩:=hF
 obtain ⟨rfl,_⟩:=f5.none
 refine ⟨.returned v',w',fr,⟨⟨ι',v',rfl,f1,f4.le,f2⟩,⟨f4.os,f4.tape,f4.output,f4.size,fun k hk=>f4.frame k hk fun i p hi hl=>I5 hl (hlive i p hi)⟩⟩,f6,f8,dg f7 f9⟩
end
end Nm
namespace Nm
open Go Go.RowKit
variable {a b:Int} {k:IntKind}
noncomputable def aw:List (D4×NV)->Tm->Tm
 | [],t=>t
 |p::l,t=>NT.put p.1 p.2 (aw l t)
noncomputable def du (k:D4):List (D4×NV)->Option NV->Option NV
 | [],d=>d
 |p::l,d=>cond (aS k p.1) (some p.2) (du k l d)
theorem lA (k:D4):aS k k=true:=by
 induction k with
 |e=>rfl
 |a d ih=>exact ih
 |b d ih=>exact ih
 |c d ih=>exact ih
 |f d ih=>exact ih
theorem dP (k:D4) (l:List (D4×NV)) (t:Tm):NT.get k (aw l t)=du k l (NT.get k t):=by
 induction l with
 |nil=>rfl
 |cons p l ih=>
  show NT.get k (NT.put p.1 p.2 (aw l t))=cond (aS k p.1) (some p.2) (du k l (NT.get k t))
  cases h:aS k p.1 with
  |true=>rw[fT h,NT.get_put_same];rfl
  |false=>
   have hne:k≠p.1:=fun e=>by rw[e,lA] at h;cases h
   rw[NT.get_put_ne hne,ih];rfl
def br (P:Program) (S:Nat->List NV->Option NV) (r:Option D4) (l:List NOper) (hs:List (Nat×NH)) (rs:List (Nat×(NH->NR)×NV)) (d:Dyn) (o:Out) (d':Dyn):Prop:=∃n,bu P S (ev P S n) r l hs rs d= .mk o d'
section
variable {P:Program} {S:Nat->List NV->Option NV} {r:Option D4} {x:NOper} {l:List NOper} {hs:List (Nat×NH)} {rs:List (Nat×(NH->NR)×NV)} {t:Tm} {dfs:List Dfr} {ctx:Option NV} {m m':NH} {o:Out} {d d1:Dyn} {v:NV}
theorem dz.regD (h:br P S r l [] [] d .norm d1):dz P S r (.regD l) d .norm d1:=by
 obtain ⟨n,hn⟩:=h
 refine ⟨n+1, ?_⟩
 show (match bu P S (ev P S n) r l [] [] d with| .mk (.pan v) d=>Res.mk (.pan v) ⟨lp l d.t,d.dfs,d.ctx,d.h⟩|r=>r)=_
 rw[hn]
theorem br.nil (d:Dyn):br P S r [] hs rs d .norm d:=⟨0,rfl⟩
theorem br.off (hg:av t x.guard=some false) (h:br P S r l hs rs ⟨aD x.dst aA t,dfs,ctx,m⟩ o d1):br P S r (x::l) hs rs ⟨t,dfs,ctx,m⟩ o d1:=by
 obtain ⟨n,hn⟩:=h
 exact ⟨n,by rw[bB,hg];exact hn⟩
theorem br.pure (hg:av t x.guard=some true) (hc:am x.op= .pure) (hop:ae x.op t m= .val v) (h:br P S r l hs rs ⟨aD x.dst v t,dfs,ctx,m⟩ o d1):br P S r (x::l) hs rs ⟨t,dfs,ctx,m⟩ o d1:=by
 obtain ⟨n,hn⟩:=h
 exact ⟨n,by rw[bB,hg];dsimp only;rw[hc];dsimp only;rw[hop];exact hn⟩
theorem br.alloc (hg:av t x.guard=some true) (hc:am x.op= .alloc) (ha:ahead x.pre hs=true) (hop:ae x.op t m= .mem v m') (h:br P S r l hs rs ⟨aD x.dst v t,dfs,ctx,m'⟩ o d1):br P S r (x::l) hs rs ⟨t,dfs,ctx,m⟩ o d1:=by
 obtain ⟨n,hn⟩:=h
 exact ⟨n,by rw[bB,hg];dsimp only;rw[hc];dsimp only;rw[ha,hop];exact hn⟩
theorem br.read (hg:av t x.guard=some true) (hc:am x.op= .read) (hop:ae x.op t m= .val v) (ha:dG x.pre (ae x.op t) v hs=true)
 (h:br P S r l hs ((x.idx,ae x.op t,v)::rs) ⟨aD x.dst v t,dfs,ctx,m⟩ o d1):br P S r (x::l) hs rs ⟨t,dfs,ctx,m⟩ o d1:=by
 obtain ⟨n,hn⟩:=h
 exact ⟨n,by rw[bB,hg];dsimp only;rw[hc];dsimp only;rw[hop];dsimp only;rw[ha];exact hn⟩
theorem br.eff (hg:av t x.guard=some true) (hc:am x.op= .eff) (ha:ahead x.pre hs=true) (hop:ae x.op t m= .mem v m') (hst:aR x.pre m' rs=true)
 (h:br P S r l ((x.idx,m)::hs) rs ⟨aD x.dst v t,dfs,ctx,m'⟩ .norm d1):br P S r (x::l) hs rs ⟨t,dfs,ctx,m⟩ .norm d1:=by
 obtain ⟨n,hn⟩:=h
 refine ⟨n, ?_⟩
 rw[bB,hg];dsimp only;rw[hc];dsimp only;rw[ha,hop]
 show cC (bK x.idx l) (cond (aR x.pre m' rs) (bu P S (ev P S n) r l ((x.idx,m)::hs) rs ⟨aD x.dst v t,dfs,ctx,m'⟩) .fail)=_
 rw[hst]
 show cC (bK x.idx l) (bu P S (ev P S n) r l ((x.idx,m)::hs) rs ⟨aD x.dst v t,dfs,ctx,m'⟩)=_
 rw[hn];rfl
theorem br.effv (hg:av t x.guard=some true) (hc:am x.op= .eff) (ha:ahead x.pre hs=true) (hop:ae x.op t m= .val v) (hst:aR x.pre m rs=true)
 (h:br P S r l ((x.idx,m)::hs) rs ⟨aD x.dst v t,dfs,ctx,m⟩ .norm d1):br P S r (x::l) hs rs ⟨t,dfs,ctx,m⟩ .norm d1:=by
 obtain ⟨n,hn⟩:=h
 refine ⟨n, ?_⟩
 rw[bB,hg];dsimp only;rw[hc];dsimp only;rw[ha,hop]
 show cC (bK x.idx l) (cond (aR x.pre m rs) (bu P S (ev P S n) r l ((x.idx,m)::hs) rs ⟨aD x.dst v t,dfs,ctx,m⟩) .fail)=_
 rw[hst]
 show cC (bK x.idx l) (bu P S (ev P S n) r l ((x.idx,m)::hs) rs ⟨aD x.dst v t,dfs,ctx,m⟩)=_
 rw[hn];rfl
theorem br.call {f:Nat} {args:List NV} {c:Option NV} (hg:av t x.guard=some true) (hc:am x.op= .eff) (ha:ahead x.pre hs=true) (hop:ae x.op t m= .call f args) (hcall:Call P S f args m (.val v c m')) (hst:aR x.pre m' rs=true)
 (h:br P S r l ((x.idx,m)::hs) rs ⟨aD x.dst v t,dfs,ctx,m'⟩ .norm d1):br P S r (x::l) hs rs ⟨t,dfs,ctx,m⟩ .norm d1:=by
 obtain ⟨n,hn⟩:=h
 obtain ⟨hne,k,hk⟩:=hcall
 refine ⟨max n k, ?_⟩
 rw[bB,hg];dsimp only;rw[hc];dsimp only;rw[ha,hop]
 show cC (bK x.idx l) (uo x.dst (fun d=>cond (aR x.pre d.h rs) (bu P S (ev P S (max n k)) r l ((x.idx,m)::hs) rs d) .fail) t dfs ctx (sr dfs ctx (bD P S (ev P S (max n k)) f args m)))=_
 rw[cH (bx (Nat.le_max_right n k)) hk hne]
 show cC (bK x.idx l) (cond (aR x.pre m' rs) (bu P S (ev P S (max n k)) r l ((x.idx,m)::hs) rs ⟨aD x.dst v t,dfs,ctx,m'⟩) .fail)=_
 rw[hst]
 show cC (bK x.idx l) (bu P S (ev P S (max n k)) r l ((x.idx,m)::hs) rs ⟨aD x.dst v t,dfs,ctx,m'⟩)=_
 rw[jh (bx (Nat.le_max_left n k)) _ _ _ _ _ _ hn];rfl
end
def rl (P:Program) (S:Nat->List NV->Option NV) (l:D4) (args:List NV) (m:NH) (x:CR):Prop:=x≠.fail/\∃n,round (ev P S n) l args m=x
section
variable {P:Program} {S:Nat->List NV->Option NV} {r:Option D4} {x:NOper} {l:List NOper} {hs:List (Nat×NH)} {rs:List (Nat×(NH->NR)×NV)} {t:Tm} {dfs:List Dfr} {ctx:Option NV} {m m':NH} {o:Out} {d1:Dyn} {v:NV} {q:D4} {args:List NV} {c:Option NV}
theorem jI.yld (hg:av t x.guard=some true) (hop:ae x.op t m= .yld q args) (hc:rl P S q args m (.val v c m')) (h:jI P S r l ⟨aD x.dst v t,dfs,ctx,m'⟩ o d1):jI P S r (x::l) ⟨t,dfs,ctx,m⟩ o d1:=by
 obtain ⟨n,hn⟩:=h
 obtain ⟨hne,k,hk⟩:=hc
 refine ⟨max n k, ?_⟩
 rw[b8,hg,hop]
 show uo x.dst (cp P S (ev P S (max n k)) r l) t dfs ctx (sr dfs ctx (round (ev P S (max n k)) q args m))=_
 rw[dU (bx (Nat.le_max_right n k)) hk hne]
 exact fE (bx (Nat.le_max_left n k)) _ _ _ _ hn
theorem br.yld (hg:av t x.guard=some true) (hc:am x.op= .eff) (ha:ahead x.pre hs=true) (hop:ae x.op t m= .yld q args) (hcall:rl P S q args m (.val v c m')) (hst:aR x.pre m' rs=true)
 (h:br P S r l ((x.idx,m)::hs) rs ⟨aD x.dst v t,dfs,ctx,m'⟩ .norm d1):br P S r (x::l) hs rs ⟨t,dfs,ctx,m⟩ .norm d1:=by
 obtain ⟨n,hn⟩:=h
 obtain ⟨hne,k,hk⟩:=hcall
 refine ⟨max n k, ?_⟩
 rw[bB,hg];dsimp only;rw[hc];dsimp only;rw[ha,hop]
 show cC (bK x.idx l) (uo x.dst (fun d=>cond (aR x.pre d.h rs) (bu P S (ev P S (max n k)) r l ((x.idx,m)::hs) rs d) .fail) t dfs ctx (sr dfs ctx (round (ev P S (max n k)) q args m)))=_
 rw[dU (bx (Nat.le_max_right n k)) hk hne]
 show cC (bK x.idx l) (cond (aR x.pre m' rs) (bu P S (ev P S (max n k)) r l ((x.idx,m)::hs) rs ⟨aD x.dst v t,dfs,ctx,m'⟩) .fail)=_
 rw[hst]
 show cC (bK x.idx l) (bu P S (ev P S (max n k)) r l ((x.idx,m)::hs) rs ⟨aD x.dst v t,dfs,ctx,m'⟩)=_
 rw[jh (bx (Nat.le_max_left n k)) _ _ _ _ _ _ hn];rfl
end
section
variable {P:Program} {S:Nat->List NV->Option NV} {r:Option D4} {x:NOper} {l:List NOper} {hs:List (Nat×NH)} {rs:List (Nat×(NH->NR)×NV)} {L:List (D4×NV)} {t:Tm} {dfs:List Dfr} {ctx:Option NV} {m m':NH} {o:Out} {d1:Dyn} {v:NV} {k:D4}
theorem br.p (hd:x.dst=some k) (hg:av (aw L t) x.guard=some true) (hc:am x.op= .pure) (hop:ae x.op (aw L t) m= .val v) (h:br P S r l hs rs ⟨aw ((k,v)::L) t,dfs,ctx,m⟩ o d1):br P S r (x::l) hs rs ⟨aw L t,dfs,ctx,m⟩ o d1:=
 br.pure hg hc hop (by rw[hd];exact h)
theorem br.e (hd:x.dst=some k) (hg:av (aw L t) x.guard=some true) (hc:am x.op= .eff) (ha:ahead x.pre hs=true) (hop:ae x.op (aw L t) m= .mem v m') (hst:aR x.pre m' rs=true)
 (h:br P S r l ((x.idx,m)::hs) rs ⟨aw ((k,v)::L) t,dfs,ctx,m'⟩ .norm d1):br P S r (x::l) hs rs ⟨aw L t,dfs,ctx,m⟩ .norm d1:=
 br.eff hg hc ha hop hst (by rw[hd];exact h)
theorem br.c {f:Nat} {args:List NV} {c:Option NV} (hd:x.dst=some k) (hg:av (aw L t) x.guard=some true) (hc:am x.op= .eff) (ha:ahead x.pre hs=true) (hop:ae x.op (aw L t) m= .call f args) (hcall:Call P S f args m (.val v c m')) (hst:aR x.pre m' rs=true)
 (h:br P S r l ((x.idx,m)::hs) rs ⟨aw ((k,v)::L) t,dfs,ctx,m'⟩ .norm d1):br P S r (x::l) hs rs ⟨aw L t,dfs,ctx,m⟩ .norm d1:=
 br.call hg hc ha hop hcall hst (by rw[hd];exact h)
end
section
variable {t:Tm} {m:NH}
theorem iW {op:BinOp} (h:dJ op=false):cP .num op (.int k (.lit a)) (.int k (.lit b))=cm op k a b:=by
 show cond (dJ op) (cm op k a b) (cond (tp k k) (cm op k a b) none)=_
 rw[show tp k k=true by cases k<;>rfl,h];rfl
theorem Hb :cP .num .lss (.int k (.lit a)) (.int k (.lit b))=some (.bool (decide (a<b))):=
 (iW rfl).trans (by show bj (pz a b)=_;rw[eR,aO])
theorem GN :cP .num .leq (.int k (.lit a)) (.int k (.lit b))=some (.bool (decide (a<=b))):=
 (iW rfl).trans (by show bj (AS a b)=_;rw[lC,aO])
theorem G6 :cP .num .gtr (.int k (.lit a)) (.int k (.lit b))=some (.bool (decide (b<a))):=
 (iW rfl).trans (by show bj (pz b a)=_;rw[eR,aO])
theorem GY :cP .num .geq (.int k (.lit a)) (.int k (.lit b))=some (.bool (decide (b<=a))):=
 (iW rfl).trans (by show bj (AS b a)=_;rw[lC,aO])
theorem GU :cP .num .eql (.int k (.lit a)) (.int k (.lit b))=some (.bool (decide (a=b))):=
 (iW rfl).trans (by show bj (nN a b)=_;rw[dw,aO];rfl)
theorem HL :cP .num .neq (.int k (.lit a)) (.int k (.lit b))=some (.bool (decide (a≠b))):=
 (iW rfl).trans (by show bj (ig (nN a b))=_;rw[dw,aO,dK];by_cases h:a=b<;>simp[h])
theorem wrap_small {n:Int} (h:-9223372036854775808<=n) (h':n<9223372036854775808):bm .i64 n=n:=by
 cases n with
 |ofNat m=>
  show cond (Nat.ble (Nat.succ m) 9223372036854775808) (Int.ofNat m) _=_
  rw[Nat.ble_eq_true_of_le (by have:(m:Int)<9223372036854775808:=h';omega)];rfl
 |negSucc m=>
  show cond (Nat.ble (Nat.succ m) 9223372036854775808) (Int.negSucc m) _=_
  rw[Nat.ble_eq_true_of_le (by have:-9223372036854775808<=Int.negSucc m:=h;omega)];rfl
theorem Gz  (h:-9223372036854775808<=a+b) (h':a+b<9223372036854775808):cP .num .add (.int .i64 (.lit a)) (.int .i64 (.lit b))=some (.int .i64 (.lit (a+b))):=by
 refine (iW rfl).trans ?_
 show bH .i64 (bm .i64 (ra a b))=_
 have e:ra a b=a+b:=by cases a<;>cases b<;>rfl
 rw[e,wrap_small h h']
 exact ge _ _
end
end Nm
namespace Nm
open Go Go.RowKit
def fN (K:Dyn->Prop) (Q:Out->Dyn->Prop) (o:Out) (d:Dyn):Prop:=match o with| .norm=>K d|o=>Q o d
def dx (i:Nat) (Q:Out->Dyn->Prop) (o:Out) (d:Dyn):Prop:=match o with| .exit j=>Q (if j=i then .norm else .exit j) d|o=>Q o d
def wB (o:Option NV) (A B:Prop):Prop:=match o with|some (.bool q)=>(q=true->A)/\(q=false->B)|_=>False
section
variable (P:Program) (S:Nat->List NV->Option NV) (r:Option D4)
def W (c:NC) (d:Dyn) (Q:Out->Dyn->Prop):Prop:=∃o d',dz P S r c d o d'/\Q o d'
def wN (dst:Option D4) (t:Tm) (dfs:List Dfr) (ctx:Option NV) (m:NH) (x:NR) (K:Dyn->Prop):Prop:=match x with
 | .val v=>K ⟨aD dst v t,dfs,ctx,m⟩
 | .mem v m'=>K ⟨aD dst v t,dfs,ctx,m'⟩
 | .call f args=>∃v c m',Call P S f args m (.val v c m')/\K ⟨aD dst v t,dfs,ctx,m'⟩
 | .yld q args=>∃v c m',rl P S q args m (.val v c m')/\K ⟨aD dst v t,dfs,ctx,m'⟩
 |_=>False
def wO:List NOper->Dyn->(Dyn->Prop)->Prop
 | [],d,K=>K d
 |x::l,d,K=>match av d.t x.guard with
  |some true=>wN P S x.dst d.t d.dfs d.ctx d.h (ae x.op d.t d.h) fun d=>wO l d K
  |some false=>wO l ⟨aD x.dst aA d.t,d.dfs,d.ctx,d.h⟩ K
  |none=>False
def wD:List NOper->List (Nat×NH)->List (Nat×(NH->NR)×NV)->Dyn->(Dyn->Prop)->Prop
 | [],_,_,d,K=>K d
 |x::l,hs,rs,d,K=>match av d.t x.guard with
  |some true=>(match am x.op with
   | .pure=>(match ae x.op d.t d.h with| .val v=>wD l hs rs ⟨aD x.dst v d.t,d.dfs,d.ctx,d.h⟩ K|_=>False)
   | .alloc=>ahead x.pre hs=true/\(match ae x.op d.t d.h with| .mem v m'=>wD l hs rs ⟨aD x.dst v d.t,d.dfs,d.ctx,m'⟩ K|_=>False)
   | .read=>(match ae x.op d.t d.h with| .val v=>dG x.pre (ae x.op d.t) v hs=true/\wD l hs ((x.idx,ae x.op d.t,v)::rs) ⟨aD x.dst v d.t,d.dfs,d.ctx,d.h⟩ K|_=>False)
   | .eff=>ahead x.pre hs=true/\wN P S x.dst d.t d.dfs d.ctx d.h (ae x.op d.t d.h) fun d'=>aR x.pre d'.h rs=true/\wD l ((x.idx,d.h)::hs) rs d' K)
  |some false=>wD l hs rs ⟨aD x.dst aA d.t,d.dfs,d.ctx,d.h⟩ K
  |none=>False
def wp:NC->Dyn->(Out->Dyn->Prop)->Prop
 | .skip,d,Q=>Q .norm d
 | .ret,d,Q=>Q .ret d
 | .exit i,d,Q=>Q (.exit i) d
 | .seq a b,d,Q=>wp a d (fN (fun d=>wp b d Q) Q)
 | .cond g a b,d,Q=>wB (ρ d.t g) (wp a d Q) (wp b d Q)
 | .block i a,d,Q=>wp a d (dx i Q)
 | .reg l,d,Q=>wO P S l d (Q .norm)
 | .regD l,d,Q=>wD P S l [] [] d (Q .norm)
 | .loop a,d,Q=>W P S r (.loop a) d Q
 | .rangeFunc f ps a b,d,Q=>W P S r (.rangeFunc f ps a b) d Q
end
section
variable {P:Program} {S:Nat->List NV->Option NV} {r:Option D4}
theorem wR:∀(l:List NOper) (d:Dyn) (K:Dyn->Prop),wO P S l d K->∃d',jI P S r l d .norm d'/\K d':=by
 intro l
 induction l with
 |nil=>exact fun d K h=>⟨d,jI.nil d,h⟩
 |cons x l ih=>
  rintro ⟨t,dfs,ctx,m⟩ K h
  unfold wO at h
  dsimp only at h
  split at h
  ·rename_i hg
   cases hop:ae x.op t m with
   |val v=>rw[hop] at h;obtain ⟨d',h1,h2⟩:=ih _ _ h;exact ⟨d',jI.val hg hop h1,h2⟩
   |mem v m'=>rw[hop] at h;obtain ⟨d',h1,h2⟩:=ih _ _ h;exact ⟨d',jI.mem hg hop h1,h2⟩
   |call f args=>
    rw[hop] at h
    obtain ⟨v,c,m',hc,h⟩:=h
    obtain ⟨d',h1,h2⟩:=ih _ _ h
    exact ⟨d',jI.call hg hop hc h1,h2⟩
   |yld q args=>
    rw[hop] at h
    obtain ⟨v,c,m',hc,h⟩:=h
    obtain ⟨d',h1,h2⟩:=ih _ _ h
    exact ⟨d',jI.yld hg hop hc h1,h2⟩
   |_=>rw[hop] at h;exact h.elim
  ·rename_i hg
   obtain ⟨d',h1,h2⟩:=ih _ _ h;exact ⟨d',jI.off hg h1,h2⟩
  ·exact h.elim
theorem vg:∀(l:List NOper) (hs:List (Nat×NH)) (rs:List (Nat×(NH->NR)×NV)) (d:Dyn) (K:Dyn->Prop),wD P S l hs rs d K->∃d',br P S r l hs rs d .norm d'/\K d':=by
 intro l
 induction l with
 |nil=>exact fun hs rs d K h=>⟨d,br.nil d,h⟩
 |cons x l ih=>
  rintro hs rs ⟨t,dfs,ctx,m⟩ K h
  unfold wD at h
  dsimp only at h
  split at h
  ·rename_i hg
   split at h
   ·rename_i hcl
    cases hop:ae x.op t m with
    |val v=>rw[hop] at h;obtain ⟨d',h1,h2⟩:=ih _ _ _ _ h;exact ⟨d',br.pure hg hcl hop h1,h2⟩
    |_=>rw[hop] at h;exact h.elim
   ·rename_i hcl
    obtain ⟨ha,h⟩:=h
    cases hop:ae x.op t m with
    |mem v m'=>rw[hop] at h;obtain ⟨d',h1,h2⟩:=ih _ _ _ _ h;exact ⟨d',br.alloc hg hcl ha hop h1,h2⟩
    |_=>rw[hop] at h;exact h.elim
   ·rename_i hcl
    cases hop:ae x.op t m with
    |val v=>rw[hop] at h;obtain ⟨ha,h⟩:=h;obtain ⟨d',h1,h2⟩:=ih _ _ _ _ h;exact ⟨d',br.read hg hcl hop ha h1,h2⟩
    |_=>rw[hop] at h;exact h.elim
   ·rename_i hcl
    obtain ⟨ha,h⟩:=h
    cases hop:ae x.op t m with
    |val v=>rw[hop] at h;obtain ⟨hst,h⟩:=h;obtain ⟨d',h1,h2⟩:=ih _ _ _ _ h;exact ⟨d',br.effv hg hcl ha hop hst h1,h2⟩
    |mem v m'=>rw[hop] at h;obtain ⟨hst,h⟩:=h;obtain ⟨d',h1,h2⟩:=ih _ _ _ _ h;exact ⟨d',br.eff hg hcl ha hop hst h1,h2⟩
    |call f args=>
     rw[hop] at h
     obtain ⟨v,c,m',hc,hst,h⟩:=h
     obtain ⟨d',h1,h2⟩:=ih _ _ _ _ h
     exact ⟨d',br.call hg hcl ha hop hc hst h1,h2⟩
    |yld q args=>
     rw[hop] at h
     obtain ⟨v,c,m',hc,hst,h⟩:=h
     obtain ⟨d',h1,h2⟩:=ih _ _ _ _ h
     exact ⟨d',br.yld hg hcl ha hop hc hst h1,h2⟩
    |_=>rw[hop] at h;exact h.elim
  ·rename_i hg
   obtain ⟨d',h1,h2⟩:=ih _ _ _ _ h;exact ⟨d',br.off hg h1,h2⟩
  ·exact h.elim
theorem aT:∀(c:NC) (d:Dyn) (Q:Out->Dyn->Prop),wp P S r c d Q->W P S r c d Q:=by
 intro c
 induction c with
 |skip=>exact fun d Q h=>⟨_,_,dz.skip d,h⟩
 |ret=>exact fun d Q h=>⟨_,_,dz.ret d,h⟩
 |exit i=>exact fun d Q h=>⟨_,_,dz.exit i d,h⟩
 |seq a b iha ihb=>
  intro d Q h
  obtain ⟨o,d1,h1,h2⟩:=iha _ _ h
  cases o with
  |norm=>obtain ⟨o,d2,h3,h4⟩:=ihb _ _ h2;exact ⟨o,d2,dz.seq h1 h3,h4⟩
  |_=>exact ⟨_,_,dz.seq_out h1 (by simp),h2⟩
 |cond g a b iha ihb=>
  intro d Q h
  unfold wp wB at h
  split at h
  ·rename_i q hq
   cases q with
   |true=>obtain ⟨o,d1,h1,h2⟩:=iha _ _ (h.1 rfl);exact ⟨o,d1,dz.cond hq (by simpa using h1),h2⟩
   |false=>obtain ⟨o,d1,h1,h2⟩:=ihb _ _ (h.2 rfl);exact ⟨o,d1,dz.cond hq (by simpa using h1),h2⟩
  ·exact h.elim
 |block i a iha=>
  intro d Q h
  obtain ⟨o,d1,h1,h2⟩:=iha _ _ h
  refine ⟨_,d1,dz.block h1, ?_⟩
  cases o with
  |exit j=>
   dsimp only
   change Q (if j=i then .norm else .exit j) d1 at h2
   by_cases e:j=i
   ·subst e;rw[I7 rfl] at h2;rw[Nat.beq_refl];exact h2
   ·rw[I6 e] at h2
    rw[show Nat.beq j i=false from by cases hb:Nat.beq j i with|false=>rfl|true=>exact I5 (Jc hb) e];exact h2
  |_=>exact h2
 |reg l=>
  intro d Q h
  obtain ⟨d',h1,h2⟩:=wR (r:=r) _ _ _ h
  exact ⟨_,_,dz.reg h1,h2⟩
 |regD l=>
  intro d Q h
  obtain ⟨d',h1,h2⟩:=vg (r:=r) _ _ _ _ _ h
  exact ⟨_,_,dz.regD h1,h2⟩
 |loop a _=>exact fun d Q h=>h
 |rangeFunc f ps a b _ _=>exact fun d Q h=>h
theorem W.loop {c:NC} {Q:Out->Dyn->Prop} (I:Nat->Dyn->Prop) (h:∀k d,I k d->W P S r c d (fun o d'=>match o with| .norm=>∃j,j<k/\I j d'|o=>Q o d')):∀k d,I k d->W P S r (.loop c) d Q:=by
 intro k
 induction k using Nat.strongRecOn with
 |ind k ih=>
  intro d hd
  obtain ⟨o,d',h1,h2⟩:=h k d hd
  cases o with
  |norm=>
   obtain ⟨j,hj,hI⟩:=h2
   obtain ⟨o,d2,h3,h4⟩:=ih j hj d' hI
   exact ⟨o,d2,dz.loop h1 h3,h4⟩
  |_=>exact ⟨_,_,dz.loop_out h1 (by simp),h2⟩
theorem W.mono {c:NC} {d:Dyn} {Q Q':Out->Dyn->Prop} (h:W P S r c d Q) (hq:∀o d,Q o d->Q' o d):W P S r c d Q':=by
 obtain ⟨o,d',h1,h2⟩:=h
 exact ⟨o,d',h1,hq _ _ h2⟩
end
end Nm
namespace Nm
open Go Go.RowKit
variable {x:NOpd} {i:Nat} {o:Option NV}
section
variable {P:Program} {S:Nat->List NV->Option NV} {r:Option D4} {dst:Option D4} {op:NOp} {pre idx:Nat} {l:List NOper} {hs:List (Nat×NH)} {rs:List (Nat×(NH->NR)×NV)}
 {L:List (D4×NV)} {t:Tm} {dfs:List Dfr} {ctx:Option NV} {m m':NH} {v:NV} {k k':D4} {d:Dyn} {Q:Out->Dyn->Prop} {K:Dyn->Prop} {A B:Prop}
theorem DW:wp P S r .skip d Q=Q .norm d:=_root_.id rfl
theorem Hp:wp P S r .ret d Q=Q .ret d:=_root_.id rfl
theorem DM :wp P S r (.exit i) d Q=Q (.exit i) d:=_root_.id rfl
theorem zy  {a:NC}:wp P S r (.block i a) d Q=wp P S r a d (dx i Q):=_root_.id rfl
theorem FP:wp P S r (.reg l) d Q=wO P S l d (Q .norm):=_root_.id rfl
theorem E9:wp P S r (.regD l) d Q=wD P S l [] [] d (Q .norm):=_root_.id rfl
theorem Eg {a:NC}:wp P S r (.loop a) d Q=W P S r (.loop a) d Q:=_root_.id rfl
theorem En:fN K Q .norm d=K d:=_root_.id rfl
theorem CA:fN K Q .ret d=Q .ret d:=_root_.id rfl
theorem xT :fN K Q (.exit i) d=Q (.exit i) d:=_root_.id rfl
theorem zP :dx i Q .norm d=Q .norm d:=_root_.id rfl
theorem DK :dx i Q .ret d=Q .ret d:=_root_.id rfl
theorem zS  {j:Nat}:dx i Q (.exit j) d=Q (if j=i then .norm else .exit j) d:=_root_.id rfl
theorem Gv:wO P S [] d K=K d:=_root_.id rfl
def wX (c:Cls) (x:NR) (P:Program) (S:Nat->List NV->Option NV) (f:NH->NR) (dst:Option D4) (pre idx:Nat) (l:List NOper) (hs:List (Nat×NH)) (rs:List (Nat×(NH->NR)×NV)) (d:Dyn) (K:Dyn->Prop):Prop:=
 match c with
 | .pure=>(match x with| .val v=>wD P S l hs rs ⟨aD dst v d.t,d.dfs,d.ctx,d.h⟩ K|_=>False)
 | .alloc=>ahead pre hs=true/\(match x with| .mem v m'=>wD P S l hs rs ⟨aD dst v d.t,d.dfs,d.ctx,m'⟩ K|_=>False)
 | .read=>(match x with| .val v=>dG pre f v hs=true/\wD P S l hs ((idx,f,v)::rs) ⟨aD dst v d.t,d.dfs,d.ctx,d.h⟩ K|_=>False)
 | .eff=>ahead pre hs=true/\wN P S dst d.t d.dfs d.ctx d.h x fun d'=>aR pre d'.h rs=true/\wD P S l ((idx,d.h)::hs) rs d' K
theorem EN:wD P S [] hs rs d K=K d:=_root_.id rfl
theorem xZ:wD P S (⟨dst,op,none,pre,idx⟩::l) hs rs ⟨aw L t,dfs,ctx,m⟩ K=wX (am op) (ae op (aw L t) m) P S (ae op (aw L t)) dst pre idx l hs rs ⟨aw L t,dfs,ctx,m⟩ K:=by
 cases h:am op<;>simp only[wD,av,h,wX]<;>cases ae op (aw L t) m<;>rfl
section
variable {f:NH->NR}
theorem zf:wX .pure (.val v) P S f (some k) pre idx l hs rs ⟨aw L t,dfs,ctx,m⟩ K=wD P S l hs rs ⟨aw ((k,v)::L) t,dfs,ctx,m⟩ K:=_root_.id rfl
theorem wF:wX .alloc (.mem v m') P S f (some k) pre idx l hs rs ⟨aw L t,dfs,ctx,m⟩ K=(ahead pre hs=true/\wD P S l hs rs ⟨aw ((k,v)::L) t,dfs,ctx,m'⟩ K):=_root_.id rfl
theorem zG:wX .read (.val v) P S f (some k) pre idx l hs rs ⟨aw L t,dfs,ctx,m⟩ K=(dG pre f v hs=true/\wD P S l hs ((idx,f,v)::rs) ⟨aw ((k,v)::L) t,dfs,ctx,m⟩ K):=_root_.id rfl
theorem uK:dG pre f v []=true:=_root_.id rfl
theorem wx:ahead pre []=true:=_root_.id rfl
theorem vD:aR pre m []=true:=_root_.id rfl
end
theorem GX:NT.get k (aw L t)=du k L (NT.get k t):=dP k L t
theorem GL:ρ (aw L t) (.tmp k)=du k L (NT.get k t):=dP k L t
theorem yI:ρ t (.const v)=some v:=_root_.id rfl
theorem zL :du k [] o=o:=_root_.id rfl
theorem DE :du k ((k',v)::L) o=cond (aS k k') (some v) (du k L o):=_root_.id rfl
theorem IP:aS .e .e=true:=_root_.id rfl
theorem Ij:aS .e (.a k)=false:=_root_.id rfl
theorem Ig:aS .e (.b k)=false:=_root_.id rfl
theorem Ii:aS .e (.c k)=false:=_root_.id rfl
theorem IK:aS .e (.f k)=false:=_root_.id rfl
theorem IE:aS (.a k) .e=false:=_root_.id rfl
theorem IF:aS (.a k) (.a k')=aS k k':=_root_.id rfl
theorem Ib:aS (.a k) (.b k')=false:=_root_.id rfl
theorem IN:aS (.a k) (.c k')=false:=_root_.id rfl
theorem ID:aS (.a k) (.f k')=false:=_root_.id rfl
theorem Id:aS (.b k) .e=false:=_root_.id rfl
theorem H3:aS (.b k) (.a k')=false:=_root_.id rfl
theorem HZ:aS (.b k) (.b k')=aS k k':=_root_.id rfl
theorem IA:aS (.b k) (.c k')=false:=_root_.id rfl
theorem H1:aS (.b k) (.f k')=false:=_root_.id rfl
theorem IC:aS (.c k) .e=false:=_root_.id rfl
theorem IU:aS (.c k) (.a k')=false:=_root_.id rfl
theorem Iw:aS (.c k) (.b k')=false:=_root_.id rfl
theorem Iv:aS (.c k) (.c k')=aS k k':=_root_.id rfl
theorem Ic:aS (.c k) (.f k')=false:=_root_.id rfl
theorem IS:aS (.f k) .e=false:=_root_.id rfl
theorem HX:aS (.f k) (.a k')=false:=_root_.id rfl
theorem Io:aS (.f k) (.b k')=false:=_root_.id rfl
theorem IW:aS (.f k) (.c k')=false:=_root_.id rfl
theorem Ih:aS (.f k) (.f k')=aS k k':=_root_.id rfl
end
def oN (o:Option NV) (K:NV->NR):NR:=match o with|some v=>K v|none=> .fail
theorem IR {v:NV} {K:NV->NR}:oN (some v) K=K v:=_root_.id rfl
theorem bt {t:Tm} {K:NV->NR}:wV t x K=oN (ρ t x) K:=by
 unfold wV oN;cases ρ t x<;>rfl
theorem IQ {v:NV}:vr (some v)= .val v:=_root_.id rfl
def w8 (v:NV):NR:=match v with| .slc _ _ n _ _=> .val (.int .i64 (.lit (.ofNat n)))| .nils=> .val (.int .i64 (.lit (.ofNat 0)))|_=> .fail
def iA (n:Nat) (s i:NV):NR:=match s,i with| .slc id off len _ _,.int _ (.lit (.ofNat i))=>if i<len then .val (.ptr id (off+i*n)) else .fail|_,_=> .fail
noncomputable def yh (m:NH) (p:NV):NR:=match p with| .ptr id off=>(match m.get id with|some (.cells _ c)=>oN c[off]? .val|_=> .fail)|_=> .fail
noncomputable def zb (n:Nat) (m:NH) (p:NV):NR:=match p with| .ptr id off=>(match m.get id with|some (.cells _ c)=>if off+n<=c.length then .val (.agg ((c.drop off).take n)) else .fail|_=> .fail)|_=> .fail
def F5 (k:Nat) (p:NV):NR:=match p with| .ptr id off=> .val (.ptr id (off+k))|_=> .fail
section
variable {t:Tm} {m:NH}
theorem EB :ae (.move x) t m=oN (ρ t x) .val:=bt
theorem FJ {c:BC} {op:BinOp} {y:NOpd}:ae (.bin c op x y) t m=oN (ρ t x) fun a=>oN (ρ t y) fun b=>vr (cP c op a b):=by
 show wV t x (fun a=>wV t y fun b=>vr (cP c op a b))=_
 simp only[bt]
theorem Ik {u:UnOp}:ae (.un u x) t m=oN (ρ t x) fun v=>vr (HS u v):=bt
theorem GF :ae (.lenSlc x) t m=oN (ρ t x) w8:=by
 show wV t x _=_
 rw[bt];cases ρ t x with
 |none=>rfl
 |some v=>cases v<;>rfl
theorem GA {n:Nat} {i:NOpd}:ae (.indexSlc n x i) t m=oN (ρ t x) fun s=>oN (ρ t i) fun i=>iA n s i:=by
 show wV t x (fun v=>cL t i fun i=>match v with
  | .slc id off len _ _=>cond (Nat.ble (Nat.succ i) len) (ak (Nat.add off (Nat.mul i n)) fun o=> .val (.ptr id o)) .fail
  |_=> .fail)=_
 unfold cL
 simp only[bt]
 cases ρ t x with
 |none=>rfl
 |some s=>
  show oN (ρ t i) _=oN (ρ t i) _
  cases ρ t i with
  |none=>rfl
  |some j=>
   show aC (bN j) _=iA n s j
   cases j with
   |int k z=>
    cases z with
    |lit z=>
     cases z with
     |ofNat q=>
      cases s with
      |slc id off len e kc=>
       show cond (Nat.ble (Nat.succ q) len) (ak (Nat.add off (Nat.mul q n)) fun o=>NR.val (.ptr id o)) .fail=if q<len then _ else _
       rw[ab]
       by_cases hq:q<len
       ·rw[I7 hq,Nat.ble_eq_true_of_le hq];rfl
       ·rw[I6 hq,show Nat.ble (Nat.succ q) len=false from by cases hb:Nat.ble (Nat.succ q) len with|false=>rfl|true=>exact I5 (Nat.le_of_ble_eq_true hb) hq];rfl
      |_=>rfl
     |negSucc q=>cases s<;>rfl
   |_=>cases s<;>rfl
theorem FT :ae (.load1 x) t m=oN (ρ t x) (yh m):=by
 show wV t x (fun a=>match a with| .ptr id off=>bh m id fun c=>aC (iB c off) .val|_=> .fail)=_
 rw[bt]
 cases ρ t x with
 |none=>rfl
 |some v=>
  cases v with
  |ptr id off=>
   show bh m id (fun c=>aC (iB c off) .val)=yh m (.ptr id off)
   unfold bh yh
   dsimp only
   split<;>rename_i hm
   ·rw[hm];dsimp only;rw[eq];cases (_:List NV)[off]? <;>rfl
   ·split<;>rename_i h2
    ·exact I5 h2 (hm _ _)
    ·rfl
  |_=>rfl
theorem Gc {k:Nat}:ae (.fieldAddr k x) t m=oN (ρ t x) (F5 k):=by
 show wV t x (fun v=>match v with| .ptr id o=>ak (Nat.add o k) fun o=> .val (.ptr id o)|_=> .fail)=_
 rw[bt]
 cases ρ t x with
 |none=>rfl
 |some v=>cases v<;>first|rfl|exact ab (R:=NR) _ (fun o=> .val (.ptr _ o))
theorem GG {k off:Nat} {id:D4}:F5 k (.ptr id off)= .val (.ptr id (off+k)):=_root_.id rfl
end
theorem Fx {b:Bool}:HS .not (.bool b)=some (.bool (!b)):=by cases b<;>rfl
end Nm
namespace Nm
open Go Go.RowKit
def rK (o:Option NV) (K:NV->Prop):Prop:=match o with|some v=>K v|none=>False
def tv (rs:List NRes) (K:NV->NH->Prop) (o:Out) (d:Dyn):Prop:=(o= .norm∨o= .ret)/\d.dfs= []/\∃v,bJ d.h d.t rs .fail (fun l=> .val (fh l) d.ctx d.h)= .val v d.ctx d.h/\K v d.h
section
variable {P:Program} {S:Nat->List NV->Option NV} {L:List (D4×NV)} {t:Tm} {ctx:Option NV} {m:NH} {K:NV->NH->Prop} {k k1 k2 k3:D4}
theorem FY {o:Out} (ho:o= .norm∨o= .ret):tv [.tmp k] K o ⟨aw L t, [],ctx,m⟩=rK (du k L (NT.get k t)) fun v=>K v m:=by
 apply propext
 have e:∀x,NT.get k (aw L t)=x->bJ m (aw L t) [.tmp k] .fail (fun l=> .val (fh l) ctx m)=(match x with|some v=>CR.val v ctx m|none=> .fail):=by
  rintro x rfl
  show (match (match NT.get k (aw L t) with|some v=>NR.val v|none=>NR.fail) with| .val v=>CR.val (fh [v]) ctx m|_=>CR.fail)=_
  cases NT.get k (aw L t)<;>rfl
 constructor
 ·rintro ⟨_,_,v,h1,h2⟩
  change bJ m (aw L t) [.tmp k] .fail (fun l=> .val (fh l) ctx m)=_ at h1
  rw[e _ (dP _ _ _)] at h1
  cases hx:du k L (NT.get k t) with
  |none=>rw[hx] at h1;cases h1
  |some u=>rw[hx] at h1;cases h1;exact h2
 ·intro h
  cases hx:du k L (NT.get k t) with
  |none=>rw[hx] at h;exact h.elim
  |some u=>rw[hx] at h;exact ⟨ho,rfl,u,(e _ ((dP _ _ _).trans hx)),h⟩
theorem EX:tv [.tmp k] K .ret ⟨aw L t, [],ctx,m⟩=rK (du k L (NT.get k t)) fun v=>K v m:=FY (.inr rfl)
theorem H5 {v:NV} {K:NV->Prop}:rK (some v) K=K v:=_root_.id rfl
def WF (P:Program) (S:Nat->List NV->Option NV) (f:Nat) (args:List NV) (m:NH) (K:NV->NH->Prop):Prop:=∃v c m',Call P S f args m (.val v c m')/\K v m'
theorem WF.of_wp (hs:∀f l,S f l=none) {f:Nat} {nf:NFun} (hf:aj P f=some (.code nf)) {args:List NV} {K:NV->NH->Prop} (hL:cZ args 0 .leaf=aw L .leaf)
 (h:wp P S none nf.body ⟨aw L .leaf, [],none,m⟩ (tv nf.results K)):WF P S f args m K:=by
 obtain ⟨o,d,h1,ho,hd,v,hv,hK⟩:=aT _ _ _ h
 rw[←hL] at h1
 exact ⟨v,d.ctx,d.h,Call.of_run (hs f) hf ho h1 hd hv (by simp),hK⟩
end
end Nm
namespace Nm
open Go Go.RowKit
variable {m:NH} {d:Option NO} {i j:Nat} {S:List D4} {K:NV->NH->Prop}
def na (m:NH) (j:Nat):D4:=D4.of (m.next.toNat+j)
def aN (m:NH) (id:D4):Prop:=id.toNat<m.next.toNat
instance (m:NH) (id:D4):Decidable (aN m id):=inferInstanceAs (Decidable (_<_))
inductive AK where
 |n (j:Nat)
 |o (id:D4)
variable {l:List (AK×NO)}
noncomputable def od (m:NH):List (AK×NO)->NT NO
 | []=>m.m
 |(.n j,x)::l=>NT.put (na m j) x (od m l)
 |(.o id,x)::l=>if aN m id then NT.put id x (od m l) else od m l
noncomputable def hp (l:List (AK×NO)) (k:Nat) (m:NH):NH:=⟨od m l,na m k⟩
def gu (j:Nat):List (AK×NO)->Option NO->Option NO
 | [],d=>d
 |(.n i,x)::l,d=>if j=i then some x else gu j l d
 |(.o _,_)::l,d=>gu j l d
noncomputable def fL (id:D4):List (AK×NO)->Option NO->Option NO
 | [],d=>d
 |(.n _,_)::l,d=>fL id l d
 |(.o i,x)::l,d=>@ite _ (id=i) (Classical.propDecidable _) (some x) (fL id l d)
theorem dR  (h:na m i=na m j):i=j:=by
 have:=D4.of_inj h;omega
theorem DG (m:NH) (k:Nat):(na m k).nxt=na m (k+1):=by
 apply D4.toNat_inj
 rw[D4.toNat_nxt];unfold na;rw[D4.toNat_of,D4.toNat_of];omega
theorem sm (m:NH):na m 0=m.next:=D4.of_toNat _
theorem an (m:NH):hp [] 0 m=m:=by
 show NH.mk m.m (na m 0)=m
 rw[sm]
theorem aN.ne  {id:D4} (h:aN m id) (j:Nat):id≠na m j:=by
 intro e
 unfold aN at h
 rw[e] at h;unfold na at h;rw[D4.toNat_of] at h;omega
section
variable {m:NH} {l:List (AK×NO)} {k j:Nat} {o:NO} {id:D4}
theorem DX:(hp l k m).next=na m k:=_root_.id rfl
theorem wP:(hp l k m).add o=hp ((.n k,o)::l) (k+1) m:=by
 show NH.mk (NT.put (na m k) o (od m l)) (na m k).nxt=NH.mk (NT.put (na m k) o (od m l)) (na m (k+1))
 rw[DG]
theorem E8:(hp l k m).put (na m j) o=hp ((.n j,o)::l) k m:=_root_.id rfl
theorem pN (h:aN m id):(hp l k m).put id o=hp ((.o id,o)::l) k m:=by
 show NH.mk (NT.put id o (od m l)) (na m k)=NH.mk (if aN m id then NT.put id o (od m l) else od m l) (na m k)
 rw[I7 h]
theorem kW:(hp l k m).get (na m j)=gu j l (m.get (na m j)):=by
 show NT.get (na m j) (od m l)=_
 induction l with
 |nil=>rfl
 |cons p l ih=>
  obtain ⟨a,x⟩:=p
  cases a with
  |n i=>
   show NT.get (na m j) (NT.put (na m i) x (od m l))=if j=i then some x else gu j l _
   split
   ·rename_i h;rw[h];exact NT.get_put_same _ _ _
   ·rename_i h;rw[NT.get_put_ne (fun e=>h (dR e))];exact ih
  |o i=>
   show NT.get (na m j) (if aN m i then NT.put i x (od m l) else od m l)=gu j l _
   split
   ·rename_i h;rw[NT.get_put_ne (fun e=>h.ne j e.symm)];exact ih
   ·exact ih
theorem bf (h:aN m id):(hp l k m).get id=fL id l (m.get id):=by
 show NT.get id (od m l)=_
 induction l with
 |nil=>rfl
 |cons p l ih=>
  obtain ⟨a,x⟩:=p
  cases a with
  |n i=>
   show NT.get id (NT.put (na m i) x (od m l))=fL id l _
   rw[NT.get_put_ne (h.ne _)];exact ih
  |o i=>
   show NT.get id (if aN m i then NT.put i x (od m l) else od m l)=@ite _ (id=i) (Classical.propDecidable _) (some x) (fL id l _)
   by_cases e:id=i
   ·rw[I7 e,←e,I7 h];exact NT.get_put_same _ _ _
   ·rw[I6 e]
    split
    ·rw[NT.get_put_ne e];exact ih
    ·exact ih
theorem uB :gu j ((.n i,o)::l) d=if j=i then some o else gu j l d:=_root_.id rfl
theorem wk {i:D4}:gu j ((.o i,o)::l) d=gu j l d:=_root_.id rfl
theorem uV :fL id [] d=d:=_root_.id rfl
theorem iv :fL id ((.n i,o)::l) d=fL id l d:=_root_.id rfl
theorem aL :fL id ((.o id,o)::l) d=some o:=I7 rfl
theorem dq {i:D4} (h:id≠i):fL id ((.o i,o)::l) d=fL id l d:=I6 h
end
structure Chg (S:List D4) (m m':NH):Prop where
 next:m.next.toNat<=m'.next.toNat
 get:∀{id},aN m id->id∉S->m'.get id=m.get id
theorem Chg.old  {m':NH} {id:D4} (h:Chg S m m') (ho:aN m id):aN m' id:=Nat.lt_of_lt_of_le ho h.next
theorem Chg.refl (m:NH):Chg [] m m:=⟨Nat.le_refl _,fun _ _=>rfl⟩
theorem Chg.weak  {T:List D4} {a b:NH} (h:Chg S a b) (hs:∀id,id∈S->aN a id->id∈T):Chg T a b:=
 ⟨h.1,fun {id} ho hi=>h.2 ho fun q=>hi (hs id q ho)⟩
theorem Chg.trans  {T:List D4} {a b c:NH} (h:Chg S a b) (h':Chg T b c) (hs:∀id,id∈T->aN a id->id∈S):Chg S a c:=
 ⟨Nat.le_trans h.1 h'.1,fun {id} ho hi=>(h'.2 (h.old ho) fun q=>hi (hs id q ho)).trans (h.2 ho hi)⟩
def tG:List (AK×NO)->List D4
 | []=> []
 |(.n _,_)::l=>tG l
 |(.o i,_)::l=>i::tG l
theorem vP (l:List (AK×NO)) (k:Nat) (m:NH):Chg (tG l) m (hp l k m):=by
 refine ⟨by show m.next.toNat<=(na m k).toNat;unfold na;rw[D4.toNat_of];omega,fun {id} ho hi=> ?_⟩
 rw[bf ho]
 induction l with
 |nil=>rfl
 |cons p l ih=>
  obtain ⟨a,x⟩:=p
  cases a with
  |n i=>rw[iv];exact ih hi
  |o i=>
   have hi:id∉i::tG l:=hi
   rw[Jb] at hi
   rw[dq (fun e=>hi (Or.inl e))]
   exact ih fun q=>hi (Or.inr q)
theorem ah  {k:Nat} (h:j<k):aN (hp l k m) (na m j):=by
 show (na m j).toNat<(na m k).toNat
 unfold na;rw[D4.toNat_of,D4.toNat_of];omega
theorem aa  {k:Nat} {id:D4} (h:aN m id):aN (hp l k m) id:=(vP l k m).old h
theorem aG :¬aN m (na m j):=by
 show ¬(na m j).toNat<m.next.toNat
 unfold na;rw[D4.toNat_of];omega
def lN (P:Program) (S:Nat->List NV->Option NV) (f:Nat) (args:List NV) (m:NH) (v:NV) (m':NH):Prop:=∃c,Call P S f args m (.val v c m')
section
variable {P:Program} {S:Nat->List NV->Option NV} {f:Nat} {args:List NV} {m:NH}
theorem WF.ret  (h:WF P S f args m K):∃v m',lN P S f args m v m'/\K v m':=by
 obtain ⟨v,c,m',hc,hk⟩:=h;exact ⟨v,m',⟨c,hc⟩,hk⟩
theorem Call.det {x y:CR} (h:Call P S f args m x) (h':Call P S f args m y):x=y:=by
 obtain ⟨hn,n,e⟩:=h
 obtain ⟨hn',k,e'⟩:=h'
 rw[←cH (bx (Nat.le_max_left n k)) e hn,cH (bx (Nat.le_max_right n k)) e' hn']
theorem lN.wf {v:NV} {m':NH} (h:lN P S f args m v m'):WF P S f args m K=K v (hp [] 0 m'):=by
 rw[an]
 apply propext
 constructor
 ·rintro ⟨u,c,n,hc,hk⟩
  obtain ⟨c',h'⟩:=h
  have:=Call.det hc h'
  injection this with a _ b
  rw[←a,←b];exact hk
 ·intro hk
  obtain ⟨c,h⟩:=h
  exact ⟨v,c,m',h,hk⟩
end
section
variable {t:Tm} {m:NH}
theorem BJ {x:NOpd} {ty:Nat}:ae (.box x ty) t m=oN (ρ t x) fun v=>match cellsOf v with|some cs=> .mem (.ptr m.next 0) (m.add (.cells true cs))|none=> .fail:=by
 show wV t x (fun v=>aC (cellsOf v) fun cs=>m.new (.cells true cs) fun id h=> .mem (.ptr id 0) h)=_
 rw[bt]
 cases ρ t x with
 |none=>rfl
 |some v=>
  show aC (cellsOf v) _=(match cellsOf v with|some cs=>_|none=>NR.fail)
  cases cellsOf v with
  |none=>rfl
  |some cs=>exact NH.new_eq m (.cells true cs) (fun id h=>NR.mem (.ptr id 0) h)
theorem yb {z:List NV} {ty:Nat}:ae (.alloc z ty) t m= .mem (.ptr m.next 0) (m.add (.cells true z)):=NH.new_eq m (.cells true z) (fun id h=>NR.mem (.ptr id 0) h)
end
end Nm
namespace Nm
open Go Go.RowKit
section
variable {P:Program} {S:Nat->List NV->Option NV}
theorem rl.of {l:D4} {args:List NV} {m:NH} {p p1:Jump} {tm tm1:NT NV} {ps ps1:List D4} {a b a1 b1:NC} {d1 d2:Dyn} {o:Out} {x:CR}
 (hm:m.get l=some (.loop 0 p tm ps a b)) (hlen:args.length=ps.length) (ha:dz P S (some l) a ⟨lG ps args tm, [],none,m⟩ .norm d1) (hd1:d1.dfs= [])
 (hm1:d1.h.get l=some (.loop 0 p1 tm1 ps1 a1 b1)) (hb:dz P S (some l) b ⟨d1.t, [],none,d1.h.put l (.loop 1 p1 tm1 ps1 a1 b1)⟩ o d2) (ho:∀v,o≠.pan v) (hr:cX l o d2.h=x) (hne:x≠.fail):rl P S l args m x:=by
 obtain ⟨n,hn⟩:=ha
 obtain ⟨k,hk⟩:=hb
 refine ⟨hne,max n k, ?_⟩
 have key:∀(ps:List D4) (args:List NV) (tm:Tm) (K:Tm->CR),args.length=ps.length->cT .fail ps args tm K=K (lG ps args tm):=by
  intro ps
  induction ps with
  |nil=>intro args tm K h;cases args with
   |nil=>rfl
   |cons=>simp at h
  |cons q ps ih=>
   intro args tm K h
   cases args with
   |nil=>simp at h
   |cons v vs=>
    have e:cT .fail (q::ps) (v::vs) tm K=NT.set q v tm fun t=>cT .fail ps vs t K:=rfl
    rw[e,NT.set_eq]
    exact ih _ _ _ (by simpa using h)
 unfold round
 rw[hm]
 show cT .fail ps args tm (fun t=>match ev P S (max n k) (some l) a ⟨t, [],none,m⟩ with
  | .mk .norm d=>(match d.dfs with| []=>bT (ev P S (max n k)) l b d.t d.h|_=> .fail)
  |_=> .fail)=x
 rw[key _ _ _ _ hlen,bx (Nat.le_max_left n k) _ _ _ _ _ hn]
 show (match d1.dfs with| []=>bT (ev P S (max n k)) l b d1.t d1.h|_=> .fail)=x
 rw[hd1]
 show bT (ev P S (max n k)) l b d1.t d1.h=x
 unfold bT
 rw[hm1]
 show (d1.h.set l (.loop 1 p1 tm1 ps1 a1 b1) fun h=>(match ev P S (max n k) (some l) b ⟨d1.t, [],none,h⟩ with
  | .mk o d=>(match o with
   | .pan v=>(match d.dfs with| []=>CR.pan v none d.h|_=> .fail)
   |o=>cX l o d.h)
  | .fail=> .fail))=x
 rw[NH.set_eq,bx (Nat.le_max_right n k) _ _ _ _ _ hk]
 cases o with
 |pan v=>exact I5 rfl (ho v)
 |_=>exact hr
theorem dz.range {f:Nat} {cap:List NV} {fx:NOpd} {ps:List D4} {a b:NC} {t:Tm} {dfs:List Dfr} {ctx:Option NV} {m m':NH} {v:NV} {c:Option NV} {o:Out} {d:Dyn}
 (hf:ρ t fx=some (.fn f cap)) (hc:Call P S f (.yld (m.add (.defd true)).next::cap) ((m.add (.defd true)).add (.loop 0 .none t ps a b)) (.val v c m'))
 (he:dp (m.add (.defd true)).next t (.mark m.next::dfs) ctx m'= .mk o d):dz P S none (.rangeFunc fx ps a b) ⟨t,dfs,ctx,m⟩ o d:=by
 obtain ⟨hne,k,hk⟩:=hc
 refine ⟨k+1, ?_⟩
 show (match ρ t fx with
  |some (.fn f cap)=>m.new (.defd true) fun q m=>bI P S (ev P S k) f cap ps a b t (.mark q::dfs) ctx m
  |_=>Res.fail)=_
 rw[hf]
 try dsimp only
 rw[NH.new_eq]
 unfold bI
 rw[NH.new_eq,hk]
 exact he
end
end Nm
namespace Nm
open Go Go.RowKit
variable {x:NOpd} {l:List NV} {K:List NV->NR}
section
variable {t:Tm} {m:NH}
theorem Hn {n:Nat}:ae (.loadN n x) t m=oN (ρ t x) (zb n m):=by
 show wV t x (fun a=>match a with| .ptr id off=>bh m id fun c=>aC (dD c off n) fun l=> .val (.agg l)|_=> .fail)=_
 rw[bt]
 cases ρ t x with
 |none=>rfl
 |some v=>
  cases v with
  |ptr id off=>
   show bh m id (fun c=>aC (dD c off n) fun l=> .val (.agg l))=zb n m (.ptr id off)
   unfold bh zb
   dsimp only
   split<;>rename_i hm
   ·rw[hm];dsimp only;rw[eG];split<;>rfl
   ·split<;>rename_i h2
    ·exact I5 h2 (hm _ _)
    ·rfl
  |_=>rfl
def GO (i:Nat) (a:NV):NR:=match a with| .tup l=>oN l[i]? .val|_=> .fail
theorem uk {i:Nat}:ae (.extract x i) t m=oN (ρ t x) (GO i):=by
 show wV t x (fun v=>match v with| .tup l=>aC (iB l i) .val|_=> .fail)=_
 rw[bt]
 cases ρ t x with
 |none=>rfl
 |some v=>
  cases v with
  |tup l=>show aC (iB l i) .val=oN l[i]? .val;rw[eq];cases l[i]? <;>rfl
  |_=>rfl
theorem HM {i:Nat}:GO i (.tup l)=oN l[i]? .val:=_root_.id rfl
def rC (f:NV) (l:List NV):NR:=match f with| .fn f cap=> .call f (l++cap)| .yld r=> .yld r l|_=> .fail
noncomputable def xO (t:Tm):List NOpd->(List NV->NR)->NR
 | [],K=>K []
 |x::l,K=>oN (ρ t x) fun v=>xO t l fun l=>K (v::l)
theorem mT {l:List NOpd}:qT t l .fail K=xO t l K:=by
 induction l generalizing K with
 |nil=>rfl
 |cons x l ih=>
  show Option.rec NR.fail (fun v=>qT t l .fail fun l=>K (v::l)) (ρ t x)=oN (ρ t x) fun v=>xO t l fun l=>K (v::l)
  cases ρ t x with
  |none=>rfl
  |some v=>exact ih
theorem Fa :xO t [] K=K []:=_root_.id rfl
theorem G8  {l:List NOpd}:xO t (x::l) K=oN (ρ t x) fun v=>xO t l fun l=>K (v::l):=_root_.id rfl
theorem Fi {f:NOpd} {args:List NOpd}:ae (.call f args) t m=oN (ρ t f) fun f=>xO t args (rC f):=by
 show wV t f (fun f=>qT t args .fail fun l=>match f with| .fn f cap=>eX l cap fun l=> .call f l| .yld r=> .yld r l|_=> .fail)=_
 rw[bt]
 cases ρ t f with
 |none=>rfl
 |some f=>
  show qT t args .fail _=xO t args (rC f)
  rw[mT]
  congr 1
  funext l
  cases f with
  |fn f cap=>exact di l cap (fun l=>NR.call f l)
  |_=>rfl
theorem BH {f:Nat} {cap:List NV}:rC (.fn f cap) l= .call f (l++cap):=_root_.id rfl
theorem F0 {q:D4}:rC (.yld q) l= .yld q l:=_root_.id rfl
theorem EE {f:Nat} {l:List NOpd}:ae (.mkFn f l) t m=xO t l fun l=> .val (.fn f l):=mT
end
end Nm
namespace Nm
open Go Go.RowKit
section
variable {t:Tm} {m:NH}
noncomputable def HU (n:Nat) (m:NH) (a v:NV):NR:=match a with
 | .ptr id off=>(match cellsOf v with
  |some cs=>if cs.length=n then (match m.get id with
   |some (.cells true c)=>if off+cs.length<=c.length then .mem aA (m.put id (.cells true (c.take off++cs++c.drop (off+cs.length)))) else .fail
   |_=> .fail) else .fail
  |none=> .fail)
 |_=> .fail
theorem zk {n:Nat} {a x:NOpd}:ae (.store n a x) t m=oN (ρ t a) fun a=>oN (ρ t x) fun v=>HU n m a v:=by
 show wV t a (fun a=>wV t x fun v=>match a with
  | .ptr id off=>aC (cellsOf v) fun cs=>cK cs fun k=>cond (Nat.beq k n) (storeAt m id off cs fun h=> .mem aA h) .fail
  |_=> .fail)=_
 simp only[bt]
 cases ρ t a with
 |none=>rfl
 |some a=>
  show oN (ρ t x) _=oN (ρ t x) _
  cases ρ t x with
  |none=>rfl
  |some v=>
   cases a with
   |ptr id off=>
    show aC (cellsOf v) (fun cs=>cK cs fun k=>cond (Nat.beq k n) (storeAt m id off cs fun h=> .mem aA h) .fail)=HU n m (.ptr id off) v
    unfold HU
    cases cellsOf v with
    |none=>rfl
    |some cs=>
     show cK cs (fun k=>cond (Nat.beq k n) (storeAt m id off cs fun h=> .mem aA h) .fail)=if cs.length=n then _ else _
     rw[bq]
     cases hb:Nat.beq cs.length n with
     |false=>rw[I6 (Nat.ne_of_beq_eq_false hb)];rfl
     |true=>
      rw[I7 (Jc hb)]
      show storeAt m id off cs (fun h=> .mem aA h)=_
      unfold storeAt cE
      cases hm:m.get id with
      |none=>rfl
      |some o=>
       cases o with
       |cells w c=>
        cases w with
        |false=>rfl
        |true=>
         show aC (bW cs off c) (fun c=>m.set id (.cells true c) fun h=> .mem aA h)=if off+cs.length<=c.length then _ else _
         rw[cY]
         split
         ·exact NH.set_eq m id _ (fun h=>NR.mem aA h)
         ·rfl
       |_=>rfl
   |_=>rfl
end
end Nm
namespace Nm
open Go Go.RowKit
section
variable {t:Tm} {m:NH}
noncomputable def IY (n len:Nat) (m:NH) (o:Option (List NV)):NR:=match o with|some l=> .mem (.slc m.next 0 len n len) (m.add (.cells true l))|none=> .fail
theorem BQ {z:List NV} {n len ty:Nat} {ps:List (Nat×Nat×NOpd)}:ae (.buildSlice z n len ty ps) t m=IY n len m (bL t ps 0 z):=by
 show aC (bL t ps 0 z) (fun l=>m.new (.cells true l) fun id h=> .mem (.slc id 0 len n len) h)=_
 cases bL t ps 0 z with
 |none=>rfl
 |some l=>exact NH.new_eq m (.cells true l) (fun id h=>NR.mem (.slc id 0 len n len) h)
theorem Il {n len:Nat} {l:List NV}:IY n len m (some l)= .mem (.slc m.next 0 len n len) (m.add (.cells true l)):=_root_.id rfl
def oO {α β:Type} (o:Option α) (K:α->Option β):Option β:=match o with|some x=>K x|none=>none
theorem Is {α β:Type} {x:α} {K:α->Option β}:oO (some x) K=K x:=_root_.id rfl
end
end Nm
namespace Nm
open Go Go.RowKit
variable {n:Nat}
def wQ (q:Bool) (A B:Dyn->Prop) (d:Dyn):Prop:=(q=true->A d)/\(q=false->B d)
def wC (o:Option NV) (A B:Dyn->Prop) (d:Dyn):Prop:=wB o (A d) (B d)
def wG (o:Option NV) (b:Bool) (A B:Dyn->Prop) (d:Dyn):Prop:=match o with
 |some (.bool q)=>wQ (q==b) A B d
 |some _=>B d
 |none=>False
def ub (F:Tm->List Dfr->Option NV->NH->Prop) (d:Dyn):Prop:=F d.t d.dfs d.ctx d.h
noncomputable def xz (x:NR) (v:NV):Bool:=match x with| .val u=>bi 4 u v|_=>false
section
variable {P:Program} {S:Nat->List NV->Option NV} {r:Option D4} {dst:Option D4} {op:NOp} {pre idx:Nat} {l:List NOper} {hs:List (Nat×NH)} {rs:List (Nat×(NH->NR)×NV)}
 {L:List (D4×NV)} {t:Tm} {dfs:List Dfr} {ctx:Option NV} {m m':NH} {v:NV} {k k' g:D4} {d:Dyn} {Q:Out->Dyn->Prop} {K:Dyn->Prop} {A B:Dyn->Prop} {b q:Bool}
theorem Ix:wC (some (.bool q)) A B d=wQ q A B d:=_root_.id rfl
theorem G0:wQ true A B d=A d:=by simp[wQ]
theorem FU:wQ false A B d=B d:=by simp[wQ]
theorem Ia:wG (some (.bool q)) b A B d=wQ (q==b) A B d:=_root_.id rfl
theorem Gf:wG (some aA) b A B d=B d:=_root_.id rfl
theorem yP:wO P S (⟨dst,op,some (g,b),pre,idx⟩::l) ⟨aw L t,dfs,ctx,m⟩ K=wG (du g L (NT.get g t)) b (ub fun t dfs ctx m=>wN P S dst t dfs ctx m (ae op t m) fun d=>wO P S l d K) (ub fun t dfs ctx m=>wO P S l ⟨aD dst aA t,dfs,ctx,m⟩ K) ⟨aw L t,dfs,ctx,m⟩:=by
 unfold wG
 rw[←dP]
 show (match av (aw L t) (some (g,b)) with|some true=>_|some false=>_|none=>False)=_
 have e:av (aw L t) (some (g,b))=(match NT.get g (aw L t) with|some (.bool q)=>some (q==b)|some _=>some false|none=>none):=by
  show Option.rec (motive:=fun _=>Option Bool) none (fun v=>NV.onBool (some false) (fun c=>some (dQ b c)) v) (NT.get g (aw L t))=_
  cases NT.get g (aw L t) with
  |none=>rfl
  |some v=>cases v with
   |bool q=>cases q<;>cases b<;>rfl
   |_=>rfl
 rw[e]
 cases NT.get g (aw L t) with
 |none=>rfl
 |some v=>cases v with
  |bool q=>
   dsimp only
   unfold wQ ub
   cases (q==b)<;>simp
  |_=>rfl
theorem uZ:wD P S (⟨dst,op,some (g,b),pre,idx⟩::l) hs rs ⟨aw L t,dfs,ctx,m⟩ K=wG (du g L (NT.get g t)) b (ub fun t dfs ctx m=>wX (am op) (ae op t m) P S (ae op t) dst pre idx l hs rs ⟨t,dfs,ctx,m⟩ K) (ub fun t dfs ctx m=>wD P S l hs rs ⟨aD dst aA t,dfs,ctx,m⟩ K) ⟨aw L t,dfs,ctx,m⟩:=by
 unfold wG
 rw[←dP]
 have e:av (aw L t) (some (g,b))=(match NT.get g (aw L t) with|some (.bool q)=>some (q==b)|some _=>some false|none=>none):=by
  show Option.rec (motive:=fun _=>Option Bool) none (fun v=>NV.onBool (some false) (fun c=>some (dQ b c)) v) (NT.get g (aw L t))=_
  cases NT.get g (aw L t) with
  |none=>rfl
  |some v=>cases v with
   |bool q=>cases q<;>cases b<;>rfl
   |_=>rfl
 have e2:wD P S (⟨dst,op,some (g,b),pre,idx⟩::l) hs rs ⟨aw L t,dfs,ctx,m⟩ K=(match av (aw L t) (some (g,b)) with
  |some true=>wX (am op) (ae op (aw L t) m) P S (ae op (aw L t)) dst pre idx l hs rs ⟨aw L t,dfs,ctx,m⟩ K
  |some false=>wD P S l hs rs ⟨aD dst aA (aw L t),dfs,ctx,m⟩ K
  |none=>False):=by
  unfold wX
  simp only[wD]
  all_goals (cases av (aw L t) (some (g,b)) with
   |none=>rfl
   |some q=>cases q with
    |false=>rfl
    |true=>cases am op<;>cases ae op (aw L t) m<;>rfl)
 rw[e2,e]
 cases NT.get g (aw L t) with
 |none=>rfl
 |some v=>cases v with
  |bool q=>
   dsimp only
   unfold wQ ub
   cases (q==b)<;>simp
  |_=>rfl
theorem zV {i:Nat} {f:NH->NR} {u:NV}:aR pre m ((i,f,u)::rs)=cond (Nat.testBit pre i) (aR pre m rs) (xz (f m) u&&aR pre m rs):=by
 show cond (Nat.testBit pre i) (aR pre m rs) (match f m with| .val v=>cond (bi 4 v u) (aR pre m rs) false|_=>false)=_
 congr 1
 cases f m with
 |val u'=>show cond (bi 4 u' u) _ false=(bi 4 u' u&&_);cases bi 4 u' u<;>rfl
 |_=>rfl
theorem zx {i:Nat}:ahead pre ((i,m)::hs)=cond (Nat.testBit pre i) (ahead pre hs) false:=_root_.id rfl
theorem uM {u:NV}:xz (.val u) v=bi 4 u v:=_root_.id rfl
end
theorem eP (d:D4):aS d d=true:=lA d
theorem wJ (l:List Nat):vq l l=true:=by
 induction l with
 |nil=>rfl
 |cons x l ih=>show cond (Nat.beq x x) (vq l l) false=true;rw[Nat.beq_refl];exact ih
def rz (v:NV):Prop:=match v with| .agg _| .tup _| .fn _ _| .ifc _ _=>False|_=>True
theorem fU  {v:NV} (h:rz v):bi (n+1) v v=true:=by
 show rx (bi n) v v=true
 have hi:∀z:Int,nN z z=true:=fun z=>by rw[dw];simp
 cases v with
 |bool b=>cases b<;>rfl
 |int k x=>cases x with
  |lit z=>show cond (tp k k) (nN z z) false=true;rw[hi];cases k<;>rfl
 |str s=>exact wJ s
 |ptr id o=>show cond (aS id id) (Nat.beq o o) false=true;rw[eP];simp
 |slc id o n e k=>show cond (aS id id) (cond (Nat.beq o o) (cond (Nat.beq n n) (cond (Nat.beq e e) (Nat.beq k k) false) false) false) false=true;rw[eP];simp
 |map id=>exact eP id
 |yld id=>exact eP id
 |agg l=>exact h.elim
 |tup l=>exact h.elim
 |fn f c=>exact h.elim
 |ifc t v=>exact h.elim
 |_=>rfl
theorem qu  {l:List NV} (h:∀v∈l,rz v):fQ (bi (n+1)) l l=true:=by
 induction l with
 |nil=>rfl
 |cons x l ih=>
  show cond (bi (n+1) x x) (fQ (bi (n+1)) l l) false=true
  rw[fU (h x (List.mem_cons_self ..))]
  exact ih fun v hv=>h v (List.mem_cons_of_mem _ hv)
theorem d6  {l:List NV} (h:∀v∈l,rz v):bi (n+2) (.agg l) (.agg l)=true:=qu h
theorem xS  {k:IntKind} {z:Int}:bi (n+1) (.int k (.lit z)) (.int k (.lit z))=true:=fU trivial
theorem xP  {o:Nat} {i:D4}:bi (n+1) (.ptr i o) (.ptr i o)=true:=fU trivial
end Nm
namespace Nm
open Go Go.RowKit
variable {n bytes:Nat} {id:D4} {l cs z:List NV} {a b:Int} {ps:List (Nat×Nat×NOpd)} {k:IntKind}
theorem GZ  (h:-9223372036854775808<=a - b) (h':a - b<9223372036854775808):cP .num .sub (.int .i64 (.lit a)) (.int .i64 (.lit b))=some (.int .i64 (.lit (a - b))):=by
 refine (iW rfl).trans ?_
 show bH .i64 (bm .i64 (ul a b))=_
 rw[jL,wrap_small h h']
 exact ge _ _
theorem vU  (h:-9223372036854775808<=a*b) (h':a*b<9223372036854775808):cP .num .mul (.int .i64 (.lit a)) (.int .i64 (.lit b))=some (.int .i64 (.lit (a*b))):=by
 refine (iW rfl).trans ?_
 show bH .i64 (bm .i64 (mZ a b))=_
 rw[e9,wrap_small h h']
 exact ge _ _
theorem EG {p:Prop} [Decidable p] (h:p):decide p=true:=by simp[h]
theorem yK {p:Prop} [Decidable p] (h:¬p):decide p=false:=by simp[h]
section
variable {m:NH}
theorem Hi  {off e kc:Nat}:w8 (.slc id off n e kc)= .val (.int .i64 (.lit (n:Int))):=_root_.id rfl
theorem vK  {off len e kc:Nat} {ik:IntKind} {z:Int} (h0:0<=z) (h1:z<len):iA n (.slc id off len e kc) (.int ik (.lit z))= .val (.ptr id (off+z.toNat*n)):=by
 obtain ⟨i,rfl⟩:=Jd h0
 show (if i<len then NR.val (.ptr id (off+i*n)) else .fail)= .val (.ptr id (off+i*n))
 rw[I7 (by omega)]
noncomputable def F3 (off:Nat) (o:Option NO):NR:=match o with|some (.cells _ c)=>oN c[off]? .val|_=> .fail
noncomputable def Hr (n off:Nat) (o:Option NO):NR:=match o with|some (.cells _ c)=>if off+n<=c.length then .val (.agg ((c.drop off).take n)) else .fail|_=> .fail
theorem FC  {off:Nat}:yh m (.ptr id off)=F3 off (m.get id):=_root_.id rfl
theorem Gg  {off:Nat}:zb n m (.ptr id off)=Hr n off (m.get id):=_root_.id rfl
theorem DF {off:Nat} {w:Bool} {c:List NV}:F3 off (some (.cells w c))=oN c[off]? .val:=_root_.id rfl
theorem EM  {off:Nat} {w:Bool} {c:List NV} (h:off+n<=c.length):Hr n off (some (.cells w c))= .val (.agg ((c.drop off).take n)):=I7 h
noncomputable def IL (n:Nat) (id:D4) (off:Nat) (m:NH) (cs:Option (List NV)) (o:Option NO):NR:=match cs with
 |some cs=>if cs.length=n then (match o with
  |some (.cells true c)=>if off+cs.length<=c.length then .mem aA (m.put id (.cells true (c.take off++cs++c.drop (off+cs.length)))) else .fail
  |_=> .fail) else .fail
 |none=> .fail
theorem H8  {off:Nat} {v:NV}:HU n m (.ptr id off) v=IL n id off m (cellsOf v) (m.get id):=_root_.id rfl
theorem gw {c:List NV} {off:Nat} {x:NV} (h:off<c.length):c.take off++ [x]++c.drop (off+1)=c.set off x:=by
 rw[List.set_eq_take_append_cons_drop,I7 h]
 simp
theorem FN {off:Nat} {x:NV} {c:List NV} (h:off<c.length):IL 1 id off m (some [x]) (some (.cells true c))= .mem aA (m.put id (.cells true (c.set off x))):=by
 show (if [x].length=1 then (if off+ [x].length<=c.length then NR.mem aA (m.put id (.cells true (c.take off++ [x]++c.drop (off+ [x].length)))) else .fail) else .fail)=_
 rw[I7 (show [x].length=1 from rfl),I7 (by show off+1<=_;omega)]
 show NR.mem aA (m.put id (.cells true (c.take off++ [x]++c.drop (off+1))))=_
 rw[gw h]
theorem FG  {off:Nat} {c:List NV} (h:cs.length=n+2) (h':off+(n+2)<=c.length):IL (n+2) id off m (some cs) (some (.cells true c))= .mem aA (m.put id (.cells true (c.take off++cs++c.drop (off+(n+2))))):=by
 rw[←h] at h' ⊢
 show (if cs.length=cs.length then (if off+cs.length<=c.length then NR.mem aA (m.put id (.cells true (c.take off++cs++c.drop (off+cs.length)))) else .fail) else .fail)=_
 rw[I7 rfl,I7 h']
end
section
variable {t:Tm} {m:NH}
def rA (c:NV) (a b:Option NV):NR:=match c with| .bool c=>(if c then oN a .val else oN b .val)|_=> .fail
theorem Eq {c a b:NOpd}:ae (.pick c a b) t m=oN (ρ t c) fun c=>rA c (ρ t a) (ρ t b):=by
 show wV t c (fun c=>match c with| .bool c=>Bool.rec (wV t b .val) (wV t a .val) c|_=> .fail)=_
 rw[bt]
 cases ρ t c with
 |none=>rfl
 |some v=>
  cases v with
  |bool q=>show Bool.rec (wV t b .val) (wV t a .val) q=if q then oN (ρ t a) .val else oN (ρ t b) .val;rw[bt,bt];cases q<;>rfl
  |_=>rfl
theorem yX {a b:Option NV}:rA (.bool true) a b=oN a .val:=_root_.id rfl
theorem yL {a b:Option NV}:rA (.bool false) a b=oN b .val:=_root_.id rfl
theorem zQ {q p r:Bool}:rA (.bool q) (some (.bool p)) (some (.bool r))= .val (.bool (if q then p else r)):=by cases q<;>rfl
theorem w7 {mx:Bool} {l:List NOpd}:ae (.minmax mx l) t m=xO t l fun l=>oN (uA mx l) .val:=by
 show qT t l .fail (fun l=>aC (uA mx l) .val)=_
 rw[mT]
 congr 1
 funext l
 cases uA mx l<;>rfl
theorem Gl :uA true [.int k (.lit a),.int k (.lit b)]=some (.int k (.lit (max a b))):=by
 show Option.rec (motive:=fun _=>Option NV) none some (cond (cond true (pz a b) (pz b a)) (some (NV.int k (.lit b))) (some (.int k (.lit a))))=_
 rw[eR]
 by_cases h:a<b
 ·simp[h,Int.max_def,show a<=b by omega]
 ·simp[h,Int.max_def];omega
theorem Fw :uA false [.int k (.lit a),.int k (.lit b)]=some (.int k (.lit (min a b))):=by
 show Option.rec (motive:=fun _=>Option NV) none some (cond (cond false (pz a b) (pz b a)) (some (NV.int k (.lit b))) (some (.int k (.lit a))))=_
 rw[eR a b,eR b a]
 by_cases h:b<a
 ·rw[I9 h,Int.min_eq_right (by omega)];rfl
 ·rw[I8 h,Int.min_eq_left (by omega)];rfl
noncomputable def uX (z:List NV) (n bytes:Nat) (m:NH) (l c:Nat):NR:=cond (Nat.ble l c) (cond (room c bytes) (.mem (.slc m.next 0 l n c) (m.add (.cells true (rep c z)))) .fail) .fail
theorem tX  {ty:Nat} {l c:NOpd}:ae (.mkSlice z n bytes ty l c) t m=oN (ρ t l) fun l=>aC (bN l) fun l=>oN (ρ t c) fun c=>aC (bN c) fun c=>uX z n bytes m l c:=by
 show cL t l (fun l=>cL t c fun c=>cond (Nat.ble l c) (cond (room c bytes) (nh c z fun cs=>m.new (.cells true cs) fun id h=> .mem (.slc id 0 l n c) h) .fail) .fail)=_
 unfold cL
 rw[bt]
 congr 1
 funext lv
 congr 1
 funext i
 rw[bt]
 congr 1
 funext cv
 congr 1
 funext j
 rw[dI,NH.new_eq]
 rfl
theorem BS  {K:Nat->NR} (h:0<=a):aC (bN (.int k (.lit a))) K=K a.toNat:=by
 obtain ⟨i,rfl⟩:=Jd h
 rfl
theorem El  {i:Nat} (h1:i*bytes<=1099511627776) (h2:i<=1099511627776):uX z n bytes m i i= .mem (.slc m.next 0 i n i) (m.add (.cells true (rep i z))):=by
 unfold uX
 rw[Nat.ble_eq_true_of_le (Nat.le_refl i)]
 have e:room i bytes=true:=by
  unfold room
  rw[show Nat.ble (Nat.mul i bytes) 1099511627776=true from Nat.ble_eq_true_of_le h1,show Nat.ble i 1099511627776=true from Nat.ble_eq_true_of_le h2]
  rfl
 rw[e];rfl
noncomputable def pA (n bytes:Nat) (m:NH) (s x:NV):NR:=eu n m x fun k new=>cW n bytes m s k new
theorem uE  {ty:Nat} {s x:NOpd}:ae (.append n bytes ty s x) t m=oN (ρ t s) fun s=>oN (ρ t x) fun x=>pA n bytes m s x:=by
 show wV t s (fun s=>wV t x fun x=>eu n m x fun k new=>cW n bytes m s k new)=_
 rw[bt];congr 1;funext s;rw[bt];rfl
noncomputable def I3 (o:Option (List NV)):NR:=match o with|some l=> .val (.agg l)|none=> .fail
theorem zJ :ae (.build z ps) t m=I3 (bP t ps z):=by
 show aC (bP t ps z) (fun l=> .val (.agg l))=_
 cases bP t ps z<;>rfl
theorem H2 :I3 (some l)= .val (.agg l):=_root_.id rfl
theorem Hf :bP t [] l=some l:=_root_.id rfl
noncomputable def Gn (t:Tm) (ps:List (Nat×Nat×NOpd)) (off k:Nat) (l:List NV) (o:Option (List NV)):Option (List NV):=match o with
 |some cs=>if cs.length=k then (match bW cs off l with|some l=>bP t ps l|none=>none) else none
 |none=>none
theorem Ip  {off k:Nat} {x:NOpd}:bP t ((off,k,x)::ps) l=oO (ρ t x) fun v=>Gn t ps off k l (cellsOf v):=by
 show Option.rec (motive:=fun _=>Option (List NV)) none (fun v:NV=>Option.rec (motive:=fun _=>Option (List NV)) none (fun cs=>cK cs fun j=>cond (Nat.beq j k) (Option.rec (motive:=fun _=>Option (List NV)) none (bP t ps) (bW cs off l)) none) (cellsOf v)) (ρ t x)=_
 cases ρ t x with
 |none=>rfl
 |some v=>
  show Option.rec (motive:=fun _=>Option (List NV)) none (fun cs=>cK cs fun j=>cond (Nat.beq j k) (Option.rec (motive:=fun _=>Option (List NV)) none (bP t ps) (bW cs off l)) none) (cellsOf v)=Gn t ps off k l (cellsOf v)
  cases cellsOf v with
  |none=>rfl
  |some cs=>
   show cK cs (fun j=>cond (Nat.beq j k) (Option.rec (motive:=fun _=>Option (List NV)) none (bP t ps) (bW cs off l)) none)=if cs.length=k then _ else _
   rw[bq]
   cases hb:Nat.beq cs.length k with
   |false=>rw[I6 (Nat.ne_of_beq_eq_false hb)];rfl
   |true=>rw[I7 (Jc hb)];cases bW cs off l<;>rfl
theorem Hq  {off:Nat} {x:NV} (h:off<l.length):Gn t ps off 1 l (some [x])=bP t ps (l.set off x):=by
 show (if [x].length=1 then (match bW [x] off l with|some l=>bP t ps l|none=>none) else none)=_
 rw[I7 (show [x].length=1 from rfl),cY,I7 (by show off+1<=_;omega)]
 show bP t ps (l.take off++ [x]++l.drop (off+1))=_
 rw[gw h]
theorem DV  {off k:Nat} (h:cs.length=k) (h':off+k<=l.length):Gn t ps off k l (some cs)=bP t ps (l.take off++cs++l.drop (off+k)):=by
 subst h
 show (if cs.length=cs.length then (match bW cs off l with|some l=>bP t ps l|none=>none) else none)=_
 rw[I7 rfl,cY,I7 h']
theorem HF  {off k:Nat} (h:cs.length=k+2) (h':off+(k+2)<=l.length):Gn t ps off (k+2) l (some cs)=bP t ps (l.take off++cs++l.drop (off+(k+2))):=DV h h'
end
end Nm
namespace Nm
open Go Go.RowKit
variable {n d:Nat} {K:Nat->NR} {lo hi:Option NOpd}
section
variable {t:Tm} {m:NH}
noncomputable def gU (t:Tm) (x:Option NOpd) (d:Nat) (K:Nat->NR):NR:=match x with|none=>K d|some x=>oN (ρ t x) fun v=>aC (bN v) K
theorem fV {x:Option NOpd}:cU t x d K=gU t x d K:=by
 cases x with
 |none=>rfl
 |some x=>show wV t x _=_;rw[bt];rfl
noncomputable def pO (n:Nat) (id:D4) (off len e kc a b:Nat):NR:=cond (Nat.ble a b) (cond (Nat.ble b (Bool.rec kc len (Nat.ble kc len))) (cond (Nat.beq e n) (.val (.slc id (off+a*n) (b - a) n (kc - a))) .fail) .fail) .fail
noncomputable def rb (n:Nat) (t:Tm) (lo hi:Option NOpd) (v:NV):NR:=match v with
 | .slc id off len e kc=>gU t hi len fun b=>gU t lo 0 fun a=>pO n id off len e kc a b
 | .nils=>gU t hi 0 fun b=>gU t lo 0 fun a=>cond (Nat.beq a 0) (cond (Nat.beq b 0) (.val .nils) .fail) .fail
 |_=> .fail
theorem GM  {x:NOpd}:ae (.sliceSlc n x lo hi) t m=oN (ρ t x) (rb n t lo hi):=by
 show wV t x (fun v=>match v with
  | .slc id off len e kc=>cU t hi len fun b=>cU t lo 0 fun a=>cond (Nat.ble a b) (cond (Nat.ble b (Bool.rec kc len (Nat.ble kc len))) (cond (Nat.beq e n)
   (ak (Nat.add off (Nat.mul a n)) fun o=>ak (Nat.sub b a) fun m=>ak (Nat.sub kc a) fun k=> .val (.slc id o m n k)) .fail) .fail) .fail
  | .nils=>cU t hi 0 fun b=>cU t lo 0 fun a=>cond (Nat.beq a 0) (cond (Nat.beq b 0) (.val .nils) .fail) .fail
  |_=> .fail)=_
 rw[bt]
 congr 1
 funext v
 cases v with
 |slc id off len e kc=>
  dsimp only[rb]
  rw[fV]
  congr 1
  funext b
  rw[fV]
  congr 1
  funext a
  simp only[ab]
  rfl
 |nils=>
  dsimp only[rb]
  rw[fV]
  congr 1
  funext b
  rw[fV]
 |_=>rfl
theorem BG :gU t none d K=K d:=_root_.id rfl
theorem G4 {x:NOpd}:gU t (some x) d K=oN (ρ t x) fun v=>aC (bN v) K:=_root_.id rfl
theorem qv  {off len e kc:Nat} {id:D4}:rb n t lo hi (.slc id off len e kc)=gU t hi len fun b=>gU t lo 0 fun a=>pO n id off len e kc a b:=_root_.id rfl
theorem wU :rb n t lo hi .nils=gU t hi 0 fun b=>gU t lo 0 fun a=>cond (Nat.beq a 0) (cond (Nat.beq b 0) (.val .nils) .fail) .fail:=_root_.id rfl
theorem wK  {a b off len kc:Nat} {id:D4} (h:a<=b) (h':b<=len):pO n id off len n kc a b= .val (.slc id (off+a*n) (b - a) n (kc - a)):=by
 unfold pO
 rw[Nat.ble_eq_true_of_le h,Nat.beq_refl,show Nat.ble b (Bool.rec kc len (Nat.ble kc len))=true from Nat.ble_eq_true_of_le (by
  cases hb:Nat.ble kc len with
  |true=>exact h'
  |false=>
   have:¬kc<=len:=fun q=>by rw[Nat.ble_eq_true_of_le q] at hb;cases hb
   show b<=kc
   omega)]
 rfl
end
end Nm
namespace Nm
open Go Go.RowKit
variable {B m:NH} {n bytes:Nat} {C D:List (List NV)}
def ids:NV->List D4
 | .slc id _ _ _ _=> [id]
 |_=> []
def Sl (m:NH) (v:NV) (e:Nat) (C:List (List NV)):Prop:=(∀x∈C,x.length=e)/\((v= .nils/\C= [])∨
 ∃id off kc w c,v= .slc id off C.length e kc/\m.get id=some (.cells w c)/\aN m id/\off+C.length*e<=c.length/\(c.drop off).take (C.length*e)=C.flatten)
def bG (B m:NH) (v:NV) (e:Nat) (C:List (List NV)):Prop:=(∀x∈C,x.length=e)/\((v= .nils/\C= [])∨
 ∃id off kc c,v= .slc id off C.length e kc/\¬aN B id/\m.get id=some (.cells true c)/\aN m id/\off+C.length*e<=c.length/\off+kc*e<=c.length/\(c.drop off).take (C.length*e)=C.flatten)
theorem cQ {e:Nat} (h:∀x∈C,x.length=e):C.flatten.length=C.length*e:=by
 induction C with
 |nil=>simp
 |cons a C ih=>
  rw[List.flatten_cons,List.length_append,h a (List.mem_cons_self ..),ih fun x hx=>h x (List.mem_cons_of_mem _ hx),List.length_cons,Nat.succ_mul]
  omega
theorem tz {e:Nat}:∀{C:List (List NV)} (_:∀x∈C,x.length=e) (i:Nat) (hi:i<C.length),(C.flatten.drop (i*e)).take e=C[i]:=by
 intro C
 induction C with
 |nil=>intro _ i hi;simp at hi
 |cons a C ih=>
  intro h i hi
  have ha:=h a (List.mem_cons_self ..)
  cases i with
  |zero=>
   rw[Nat.zero_mul,List.drop_zero,List.flatten_cons,List.take_append,ha,Nat.sub_self,List.take_zero,List.append_nil,←ha]
   simp
  |succ i=>
   rw[List.flatten_cons,List.drop_append,Nat.succ_mul,List.drop_eq_nil_of_le (by omega),List.nil_append,ha,Nat.add_sub_cancel]
   exact ih (fun x hx=>h x (List.mem_cons_of_mem _ hx)) i (by simpa using hi)
theorem bG.sl  {v:NV} {e:Nat} (h:bG B m v e C):Sl m v e C:=by
 obtain ⟨h0,h|⟨id,off,kc,c,h1,_,h2,h3,h4,_,h5⟩⟩:=h
 ·exact ⟨h0,Or.inl h⟩
 ·exact ⟨h0,Or.inr ⟨id,off,kc,true,c,h1,h2,h3,h4,h5⟩⟩
section
variable {m:NH} {v:NV} {e:Nat} {C:List (List NV)}
theorem Sl.len (h:Sl m v e C):w8 v= .val (.int .i64 (.lit (C.length:Int))):=by
 obtain ⟨_,⟨rfl,rfl⟩|⟨id,off,kc,w,c,rfl,_⟩⟩:=h<;>rfl
theorem Sl.one (h:Sl m v e C):cellsOf v=some [v]:=by
 obtain ⟨_,⟨rfl,rfl⟩|⟨id,off,kc,w,c,rfl,_⟩⟩:=h<;>rfl
theorem rB {c:List NV} {off e:Nat} (h:∀x∈C,x.length=e) (hn:C.length=n) (hc:off+n*e<=c.length) (hf:(c.drop off).take (n*e)=C.flatten) (i:Nat) (hi:i<C.length):
 off+i*e+e<=c.length/\(c.drop (off+i*e)).take e=C[i]:=by
 subst hn
 have h1:i*e+e<=C.length*e:=by rw[←Nat.succ_mul];exact Nat.mul_le_mul_right e hi
 refine ⟨by omega, ?_⟩
 rw[←tz h i hi,←hf,List.drop_take,List.take_take,List.drop_drop,Nat.min_eq_left (by omega)]
theorem Sl.at (h:Sl m v e C) (i:Nat) (hi:i<C.length):∃id off w c,iA e v (.int .i64 (.lit (i:Int)))= .val (.ptr id off)/\m.get id=some (.cells w c)/\aN m id/\off+e<=c.length/\(c.drop off).take e=C[i]:=by
 obtain ⟨h0,⟨rfl,rfl⟩|⟨id,off,kc,w,c,rfl,h1,h2,h3,h4⟩⟩:=h
 ·simp at hi
 ·obtain ⟨h5,h6⟩:=rB h0 rfl h3 h4 i hi
  exact ⟨id,off+i*e,w,c,vK (by omega) (by omega),h1,h2,h5,h6⟩
theorem Sl.chg {T:List D4} {m':NH} (h:Sl m v e C) (hc:Chg T m m') (ht:∀id∈ids v,id∉T):Sl m' v e C:=by
 obtain ⟨h0,⟨rfl,rfl⟩|⟨id,off,kc,w,c,rfl,h1,h2,h3,h4⟩⟩:=h
 ·exact ⟨h0,Or.inl ⟨rfl,rfl⟩⟩
 ·exact ⟨h0,Or.inr ⟨id,off,kc,w,c,rfl,(hc.get h2 (ht id (List.mem_cons_self ..))).trans h1,hc.old h2,h3,h4⟩⟩
theorem Sl.grew {m':NH} (h:Sl m v e C) (hc:Chg [] m m'):Sl m' v e C:=h.chg hc fun _ _=>Ja
theorem Sl.old (h:Sl m v e C):∀id∈ids v,aN m id:=by
 obtain ⟨h0,⟨rfl,rfl⟩|⟨id,off,kc,w,c,rfl,h1,h2,h3,h4⟩⟩:=h
 ·intro id hid;simp[ids] at hid
 ·intro i hi;simp[ids] at hi;rw[hi];exact h2
theorem bG.chg  {T:List D4} {m':NH} (h:bG B m v e C) (hc:Chg T m m') (ht:∀id∈ids v,id∉T):bG B m' v e C:=by
 obtain ⟨h0,⟨rfl,rfl⟩|⟨id,off,kc,c,rfl,hb,h1,h2,h3,h4⟩⟩:=h
 ·exact ⟨h0,Or.inl ⟨rfl,rfl⟩⟩
 ·exact ⟨h0,Or.inr ⟨id,off,kc,c,rfl,hb,(hc.get h2 (ht id (List.mem_cons_self ..))).trans h1,hc.old h2,h3,h4⟩⟩
theorem bG.new  (h:bG B m v e C):∀id∈ids v,¬aN B id:=by
 obtain ⟨h0,⟨rfl,rfl⟩|⟨id,off,kc,c,rfl,hb,h1,h2,h3,h4⟩⟩:=h
 ·intro id hid;simp[ids] at hid
 ·intro i hi;simp[ids] at hi;rw[hi];exact hb
theorem bG.nil :bG B m .nils e []:=⟨fun x hx=>by simp at hx,Or.inl ⟨rfl,rfl⟩⟩
theorem Sl.nil:Sl m .nils e []:=⟨fun x hx=>by simp at hx,Or.inl ⟨rfl,rfl⟩⟩
theorem bG.of  {id:D4} {k:Nat} {c:List NV} (h:∀x∈C,x.length=e) (hb:¬aN B id) (hg:m.get id=some (.cells true c)) (ho:aN m id) (hc:c=C.flatten) (hn:n=C.length) (hk:k=C.length):bG B m (.slc id 0 n e k) e C:=by
 subst hn hk hc
 have hl:=cQ h
 exact ⟨h,Or.inr ⟨id,0,_,_,rfl,hb,hg,ho,by omega,by omega,by rw[List.drop_zero,←hl,List.take_length]⟩⟩
theorem bG.back  {B':NH} (h:bG B m v e C) (hb:∀id,aN B' id->aN B id):bG B' m v e C:=by
 obtain ⟨h0,⟨rfl,rfl⟩|⟨id,off,kc,c,rfl,hb',h1,h2,h3,h4⟩⟩:=h
 ·exact ⟨h0,Or.inl ⟨rfl,rfl⟩⟩
 ·exact ⟨h0,Or.inr ⟨id,off,kc,c,rfl,fun q=>hb' (hb _ q),h1,h2,h3,h4⟩⟩
theorem eA  {x:NV} (h:Sl m x n D) {K:Nat->List NV->NR}:eu n m x K=K D.length D.flatten:=by
 obtain ⟨h0,⟨rfl,rfl⟩|⟨id,off,kc,w,c,rfl,h1,h2,h3,h4⟩⟩:=h
 ·rfl
 ·show cond (Nat.beq n n) (bh m id fun c=>aC (dD c off (Nat.mul D.length n)) fun l=>K D.length l) .fail=_
  rw[Nat.beq_refl]
  show bh m id (fun c=>aC (dD c off (Nat.mul D.length n)) fun l=>K D.length l)=_
  unfold bh
  rw[h1]
  show aC (dD c off (D.length*n)) (fun l=>K D.length l)=_
  rw[eG,I7 h3,h4];rfl
theorem Chg.put (m:NH) (id:D4) (o:NO):Chg [id] m (m.put id o):=
 ⟨Nat.le_refl _,fun {i} _ hn=>NH.get_put_ne m o (by simpa using hn)⟩
theorem aN.next_ne  {i:D4} (h:aN m i):i≠m.next:=by
 intro e;rw[e] at h;exact Nat.lt_irrefl _ h
theorem Chg.add (m:NH) (o:NO):Chg [] m (m.add o):=
 ⟨by show m.next.toNat<=m.next.nxt.toNat;rw[D4.toNat_nxt];omega,fun {i} ho _=>NH.get_add_ne m o ho.next_ne⟩
theorem io (m:NH) (o:NO):aN (m.add o) m.next:=by
 show m.next.toNat<m.next.nxt.toNat;rw[D4.toNat_nxt];omega
theorem si  (h:n*bytes<=1099511627776) (h':n<=1099511627776):room n bytes=true:=by
 unfold room
 rw[show Nat.ble (Nat.mul n bytes) 1099511627776=true from Nat.ble_eq_true_of_le h,show Nat.ble n 1099511627776=true from Nat.ble_eq_true_of_le h']
 rfl
theorem bG.app  {x:NV} (hv:bG B m v e C) (hx:Sl m x e D) (hD:D≠ []) (hB:∀id,aN B id->aN m id) (hr:(C.length+D.length)*bytes<=1099511627776) (hr':C.length+D.length<=1099511627776):
 ∃v' m',pA e bytes m v x= .mem v' m'/\bG B m' v' e (C++D)/\Chg (ids v) m m':=by
 unfold pA
 rw[eA hx]
 have hDl:∀y∈D,y.length=e:=hx.1
 have hDp:0<D.length:=List.length_pos_iff.mpr hD
 obtain ⟨k,hk⟩:∃k,D.length=k+1:=⟨D.length - 1,by omega⟩
 have hall:∀y∈C++D,y.length=e:=fun y hy=>(List.mem_append.mp hy).elim (hv.1 y) (hDl y)
 have hnext:¬aN B m.next:=fun q=>Nat.lt_irrefl _ (hB _ q)
 obtain ⟨h0,⟨rfl,rfl⟩|⟨id,off,kc,c,rfl,hb,h1,h2,h3,h3',h4⟩⟩:=hv
 ·refine ⟨.slc m.next 0 D.length e D.length,m.add (.cells true D.flatten), ?_, ?_,Chg.add m _⟩
  ·show Nat.rec (motive:=fun _=>NR) (.val .nils) (fun _ _=>cond (room D.length bytes) (m.new (.cells true D.flatten) fun id h=> .mem (.slc id 0 D.length e D.length) h) .fail) D.length=_
   rw[si (by simpa using hr) (by simpa using hr'),NH.new_eq,hk];rfl
  ·exact bG.of hall hnext (NH.get_add_same m _) (io m _) (by simp) (by simp) (by simp)
 ·have e1:cW e bytes m (.slc id off C.length e kc) D.length D.flatten=(cond (Nat.ble (C.length+D.length) kc)
   (aC (bW D.flatten (off+C.length*e) c) fun c=>m.set id (.cells true c) fun h=> .mem (.slc id off (C.length+D.length) e kc) h)
   (aC (cV off c) fun c=>aC (dY (C.length*e) c) fun old=>cond (room (C.length+D.length) bytes)
    (eX old D.flatten fun l=>m.set id .dead fun h=>h.new (.cells true l) fun id h=> .mem (.slc id 0 (C.length+D.length) e (C.length+D.length)) h) .fail)):=by
   show cond (Nat.beq e e) (Nat.rec (motive:=fun _=>NR) (.val (.slc id off C.length e kc)) (fun _ _=>cE m id fun c=>ak (Nat.add C.length D.length) fun n=>cond (Nat.ble n kc)
    (aC (bW D.flatten (Nat.add off (Nat.mul C.length e)) c) fun c=>m.set id (.cells true c) fun h=> .mem (.slc id off n e kc) h)
    (aC (cV off c) fun c=>aC (dY (Nat.mul C.length e) c) fun old=>cond (room n bytes)
     (eX old D.flatten fun l=>m.set id .dead fun h=>h.new (.cells true l) fun id h=> .mem (.slc id 0 n e n) h) .fail)) D.length) .fail=_
   rw[Nat.beq_refl,hk]
   show cE m id _=_
   unfold cE
   rw[h1]
   show ak (C.length+(k+1)) _=_
   rw[ab]
   rfl
  rw[e1]
  have fl:=cQ hDl
  have fc:=cQ h0
  cases hle:Nat.ble (C.length+D.length) kc with
  |true=>
   have hle:=Nat.le_of_ble_eq_true hle
   have hm:C.length*e+D.length*e<=kc*e:=by rw[←Nat.add_mul];exact Nat.mul_le_mul_right e hle
   refine ⟨.slc id off (C.length+D.length) e kc,m.put id (.cells true (c.take (off+C.length*e)++D.flatten++c.drop (off+C.length*e+D.flatten.length))), ?_, ?_,Chg.put m id _⟩
   ·show aC (bW D.flatten (off+C.length*e) c) _=_
    rw[cY,I7 (by omega)]
    show m.set id _ _=_
    rw[NH.set_eq]
   ·refine ⟨hall,Or.inr ⟨id,off,kc,_,by rw[List.length_append],hb,NH.get_put_same m id _,h2, ?_, ?_, ?_⟩⟩
    ·simp only[List.length_append,List.length_take,List.length_drop,Nat.add_mul];omega
    ·simp only[List.length_append,List.length_take,List.length_drop];omega
    ·have e3:c.take (off+C.length*e)=c.take off++C.flatten:=by rw[List.take_add,h4]
     have e4:(c.take off).length=off:=by rw[List.length_take];omega
     have e5:(c.take off++C.flatten++D.flatten++c.drop (off+C.length*e+D.flatten.length)).drop off=C.flatten++D.flatten++c.drop (off+C.length*e+D.flatten.length):=by
      rw[List.append_assoc,List.append_assoc]
      have:=List.drop_left (l₁:=c.take off) (l₂:=C.flatten++(D.flatten++c.drop (off+C.length*e+D.flatten.length)))
      rw[e4] at this
      rw[this,List.append_assoc]
     rw[e3,e5,List.flatten_append,List.length_append,Nat.add_mul]
     rw[show C.length*e+D.length*e=(C.flatten++D.flatten).length by rw[List.length_append,fl,fc]]
     exact List.take_left
  |false=>
   refine ⟨.slc m.next 0 (C.length+D.length) e (C.length+D.length),(m.put id .dead).add (.cells true (C.flatten++D.flatten)), ?_, ?_, ?_⟩
   ·show aC (cV off c) _=_
    rw[eJ,I7 (by omega)]
    show aC (dY (C.length*e) (c.drop off)) _=_
    rw[eN,I7 (by rw[List.length_drop];omega),h4]
    show cond (room (C.length+D.length) bytes) _ _=_
    rw[si hr hr']
    show eX C.flatten D.flatten _=_
    rw[di,NH.set_eq,NH.new_eq];rfl
   ·exact bG.of hall hnext (NH.get_add_same (m.put id .dead) _) (io (m.put id .dead) _) (by simp) (by simp) (by simp)
   ·exact (Chg.put m id .dead).trans (Chg.add _ _) fun i hi _=>by simp at hi
theorem Sl.appNil {x:NV} (hv:Sl m v e C) (hx:Sl m x e []):pA e bytes m v x= .val v:=by
 unfold pA
 rw[eA hx]
 obtain ⟨h0,⟨rfl,rfl⟩|⟨id,off,kc,w,c,rfl,h1,h2,h3,h4⟩⟩:=hv
 ·rfl
 ·show cond (Nat.beq e e) _ _=_
  rw[Nat.beq_refl];rfl
def j8 (off:Nat):List (Nat×NV)->List NV->List NV
 | [],c=>c
 |(k,x)::us,c=>j8 off us (c.set (off+k) x)
theorem kK {off:Nat}:∀(us:List (Nat×NV)) (c:List NV),(j8 off us c).length=c.length:=by
 intro us
 induction us with
 |nil=>intro c;rfl
 |cons u us ih=>intro c;obtain ⟨k,x⟩:=u;show (j8 off us (c.set (off+k) x)).length=_;rw[ih,List.length_set]
theorem bG.at  (h:bG B m v e C) (i:Nat) (hi:i<C.length):∃id off c,iA e v (.int .i64 (.lit (i:Int)))= .val (.ptr id off)/\ids v= [id]/\¬aN B id/\m.get id=some (.cells true c)/\aN m id/\off+e<=c.length/\(c.drop off).take e=C[i]/\
 ∀(us:List (Nat×NV)) (M:NH),(∀u∈us,u.1<e)->M.get id=some (.cells true (j8 off us c))->aN M id->bG B M v e (C.set i (j8 0 us C[i])):=by
 obtain ⟨h0,⟨rfl,rfl⟩|⟨id,off,kc,c,rfl,hb,h1,h2,h3,h3',h4⟩⟩:=h
 ·simp at hi
 ·obtain ⟨h5,h6⟩:=rB h0 rfl h3 h4 i hi
  refine ⟨id,off+i*e,c,vK (by omega) (by omega),rfl,hb,h1,h2,h5,h6,fun us M hk hM hMo=> ?_⟩
  have hlen:∀y∈C.set i (j8 0 us C[i]),y.length=e:=by
   intro y hy
   rcases List.mem_or_eq_of_mem_set hy with hy|hy
   ·exact h0 y hy
   ·rw[hy,kK];exact h0 _ (List.getElem_mem hi)
  refine ⟨hlen,Or.inr ⟨id,off,kc,_,by rw[List.length_set],hb,hM,hMo,by rw[kK,List.length_set];exact h3,by rw[kK];exact h3', ?_⟩⟩
  rw[List.length_set]
  have hone:∀(k:Nat) (x:NV) (_:k<e) (C:List (List NV)) (_:∀x∈C,x.length=e) (i:Nat) (hi:i<C.length),(C.set i (C[i].set k x)).flatten=C.flatten.set (i*e+k) x:=by
   intro k x hk C
   induction C with
   |nil=>intro _ i hi;simp at hi
   |cons a C ih=>
    intro h i hi
    have ha:=h a (List.mem_cons_self ..)
    cases i with
    |zero=>simp only[List.set_cons_zero,List.flatten_cons,List.getElem_cons_zero,Nat.zero_mul,Nat.zero_add];rw[List.set_append_left _ _ (by omega)]
    |succ i=>
     simp only[List.set_cons_succ,List.flatten_cons,List.getElem_cons_succ]
     rw[ih (fun x hx=>h x (List.mem_cons_of_mem _ hx)) i (by simpa using hi),List.set_append_right _ _ (by rw[ha,Nat.succ_mul];omega),ha,Nat.succ_mul]
     congr 2;omega
  have hall:∀(us:List (Nat×NV)) (_:∀u∈us,u.1<e) (c:List NV) (C:List (List NV)) (_:∀x∈C,x.length=e) (hi:i<C.length),(c.drop off).take (C.length*e)=C.flatten->
   ((j8 (off+i*e) us c).drop off).take (C.length*e)=(C.set i (j8 0 us C[i])).flatten:=by
   intro us
   induction us with
   |nil=>intro _ c C _ hi hf;simp[j8];exact hf
   |cons u us ih=>
    obtain ⟨k,x⟩:=u
    intro hk c C hC hi hf
    have hk0:k<e:=hk (k,x) (List.mem_cons_self ..)
    have:=ih (fun u hu=>hk u (List.mem_cons_of_mem _ hu)) (c.set (off+i*e+k) x) (C.set i (C[i].set k x))
     (fun y hy=>by
      rcases List.mem_or_eq_of_mem_set hy with hy|hy
      ·exact hC y hy
      ·rw[hy,List.length_set];exact hC _ (List.getElem_mem hi))
     (by rw[List.length_set];exact hi)
     (by rw[List.length_set,hone k x hk0 C hC i hi,←hf,List.drop_set,I6 (by omega),List.take_set];congr 1;omega)
    rw[List.getElem_set_self,List.set_set] at this
    simp only[List.length_set] at this
    show ((j8 (off+i*e) us (c.set (off+i*e+k) x)).drop off).take (C.length*e)=(C.set i (j8 0 us (C[i].set (0+k) x))).flatten
    rw[Nat.zero_add];exact this
  exact hall us hk c C h0 hi h4
theorem Sl.flat (h:Sl m v e C):rz v:=by
 obtain ⟨_,⟨rfl,rfl⟩|⟨id,off,kc,w,c,rfl,_⟩⟩:=h<;>trivial
theorem Sl.same (h:Sl m v e C):bi (n+1) v v=true:=fU h.flat
theorem Sl.ssl (h:Sl m v e C) {t:Tm} {lo hi:Option NOpd} {a b:Nat} (hab:a<=b) (hb:b<=C.length) (hlo:∀K:Nat->NR,gU t lo 0 K=K a) (hhi:∀(d:Nat) (K:Nat->NR),d=C.length->gU t hi d K=K b):
 ∃v',rb e t lo hi v= .val v'/\Sl m v' e ((C.drop a).take (b - a))/\(∀i∈ids v',i∈ids v):=by
 obtain ⟨h0,⟨rfl,rfl⟩|⟨id,off,kc,w,c,rfl,h1,h2,h3,h4⟩⟩:=h
 ·simp at hb
  subst hb
  have ha:a=0:=by omega
  subst ha
  refine ⟨.nils, ?_,⟨by simp,Or.inl ⟨rfl,by simp⟩⟩,fun _ h=>h⟩
  rw[wU,hhi 0 _ rfl,hlo];rfl
 ·have hlen:((C.drop a).take (b - a)).length=b - a:=by rw[List.length_take,List.length_drop];omega
  have hall:∀x∈(C.drop a).take (b - a),x.length=e:=fun x hx=>h0 x (List.mem_of_mem_drop (List.mem_of_mem_take hx))
  have hmul:a*e+(b - a)*e<=C.length*e:=by rw[←Nat.add_mul];exact Nat.mul_le_mul_right e (by omega)
  refine ⟨.slc id (off+a*e) (b - a) e (kc - a), ?_,⟨hall,Or.inr ⟨id,off+a*e,kc - a,w,c,by rw[hlen],h1,h2,by rw[hlen];omega, ?_⟩⟩,fun _ h=>h⟩
  ·rw[qv,hhi _ _ rfl,hlo,wK hab hb]
  ·rw[hlen]
   have e1:(c.drop (off+a*e)).take ((b - a)*e)=(((c.drop off).take (C.length*e)).drop (a*e)).take ((b - a)*e):=by
    rw[List.drop_take,List.take_take,List.drop_drop,Nat.min_eq_left (by omega)]
   rw[e1,h4]
   have e2:C.flatten=(C.take a).flatten++(((C.drop a).take (b - a)).flatten++((C.drop a).drop (b - a)).flatten):=by
    rw[←List.flatten_append,List.take_append_drop,←List.flatten_append,List.take_append_drop]
   have e3:((C.take a).flatten).length=a*e:=by
    rw[cQ fun x hx=>h0 x (List.mem_of_mem_take hx),List.length_take,Nat.min_eq_left (by omega)]
   have e4:(((C.drop a).take (b - a)).flatten).length=(b - a)*e:=by rw[cQ hall,hlen]
   rw[e2,←e3,List.drop_left,←e4,List.take_left]
theorem pU {α:Type} (n:Nat) (z:List α):Nm.rep n z=(List.replicate n z).flatten:=by
 induction n with
 |zero=>rfl
 |succ n ih=>show z++Nm.rep n z=_;rw[ih,List.replicate_succ,List.flatten_cons]
theorem gf {c cs:List NV} {off e:Nat} (h:(c.drop off).take e=cs) (k:Nat) (hk:k<e):c[off+k]? =cs[k]? :=by
 rw[←h,List.getElem?_take_of_lt hk,List.getElem?_drop]
end
end Nm
namespace Nm
open Go Go.RowKit
variable {m:NH} {l cs:List NV} {t:Tm} {k cur:Nat} {ps:List (Nat×Nat×NOpd)} {S:Nat->List NV->Option NV} {C:List (List NV)}
section
variable {L:List (D4×NV)} {t:Tm} {ctx:Option NV} {m:NH} {K:NV->NH->Prop}
theorem CZ {q:Bool}:(q==true)=q:=by cases q<;>rfl
theorem CT {q:Bool}:(q==false)= !q:=by cases q<;>rfl
theorem ef {l:List (AK×NO)} {S:List D4} (h:tG l=S):Chg S m (hp l k m):=h▸vP l k m
def yk (f:List NV->List NV) (o:Option (List NV)):Option (List NV):=match o with|some l=>some (f l)|none=>none
theorem CP {f:List NV->List NV}:yk f (some l)=some (f l):=_root_.id rfl
noncomputable def IJ (t:Tm) (ps:List (Nat×Nat×NOpd)) (off k cur:Nat) (l:List NV) (o:Option (List NV)):Option (List NV):=match o with
 |some cs=>if cs.length=k/\cur<=off/\off - cur+k<=l.length then yk (fun r=>l.take (off - cur)++(cs++r)) (bL t ps (off+k) (l.drop (off - cur+k))) else none
 |none=>none
theorem F7 :bL t [] cur l=some l:=_root_.id rfl
theorem vC {α:Type} (K:List α->Option (List α)):∀(k:Nat) (l:List α),eg k K l=if k<=l.length then (match K (l.drop k) with|some r=>some (l.take k++r)|none=>none) else none:=by
 intro k
 induction k with
 |zero=>intro l;show K l=_;simp;cases K l<;>rfl
 |succ k ih=>
  intro l
  cases l with
  |nil=>simp;rfl
  |cons a l=>
   show Option.rec (motive:=fun _=>Option (List α)) none (fun t'=>some (a::t')) (eg k K l)=_
   rw[ih]
   by_cases h:k<=l.length
   ·rw[I7 h,I7 (by simpa using h),List.drop_succ_cons]
    cases K (l.drop k)<;>rfl
   ·rw[I6 h,I6 (by simpa using h)]
theorem Ie  {off:Nat} {x:NOpd}:bL t ((off,k,x)::ps) cur l=oO (ρ t x) fun v=>IJ t ps off k cur l (cellsOf v):=by
 show Option.rec (motive:=fun _=>Option (List NV)) none (fun v:NV=>Option.rec (motive:=fun _=>Option (List NV)) none (fun cs=>cK cs fun j=>cond (Nat.beq j k) (cond (Nat.ble cur off)
  (eg (Nat.sub off cur) (fun l=>Option.rec (motive:=fun _=>Option (List NV)) none (fun l=>Option.rec (motive:=fun _=>Option (List NV)) none (fun l=>eX cs l some) (bL t ps (Nat.add off j) l)) (cV j l)) l) none) none) (cellsOf v)) (ρ t x)=_
 cases ρ t x with
 |none=>rfl
 |some v=>
  show Option.rec (motive:=fun _=>Option (List NV)) none (fun cs=>cK cs fun j=>cond (Nat.beq j k) (cond (Nat.ble cur off)
   (eg (Nat.sub off cur) (fun l=>Option.rec (motive:=fun _=>Option (List NV)) none (fun l=>Option.rec (motive:=fun _=>Option (List NV)) none (fun l=>eX cs l some) (bL t ps (Nat.add off j) l)) (cV j l)) l) none) none) (cellsOf v)=IJ t ps off k cur l (cellsOf v)
  cases cellsOf v with
  |none=>rfl
  |some cs=>
   show cK cs (fun j=>cond (Nat.beq j k) (cond (Nat.ble cur off)
    (eg (Nat.sub off cur) (fun l=>Option.rec (motive:=fun _=>Option (List NV)) none (fun l=>Option.rec (motive:=fun _=>Option (List NV)) none (fun l=>eX cs l some) (bL t ps (Nat.add off j) l)) (cV j l)) l) none) none)=if cs.length=k/\cur<=off/\off - cur+k<=l.length then _ else _
   rw[bq]
   cases hb:Nat.beq cs.length k with
   |false=>rw[I6 (fun h=>Nat.ne_of_beq_eq_false hb h.1)];rfl
   |true=>
    have hk:=Jc hb
    subst hk
    cases hle:Nat.ble cur off with
    |false=>rw[I6 (fun h=>by rw[Nat.ble_eq_true_of_le h.2.1] at hle;cases hle)];rfl
    |true=>
     have hle:=Nat.le_of_ble_eq_true hle
     show eg (off - cur) (fun l=>Option.rec (motive:=fun _=>Option (List NV)) none (fun l=>Option.rec (motive:=fun _=>Option (List NV)) none (fun l=>eX cs l some) (bL t ps (off+cs.length) l)) (cV cs.length l)) l=_
     rw[vC]
     by_cases h1:off - cur<=l.length
     ·rw[I7 h1,eJ,List.length_drop]
      by_cases h2:cs.length<=l.length - (off - cur)
      ·rw[I7 h2,I7 ⟨rfl,hle,by omega⟩,List.drop_drop]
       dsimp only
       cases bL t ps (off+cs.length) (l.drop (off - cur+cs.length)) with
       |none=>rfl
       |some r=>dsimp only[yk];rw[di]
      ·rw[I6 h2,I6 (fun h=>h2 (by omega))]
     ·rw[I6 h1,I6 (fun h=>h1 (by omega))]
theorem Gq  {off:Nat} (h1:cs.length=k) (h2:cur<=off) (h3:off - cur+k<=l.length):
 IJ t ps off k cur l (some cs)=yk (fun r=>l.take (off - cur)++(cs++r)) (bL t ps (off+k) (l.drop (off - cur+k))):=I7 ⟨h1,h2,h3⟩
theorem lN.wf' {P:Program} {f:Nat} {args:List NV} {m':NH} {v:NV} (h:lN P S f args m v m') {K:NV->NH->Prop}:WF P S f args m K=K v m':=by
 rw[h.wf,an]
theorem vB (m:NH) (o:NO):hp [(.n 0,o)] 1 m=m.add o:=by
 have:=wP (m:=m) (l:= []) (k:=0) (o:=o)
 rw[an] at this
 exact this.symm
theorem bG.app1  {B:NH} {v:NV} {e:Nat} {x:D4} {w:Bool} {kc bytes:Nat} (hv:bG B m v e C) (hx:m.get x=some (.cells w cs)) (hox:aN m x) (hl:cs.length=e) (hB:∀id,aN B id->aN m id)
 (hr:(C.length+1)*bytes<=1099511627776) (hr':C.length+1<=1099511627776):∃v' m',pA e bytes m v (.slc x 0 1 e kc)= .mem v' m'/\bG B m' v' e (C++ [cs])/\Chg (ids v) m m':=
 hv.app (D:= [cs]) ⟨fun y hy=>by simp at hy;rw[hy];exact hl,Or.inr ⟨x,0,kc,w,cs,rfl,hx,hox,by subst hl;simp,by subst hl;simp⟩⟩ (by simp) hB hr hr'
theorem zI {P:Program} {dst:D4} {L:List (D4×NV)} {dfs:List Dfr} {ctx:Option NV} {K:Dyn->Prop} {B:NH} {v:NV} {e:Nat} {x:D4} {w:Bool} {kc bytes:Nat} (hv:bG B m v e C) (hx:m.get x=some (.cells w cs)) (hox:aN m x) (hl:cs.length=e) (hB:∀id,aN B id->aN m id)
 (hr:(C.length+1)*bytes<=1099511627776) (hr':C.length+1<=1099511627776) (h:∀v' m',bG B m' v' e (C++ [cs])->Chg (ids v) m m'->K ⟨aw ((dst,v')::L) t,dfs,ctx,hp [] 0 m'⟩):
 wN P S (some dst) (aw L t) dfs ctx m (pA e bytes m v (.slc x 0 1 e kc)) K:=by
 obtain ⟨v',m',h1,h2,h3⟩:=hv.app1 (bytes:=bytes) (kc:=kc) hx hox hl hB hr hr'
 have:=h v' m' h2 h3
 rw[an] at this
 rw[h1];exact this
theorem CV {b:Bool}:cellsOf (.bool b)=some [.bool b]:=_root_.id rfl
theorem GS {k:IntKind} {x:SI}:cellsOf (.int k x)=some [.int k x]:=_root_.id rfl
theorem Hd {i:D4} {o:Nat}:cellsOf (.ptr i o)=some [.ptr i o]:=_root_.id rfl
theorem DA:cellsOf (.nils)=some [.nils]:=_root_.id rfl
theorem HG {i:D4} {o n e:Nat}:cellsOf (.slc i o n e k)=some [.slc i o n e k]:=_root_.id rfl
theorem GE {i:D4}:cellsOf (.map i)=some [.map i]:=_root_.id rfl
theorem HY {f:Nat}:cellsOf (.fn f l)=some [.fn f l]:=_root_.id rfl
theorem G5 :cellsOf (.agg l)=some l:=_root_.id rfl
noncomputable def Hz (m:NH) (o:Option (List NV)):NR:=match o with|some cs=> .mem (.ptr m.next 0) (m.add (.cells true cs))|none=> .fail
theorem GB  {x:NOpd} {ty:Nat}:ae (.box x ty) t m=oN (ρ t x) fun v=>Hz m (cellsOf v):=BJ
theorem F1 :Hz m (some cs)= .mem (.ptr m.next 0) (m.add (.cells true cs)):=_root_.id rfl
abbrev ii (z:Int):NV:= .int .i64 (.lit z)
end
end Nm
namespace Nm
open Go Go.RowKit
variable {K Φ:NV->NH->Prop} {t:Tm} {dfs:List Dfr} {ps:List D4} {o:Out} {rs:List NRes} {Q:Out->Dyn->Prop}
def lj (P:Program) (S:Nat->List NV->Option NV) (q:D4) (args:List NV) (m:NH) (v:NV) (m':NH):Prop:=∃c,rl P S q args m (.val v c m')
def WY (P:Program) (S:Nat->List NV->Option NV) (q:D4) (args:List NV) (m:NH) (K:NV->NH->Prop):Prop:=∃v c m',rl P S q args m (.val v c m')/\K v m'
section
variable {P:Program} {S:Nat->List NV->Option NV} {f:Nat} {q:D4} {args:List NV} {m:NH}
theorem rl.det {x y:CR} (h:rl P S q args m x) (h':rl P S q args m y):x=y:=by
 obtain ⟨hn,n,e⟩:=h
 obtain ⟨hn',k,e'⟩:=h'
 rw[←dU (bx (Nat.le_max_left n k)) e hn,dU (bx (Nat.le_max_right n k)) e' hn']
theorem lj.wy {v:NV} {m':NH} (h:lj P S q args m v m'):WY P S q args m K=K v (hp [] 0 m'):=by
 rw[an]
 apply propext
 constructor
 ·rintro ⟨u,c,n,hc,hk⟩
  obtain ⟨c',h'⟩:=h
  have:=rl.det hc h'
  injection this with a _ b
  rw[←a,←b];exact hk
 ·intro hk
  obtain ⟨c,h⟩:=h
  exact ⟨v,c,m',h,hk⟩
def Dq (q:D4) (K:NV->NH->Prop) (o:Out) (d:Dyn):Prop:=match d.h.get q with
 |some (.loop _ _ tm ps a b)=>(match o with
  | .norm=>K (.bool true) (d.h.put q (.loop 0 .none tm ps a b))
  | .ret=>K (.bool false) (d.h.put q (.loop 2 .ret tm ps a b))
  | .exit i=>K (.bool false) (d.h.put q (.loop 2 (.exit i) tm ps a b))
  | .pan _=>False)
 |_=>False
theorem WY.of_wp {p:Jump} {tm:NT NV} {a b A B:NC} (hm:m.get q=some (.loop 0 p tm ps a b)) (hlen:args.length=ps.length) (ea:a=A) (eb:b=B)
 (h:wp P S (some q) A ⟨lG ps args tm, [],none,hp [] 0 m⟩ (fun o d=>o= .norm/\d.dfs= []/\d.h.get q=some (.loop 0 p tm ps a b)/\wp P S (some q) B ⟨d.t, [],none,d.h.put q (.loop 1 p tm ps a b)⟩ (Dq q K))):WY P S q args m K:=by
 subst ea eb
 rw[an] at h
 obtain ⟨o,d1,h1,rfl,hd,hq,h2⟩:=aT _ _ _ h
 obtain ⟨o,d2,h3,h4⟩:=aT _ _ _ h2
 unfold Dq at h4
 cases hg:d2.h.get q with
 |none=>rw[hg] at h4;exact h4.elim
 |some w=>
  rw[hg] at h4
  cases w with
  |loop st p2 tm2 ps2 a2 b2=>
   cases o with
   |norm=>exact ⟨_,none,_,rl.of hm hlen h1 hd hq h3 (by simp) (by unfold cX;rw[hg];exact NH.set_eq _ _ _ _) (by simp),h4⟩
   |ret=>exact ⟨_,none,_,rl.of hm hlen h1 hd hq h3 (by simp) (by unfold cX;rw[hg];exact NH.set_eq _ _ _ _) (by simp),h4⟩
   |exit i=>exact ⟨_,none,_,rl.of hm hlen h1 hd hq h3 (by simp) (by unfold cX;rw[hg];exact NH.set_eq _ _ _ _) (by simp),h4⟩
   |pan v=>exact h4.elim
  |_=>exact h4.elim
noncomputable def Iz (q:D4) (K:NV->NH->Prop) (o:Out) (m:NH) (x:Option NO):Prop:=match x with
 |some (.loop _ _ tm ps a b)=>(match o with
  | .norm=>K (.bool true) (m.put q (.loop 0 .none tm ps a b))
  | .ret=>K (.bool false) (m.put q (.loop 2 .ret tm ps a b))
  | .exit i=>K (.bool false) (m.put q (.loop 2 (.exit i) tm ps a b))
  | .pan _=>False)
 |_=>False
theorem CQ  {ctx:Option NV}:Dq q K o ⟨t,dfs,ctx,m⟩=Iz q K o m (m.get q):=_root_.id rfl
section
variable {K:NV->NH->Prop} {st:Nat} {p:Jump} {tm:NT NV} {ps:List D4} {a b:NC} {i:Nat}
theorem Hg:Iz q K .norm m (some (.loop st p tm ps a b))=K (.bool true) (m.put q (.loop 0 .none tm ps a b)):=_root_.id rfl
theorem Hu:Iz q K .ret m (some (.loop st p tm ps a b))=K (.bool false) (m.put q (.loop 2 .ret tm ps a b)):=_root_.id rfl
end
theorem WY.ret  (h:WY P S q args m K):∃v m',lj P S q args m v m'/\K v m':=by
 obtain ⟨v,c,m',hc,hk⟩:=h;exact ⟨v,m',⟨c,hc⟩,hk⟩
theorem WY.ex  (h:∀K:NV->NH->Prop,(∀v m',Φ v m'->K v m')->WY P S q args m K):∃v m',lj P S q args m v m'/\Φ v m':=(h Φ fun _ _ h=>h).ret
theorem WF.ex  (h:∀K:NV->NH->Prop,(∀v m',Φ v m'->K v m')->WF P S f args m K):∃v m',lN P S f args m v m'/\Φ v m':=(h Φ fun _ _ h=>h).ret
def oQ (ks:List D4) (t t':Tm):Prop:=∀k,k∉ks->NT.get k t'=NT.get k t
theorem oQ.refl (ks:List D4) (t:Tm):oQ ks t t:=fun _ _=>rfl
theorem oQ.get {ks:List D4} {t':Tm} (h:oQ ks t t') {k:D4} {v:Option NV} (g:NT.get k t=v) (hk:k∉ks):NT.get k t'=v:=(h k hk).trans g
theorem oQ.trans {ks ls:List D4} {a b c:Tm} (h:oQ ks a b) (h':oQ ls b c) (hs:∀k∈ls,k∈ks):oQ ks a c:=fun k hk=>(h' k fun q=>hk (hs k q)).trans (h k hk)
noncomputable def t7:List Dfr->NH->Option NH
 | [],m=>some m
 | .mark id::l,m=>(match m.get id with|some (.defd true)=>t7 l (m.put id (.defd false))|_=>none)
 | .call ..::_,_=>none
def xL (rs:List NRes) (K:NV->NH->Prop) (o:Out) (d:Dyn):Prop:=(o= .norm∨o= .ret)/\∃m',t7 d.dfs d.h=some m'/\∃v,bJ m' d.t rs .fail (fun l=> .val (fh l) d.ctx m')= .val v d.ctx m'/\K v m'
theorem kA {F:Nat->List NV->Option NV->NH->CR} {K:Option NV->NH->CR}:∀(l:List Dfr) (m m':NH) (p:Option NV),t7 l m=some m'->unwind F K l p m=K p m':=by
 intro l
 induction l with
 |nil=>intro m m' p h;injection h with h;rw[←h];rfl
 |cons c l ih=>
  intro m m' p h
  cases c with
  |call f cap=>cases h
  |mark id=>
   show (match m.get id with
    |some (.defd true)=>m.set id (.defd false) fun h=>unwind F K l p h
    |_=>CR.fail)=_
   change (match m.get id with|some (.defd true)=>t7 l (m.put id (.defd false))|_=>none)=some m' at h
   cases hg:m.get id with
   |none=>rw[hg] at h;cases h
   |some o=>
    rw[hg] at h
    cases o with
    |defd b=>cases b with
     |true=>dsimp only at h ⊢;rw[NH.set_eq];exact ih _ _ _ h
     |false=>cases h
    |_=>cases h
theorem Call.of_runM {nf:NFun} (hs:∀l,S f l=none) (hf:aj P f=some (.code nf)) {d:Dyn} {m':NH} (ho:o= .norm∨o= .ret) (h:dz P S none nf.body ⟨cZ args 0 .leaf, [],none,m⟩ o d)
 (hd:t7 d.dfs d.h=some m') {v:NV} (hv:bJ m' d.t nf.results .fail (fun l=> .val (fh l) d.ctx m')= .val v d.ctx m'):Call P S f args m (.val v d.ctx m'):=by
 obtain ⟨n,hn⟩:=h
 refine ⟨by simp,n, ?_⟩
 unfold bD
 rw[hs args]
 dsimp only
 rw[hf]
 show bY P (ev P S n) 3 f args none m=_
 rw[dZ,hf]
 dsimp only
 rw[hn]
 rcases ho with rfl|rfl
 ·show unwind _ (finish nf.results d) d.dfs none d.h=_
  rw[kA _ _ _ _ hd];exact hv
 ·show unwind _ (finish nf.results d) d.dfs none d.h=_
  rw[kA _ _ _ _ hd];exact hv
theorem WF.of_wpM {nf:NFun} (hs:∀l,S f l=none) (hf:aj P f=some (.code nf)) {L:List (D4×NV)} (hL:cZ args 0 .leaf=aw L .leaf)
 (h:wp P S none nf.body ⟨aw L .leaf, [],none,hp [] 0 m⟩ (xL nf.results K)):WF P S f args m K:=by
 rw[an] at h
 obtain ⟨o,d,h1,ho,m',hd,v,hv,hK⟩:=aT _ _ _ h
 rw[←hL] at h1
 exact ⟨v,d.ctx,m',Call.of_runM hs hf ho h1 hd hv,hK⟩
noncomputable def It (rs:List NRes) (K:NV->NH->Prop) (t:Tm) (ctx:Option NV) (o:Option NH):Prop:=match o with|some m'=>tv rs K .ret ⟨t, [],ctx,m'⟩|none=>False
theorem zw  {ctx:Option NV} (ho:o= .norm∨o= .ret):xL rs K o ⟨t,dfs,ctx,m⟩=It rs K t ctx (t7 dfs m):=by
 apply propext
 constructor
 ·rintro ⟨_,m',h1,v,h2,h3⟩
  change t7 dfs m=some m' at h1
  rw[h1]
  exact ⟨Or.inr rfl,rfl,v,h2,h3⟩
 ·intro h
  cases hu:t7 dfs m with
  |none=>rw[hu] at h;exact h.elim
  |some m'=>
   rw[hu] at h
   obtain ⟨_,_,v,h2,h3⟩:=h
   exact ⟨ho,m',hu,v,h2,h3⟩
theorem DQ  {ctx:Option NV}:xL rs K .ret ⟨t,dfs,ctx,m⟩=It rs K t ctx (t7 dfs m):=zw (.inr rfl)
theorem Gr  {ctx:Option NV}:It rs K t ctx (some m)=tv rs K .ret ⟨t, [],ctx,m⟩:=_root_.id rfl
theorem zO {r:Option D4} {g:NOpd} {a b:NC} {d:Dyn}:wp P S r (.rangeFunc g ps a b) d Q=W P S r (.rangeFunc g ps a b) d Q:=_root_.id rfl
theorem ED:t7 [] m=some m:=_root_.id rfl
noncomputable def G9 (l:List Dfr) (i:D4) (m:NH) (o:Option NO):Option NH:=match o with|some (.defd true)=>t7 l (m.put i (.defd false))|_=>none
theorem GC {l:List Dfr} {i:D4}:t7 (.mark i::l) m=G9 l i m (m.get i):=_root_.id rfl
theorem Ef {l:List Dfr} {i:D4}:G9 l i m (some (.defd true))=t7 l (m.put i (.defd false)):=_root_.id rfl
theorem W.range {cap:List NV} {fx:NOpd} {a b:NC} {ctx:Option NV} {M m':NH} {v:NV}
 (hf:ρ t fx=some (.fn f cap)) {x:D4} (hx:m.next=x) {y:D4} (hy:(m.add (.defd true)).next=y) (hM:(m.add (.defd true)).add (.loop 0 .none t ps a b)=M) (hc:lN P S f (.yld y::cap) M v m')
 {tm:NT NV} {ps':List D4} {a' b':NC} (hl:m'.get y=some (.loop 0 .none tm ps' a' b')) (hQ:Q .norm ⟨t,.mark x::dfs,ctx,hp [] 0 (m'.put y (.loop 3 .none tm ps' a' b'))⟩):
 W P S none (.rangeFunc fx ps a b) ⟨t,dfs,ctx,m⟩ Q:=by
 subst hx hy hM
 rw[an] at hQ
 obtain ⟨c,hc⟩:=hc
 refine ⟨_,_,dz.range hf hc ?_,hQ⟩
 unfold dp
 rw[hl]
 dsimp only
 rw[show Nat.beq 0 1=false from rfl,cond_false,NH.set_eq]
end
end Nm
namespace Nm
open Go Go.RowKit
variable {args:List NV} {C:List (List NV)}
section
variable (P:Program) (S:Nat->List NV->Option NV) (r:Option D4)
def Fo (c:NC) (Q:Out->Dyn->Prop) (d:Dyn):Prop:=wp P S r c d Q
def xN (dst:Option D4) (t:Tm) (dfs:List Dfr) (ctx:Option NV) (m:NH) (x:NR) (l:List NOper) (K:Dyn->Prop):Prop:=wN P S dst t dfs ctx m x fun d=>wO P S l d K
def uO (dst:Option D4) (t:Tm) (dfs:List Dfr) (ctx:Option NV) (l:List NOper) (K:Dyn->Prop) (v:NV) (m:NH):Prop:=wO P S l ⟨aD dst v t,dfs,ctx,m⟩ K
def gA (dst:Option D4) (op:NOp) (l:List NOper) (K:Dyn->Prop) (d:Dyn):Prop:=xN P S dst d.t d.dfs d.ctx d.h (ae op d.t d.h) l K
def gB (dst:Option D4) (l:List NOper) (K:Dyn->Prop) (d:Dyn):Prop:=wO P S l ⟨aD dst aA d.t,d.dfs,d.ctx,d.h⟩ K
def dA (dst:Option D4) (op:NOp) (pre idx:Nat) (l:List NOper) (hs:List (Nat×NH)) (rs:List (Nat×(NH->NR)×NV)) (K:Dyn->Prop) (d:Dyn):Prop:=wX (am op) (ae op d.t d.h) P S (ae op d.t) dst pre idx l hs rs d K
def dB (dst:Option D4) (l:List NOper) (hs:List (Nat×NH)) (rs:List (Nat×(NH->NR)×NV)) (K:Dyn->Prop) (d:Dyn):Prop:=wD P S l hs rs ⟨aD dst aA d.t,d.dfs,d.ctx,d.h⟩ K
def Gj (pre idx:Nat) (m:NH) (l:List NOper) (hs:List (Nat×NH)) (rs:List (Nat×(NH->NR)×NV)) (K:Dyn->Prop) (d:Dyn):Prop:=aR pre d.h rs=true/\wD P S l ((idx,m)::hs) rs d K
def AJ (dst:Option D4) (t:Tm) (dfs:List Dfr) (ctx:Option NV) (K:Dyn->Prop) (v:NV) (m:NH):Prop:=K ⟨aD dst v t,dfs,ctx,m⟩
end
section
variable {P:Program} {S:Nat->List NV->Option NV} {r:Option D4} {dst:Option D4} {op:NOp} {pre idx:Nat} {l:List NOper} {hs:List (Nat×NH)} {rs:List (Nat×(NH->NR)×NV)}
 {L:List (D4×NV)} {t:Tm} {dfs:List Dfr} {ctx:Option NV} {m m':NH} {v:NV} {k g:D4} {d:Dyn} {Q:Out->Dyn->Prop} {K:Dyn->Prop} {b:Bool}
theorem Gp {x y:NC}:wp P S r (.seq x y) d Q=wp P S r x d (fN (Fo P S r y Q) Q):=_root_.id rfl
theorem FL {c:NC}:Fo P S r c Q d=wp P S r c d Q:=_root_.id rfl
theorem Ei {g:NOpd} {x y:NC}:wp P S r (.cond g x y) ⟨aw L t,dfs,ctx,m⟩ Q=wC (ρ (aw L t) g) (Fo P S r x Q) (Fo P S r y Q) ⟨aw L t,dfs,ctx,m⟩:=_root_.id rfl
theorem Es:wO P S (⟨dst,op,none,pre,idx⟩::l) ⟨aw L t,dfs,ctx,m⟩ K=xN P S dst (aw L t) dfs ctx m (ae op (aw L t) m) l K:=_root_.id rfl
theorem Gt:xN P S (some k) (aw L t) dfs ctx m (.val v) l K=wO P S l ⟨aw ((k,v)::L) t,dfs,ctx,m⟩ K:=_root_.id rfl
theorem GW:xN P S (some k) (aw L t) dfs ctx m (.mem v m') l K=wO P S l ⟨aw ((k,v)::L) t,dfs,ctx,m'⟩ K:=_root_.id rfl
theorem EW:xN P S none (aw L t) dfs ctx m (.mem v m') l K=wO P S l ⟨aw L t,dfs,ctx,m'⟩ K:=_root_.id rfl
theorem Ff {f:Nat}:xN P S dst t dfs ctx m (.call f args) l K=WF P S f args m (uO P S dst t dfs ctx l K):=_root_.id rfl
theorem Ge {q:D4}:xN P S dst t dfs ctx m (.yld q args) l K=WY P S q args m (uO P S dst t dfs ctx l K):=_root_.id rfl
theorem yj:uO P S (some k) (aw L t) dfs ctx l K v m=wO P S l ⟨aw ((k,v)::L) t,dfs,ctx,m⟩ K:=_root_.id rfl
theorem x7:wO P S (⟨dst,op,some (g,b),pre,idx⟩::l) ⟨aw L t,dfs,ctx,m⟩ K=wG (du g L (NT.get g t)) b (gA P S dst op l K) (gB P S dst l K) ⟨aw L t,dfs,ctx,m⟩:=yP
theorem Iy:gA P S dst op l K ⟨aw L t,dfs,ctx,m⟩=xN P S dst (aw L t) dfs ctx m (ae op (aw L t) m) l K:=_root_.id rfl
theorem H7:gB P S (some k) l K ⟨aw L t,dfs,ctx,m⟩=wO P S l ⟨aw ((k,aA)::L) t,dfs,ctx,m⟩ K:=_root_.id rfl
theorem wS:wD P S (⟨dst,op,some (g,b),pre,idx⟩::l) hs rs ⟨aw L t,dfs,ctx,m⟩ K=wG (du g L (NT.get g t)) b (dA P S dst op pre idx l hs rs K) (dB P S dst l hs rs K) ⟨aw L t,dfs,ctx,m⟩:=uZ
theorem HW:dA P S dst op pre idx l hs rs K ⟨aw L t,dfs,ctx,m⟩=wX (am op) (ae op (aw L t) m) P S (ae op (aw L t)) dst pre idx l hs rs ⟨aw L t,dfs,ctx,m⟩ K:=_root_.id rfl
theorem If:dB P S (some k) l hs rs K ⟨aw L t,dfs,ctx,m⟩=wD P S l hs rs ⟨aw ((k,aA)::L) t,dfs,ctx,m⟩ K:=_root_.id rfl
def Fy (P:Program) (S:Nat->List NV->Option NV) (dst:Option D4) (t:Tm) (dfs:List Dfr) (ctx:Option NV) (m:NH) (x:NR) (K:Dyn->Prop):Prop:=wN P S dst t dfs ctx m x K
section
variable {f:NH->NR}
theorem CH {x:NR}:wX .eff x P S f dst pre idx l hs rs ⟨t,dfs,ctx,m⟩ K=(ahead pre hs=true/\Fy P S dst t dfs ctx m x (Gj P S pre idx m l hs rs K)):=_root_.id rfl
end
theorem EA:Fy P S (some k) (aw L t) dfs ctx m (.val v) K=K ⟨aw ((k,v)::L) t,dfs,ctx,m⟩:=_root_.id rfl
theorem Dv:Fy P S (some k) (aw L t) dfs ctx m (.mem v m') K=K ⟨aw ((k,v)::L) t,dfs,ctx,m'⟩:=_root_.id rfl
theorem zF:Fy P S none (aw L t) dfs ctx m (.mem v m') K=K ⟨aw L t,dfs,ctx,m'⟩:=_root_.id rfl
theorem yg {f:Nat}:Fy P S dst t dfs ctx m (.call f args) K=WF P S f args m (AJ dst t dfs ctx K):=_root_.id rfl
theorem zH:AJ (some k) (aw L t) dfs ctx K v m=K ⟨aw ((k,v)::L) t,dfs,ctx,m⟩:=_root_.id rfl
theorem CW {m0:NH}:Gj P S pre idx m0 l hs rs K ⟨t,dfs,ctx,m⟩=(aR pre m rs=true/\wD P S l ((idx,m0)::hs) rs ⟨t,dfs,ctx,m⟩ K):=_root_.id rfl
theorem wH {B:NH} {e:Nat} {x:D4} {w:Bool} {cs:List NV} {kc bytes:Nat} (hv:bG B m v e C) (hx:m.get x=some (.cells w cs)) (hox:aN m x) (hl:cs.length=e) (hB:∀id,aN B id->aN m id)
 (hr:(C.length+1)*bytes<=1099511627776) (hr':C.length+1<=1099511627776) (h:∀v' m',bG B m' v' e (C++ [cs])->Chg (ids v) m m'->wO P S l ⟨aw ((k,v')::L) t,dfs,ctx,hp [] 0 m'⟩ K):
 xN P S (some k) (aw L t) dfs ctx m (pA e bytes m v (.slc x 0 1 e kc)) l K:=zI hv hx hox hl hB hr hr' h
theorem yQ {e a b:Nat} {lo hi:Option NOpd} (h:Sl m v e C) (hab:a<=b) (hb:b<=C.length) (hlo:∀K:Nat->NR,gU (aw L t) lo 0 K=K a) (hhi:∀(d:Nat) (K:Nat->NR),d=C.length->gU (aw L t) hi d K=K b)
 (hK:∀v',Sl m v' e ((C.drop a).take (b - a))->(∀i∈ids v',i∈ids v)->wO P S l ⟨aw ((k,v')::L) t,dfs,ctx,m⟩ K):xN P S (some k) (aw L t) dfs ctx m (rb e (aw L t) lo hi v) l K:=by
 obtain ⟨v',h1,h2,h3⟩:=h.ssl hab hb hlo hhi
 rw[h1];exact hK v' h2 h3
end
end Nm
namespace Nm
open Go Go.RowKit
variable {K:NV->NH->Prop} {n:Int} {k:IntKind} {rs l:List NRes} {S:Nat->List NV->Option NV}
section
variable {t:Tm} {m:NH}
theorem wrap_u64 :bm .u64 n=n % 18446744073709551616:=by rw[bC];rfl
theorem E4 {a b:Int}:cP .num .add (.int .u64 (.lit a)) (.int .u64 (.lit b))=some (.int .u64 (.lit ((a+b) % 18446744073709551616))):=by
 refine (iW rfl).trans ?_
 show bH .u64 (bm .u64 (ra a b))=_
 rw[nJ,wrap_u64,aI]
theorem CC {a b:Int}:cP .num .mul (.int .u64 (.lit a)) (.int .u64 (.lit b))=some (.int .u64 (.lit ((a*b) % 18446744073709551616))):=by
 refine (iW rfl).trans ?_
 show bH .u64 (bm .u64 (mZ a b))=_
 rw[e9,wrap_u64,aI]
noncomputable def Ed (k:IntKind) (v:NV):NR:=match v with| .int _ (.lit n)=> .val (.int k (.lit (bm k n)))|_=> .fail
theorem Gk  {x:NOpd}:ae (.toInt k x) t m=oN (ρ t x) (Ed k):=by
 show wV t x (fun v=>match v with| .int _ (.lit n)=>vr (bH k (bm k n))|_=> .fail)=_
 rw[bt]
 congr 1
 funext v
 cases v with
 |int k' x=>cases x with
  |lit n=>show vr (bH k (bm k n))=_;rw[aI];rfl
 |_=>rfl
theorem CF :Ed .u64 (.int k (.lit n))= .val (.int .u64 (.lit (n % 18446744073709551616))):=by show NR.val (.int .u64 (.lit (bm .u64 n)))=_;rw[wrap_u64]
theorem Ej  (h:-9223372036854775808<=n) (h':n<9223372036854775808):Ed .i64 (.int k (.lit n))= .val (.int .i64 (.lit n)):=by show NR.val (.int .i64 (.lit (bm .i64 n)))=_;rw[wrap_small h h']
noncomputable def AB (v:NV):NR:=match v with| .ptr i o=> .val (.ptr i o)| .fn f c=> .val (.fn f c)| .yld l=> .val (.yld l)|_=> .fail
theorem CJ {x:NOpd}:ae (.nilCheck x) t m=oN (ρ t x) AB:=by
 show wV t x _=_
 rw[bt]
 cases ρ t x with
 |none=>rfl
 |some v=>cases v<;>rfl
theorem yN {i:D4} {o:Nat}:AB (.ptr i o)= .val (.ptr i o):=_root_.id rfl
noncomputable def rR (x:NR) (K:NV->Prop):Prop:=match x with| .val v=>K v|_=>False
noncomputable def mC (t:Tm) (m:NH):List NRes->(List NV->Prop)->Prop
 | [],K=>K []
 | .tmp k::l,K=>rK (NT.get k t) fun v=>mC t m l fun vs=>K (v::vs)
 | .cell1 k::l,K=>rR (ae (.load1 (.tmp k)) t m) fun v=>mC t m l fun vs=>K (v::vs)
 | .cellN k n::l,K=>rR (ae (.loadN n (.tmp k)) t m) fun v=>mC t m l fun vs=>K (v::vs)
theorem vO:∀(rs:List NRes) (K:List NV->Prop) (G:List NV->CR),mC t m rs K->∃l,bJ m t rs .fail G=G l/\K l:=by
 intro rs
 induction rs with
 |nil=>intro K G h;exact ⟨[],rfl,h⟩
 |cons r rs ih=>
  intro K G h
  cases r with
  |tmp k=>
   cases hv:NT.get k t with
   |none=>unfold mC at h;rw[hv] at h;exact h.elim
   |some v=>
    unfold mC at h;rw[hv] at h
    obtain ⟨l,h1,h2⟩:=ih (fun vs=>K (v::vs)) (fun l=>G (v::l)) h
    refine ⟨v::l, ?_,h2⟩
    show (match (match NT.get k t with|some v=>NR.val v|none=> .fail) with| .val v=>bJ m t rs .fail (fun l=>G (v::l))|_=> .fail)=_
    rw[hv];exact h1
  |cell1 k=>
   cases hv:ae (.load1 (.tmp k)) t m with
   |val v=>
    unfold mC at h;rw[hv] at h
    obtain ⟨l,h1,h2⟩:=ih (fun vs=>K (v::vs)) (fun l=>G (v::l)) h
    refine ⟨v::l, ?_,h2⟩
    change d8 (.tmp k) t m= .val v at hv
    show (match d8 (.tmp k) t m with| .val v=>bJ m t rs .fail (fun l=>G (v::l))|_=> .fail)=_
    rw[hv];exact h1
   |_=>unfold mC at h;rw[hv] at h;exact h.elim
  |cellN k n=>
   cases hv:ae (.loadN n (.tmp k)) t m with
   |val v=>
    unfold mC at h;rw[hv] at h
    obtain ⟨l,h1,h2⟩:=ih (fun vs=>K (v::vs)) (fun l=>G (v::l)) h
    refine ⟨v::l, ?_,h2⟩
    change ee n (.tmp k) t m= .val v at hv
    show (match ee n (.tmp k) t m with| .val v=>bJ m t rs .fail (fun l=>G (v::l))|_=> .fail)=_
    rw[hv];exact h1
   |_=>unfold mC at h;rw[hv] at h;exact h.elim
def yR (rs:List NRes) (K:NV->NH->Prop) (o:Out) (d:Dyn):Prop:=(o= .norm∨o= .ret)/\d.dfs= []/\mC d.t d.h rs fun l=>K (fh l) d.h
theorem kI  {o:Out} {d:Dyn} (h:yR rs K o d):tv rs K o d:=by
 obtain ⟨h1,h2,h3⟩:=h
 obtain ⟨l,h4,h5⟩:=vO rs _ (fun l=> .val (fh l) d.ctx d.h) h3
 exact ⟨h1,h2,fh l,h4,h5⟩
theorem kR  {ctx:Option NV}:yR rs K .ret ⟨t, [],ctx,m⟩=mC t m rs (fun l=>K (fh l) m):=propext ⟨fun h=>h.2.2,fun h=>⟨.inr rfl,rfl,h⟩⟩
theorem zn  {ctx:Option NV}:yR rs K .norm ⟨t, [],ctx,m⟩=mC t m rs (fun l=>K (fh l) m):=propext ⟨fun h=>h.2.2,fun h=>⟨.inl rfl,rfl,h⟩⟩
theorem F8 {K:List NV->Prop}:mC t m [] K=K []:=_root_.id rfl
theorem GQ {K:List NV->Prop} {k:D4}:mC t m (.tmp k::l) K=rK (NT.get k t) fun v=>mC t m l fun vs=>K (v::vs):=_root_.id rfl
theorem Hc {K:List NV->Prop} {k:D4}:mC t m (.cell1 k::l) K=rR (ae (.load1 (.tmp k)) t m) fun v=>mC t m l fun vs=>K (v::vs):=_root_.id rfl
theorem Hj {K:List NV->Prop} {k:D4} {n:Nat}:mC t m (.cellN k n::l) K=rR (ae (.loadN n (.tmp k)) t m) fun v=>mC t m l fun vs=>K (v::vs):=_root_.id rfl
theorem IB {v:NV} {K:NV->Prop}:rR (.val v) K=K v:=_root_.id rfl
theorem yD {v:NV}:fh [v]=v:=_root_.id rfl
theorem yw {a b:NV} {l:List NV}:fh (a::b::l)= .tup (a::b::l):=_root_.id rfl
theorem WF.of_wpG {P:Program} {f:Nat} {args:List NV} {nf:NFun} (hs:∀l,S f l=none) (hf:aj P f=some (.code nf)) {L:List (D4×NV)} (hL:cZ args 0 .leaf=aw L .leaf)
 (h:wp P S none nf.body ⟨aw L .leaf, [],none,hp [] 0 m⟩ (yR nf.results K)):WF P S f args m K:=by
 rw[an] at h
 obtain ⟨o,d,h1,h2⟩:=aT _ _ _ h
 obtain ⟨ho,hd,v,hv,hK⟩:=kI h2
 rw[←hL] at h1
 exact ⟨v,d.ctx,d.h,Call.of_run hs hf ho h1 hd hv (by simp),hK⟩
theorem lN.ext {P:Program} {f:Nat} {args:List NV} {e:Ext} {v:NV} (hs:S f args=none) (hf:aj P f=some (.ext e)) (hv:jl e args=some v):lN P S f args m v m:=by
 refine ⟨none,by simp,0, ?_⟩
 unfold bD
 rw[hs]
 dsimp only
 rw[hf]
 dsimp only
 rw[hv]
end
end Nm
namespace Nm
open Go Go.RowKit
section
variable {t:Tm} {m:NH}
theorem yU:ae .mkMap t m= .mem (.map m.next) (m.add (.map [])):=NH.new_eq m (.map []) (fun id h=>NR.mem (.map id) h)
end
end Nm
namespace Nm
open Go Go.RowKit
variable {v:NV} {m:NH}
theorem CY  {id:D4}:(hp [] 0 m).get id=m.get id:=by rw[an]
def iU:Jump->Out
 | .none=> .norm
 | .ret=> .ret
 | .exit i=> .exit i
section
variable {P:Program} {S:Nat->List NV->Option NV}
theorem W.rangeJ {cap:List NV} {fx:NOpd} {ps:List D4} {a b:NC} {t:Tm} {dfs:List Dfr} {ctx:Option NV} {Q:Out->Dyn->Prop} {m':NH} {f:Nat}
 (hf:ρ t fx=some (.fn f cap)) (hc:lN P S f (.yld (na m 1)::cap) (hp [(.n 1,.loop 0 .none t ps a b),(.n 0,.defd true)] 2 m) v m')
 {st:Nat} {p:Jump} {tm:NT NV} {ps':List D4} {a' b':NC} (hl:m'.get (na m 1)=some (.loop st p tm ps' a' b')) (hst:st≠1) (hQ:Q (iU p) ⟨t,.mark (na m 0)::dfs,ctx,hp [(.o (na m 1),.loop 3 p tm ps' a' b')] 0 m'⟩) (ho:aN m' (na m 1)):
 W P S none (.rangeFunc fx ps a b) ⟨t,dfs,ctx,m⟩ Q:=by
 have e1:(m.add (.defd true)).next=na m 1:=by rw[←vB];rfl
 have e0:m.next=na m 0:=(sm m).symm
 have e2:(m.add (.defd true)).add (.loop 0 .none t ps a b)=hp [(.n 1,.loop 0 .none t ps a b),(.n 0,.defd true)] 2 m:=by rw[←vB m (.defd true),wP]
 rw[←pN ho,an] at hQ
 rw[←e1] at hQ hl hc
 rw[←e2] at hc
 rw[←e0] at hQ
 obtain ⟨c,hc⟩:=hc
 refine ⟨_,_,dz.range hf hc ?_,hQ⟩
 unfold dp
 rw[hl]
 dsimp only
 rw[show Nat.beq st 1=false from by cases h:Nat.beq st 1 with|false=>rfl|true=>exact I5 (Jc h) hst,cond_false,NH.set_eq]
 cases p<;>rfl
end
theorem ql {e bytes:Nat} {m':NH} {x v':NV} (h:pA e bytes m v x= .mem v' m'):∀i∈ids v',i∈ids v∨¬aN m i:=by
 have hn:¬aN m m.next:=fun q=>Nat.lt_irrefl _ q
 have new:∀{a b c d:Nat},∀i∈ids (.slc m.next a b c d),i∈ids v∨¬aN m i:=by
  intro a b c d i hi
  rcases List.mem_cons.mp hi with rfl|hi
  ·exact Or.inr hn
  ·exact I5 hi (by simp)
 have key:∀(k:Nat) (nw:List NV),cW e bytes m v k nw= .mem v' m'->∀i∈ids v',i∈ids v∨¬aN m i:=by
  intro k nw h
  cases v with
  |nils=>
   cases k with
   |zero=>cases h
   |succ k=>
    obtain ⟨-,h⟩:=ay (show cond (room (k+1) bytes) (m.new (.cells true nw) fun id h=>NR.mem (.slc id 0 (k+1) e (k+1)) h) .fail=_ from h) (by simp)
    rw[NH.new_eq] at h;cases h;exact new
  |slc id off len e' kc=>
   cases k with
   |zero=>
    obtain ⟨-,h⟩:=ay (show cond (Nat.beq e' e) (NR.val (.slc id off len e' kc)) .fail=_ from h) (by simp)
    cases h
   |succ k=>
    obtain ⟨-,h⟩:=ay (show cond (Nat.beq e' e) (cE m id fun c=>ak (Nat.add len (k+1)) fun n=>cond (Nat.ble n kc)
     (aC (bW nw (Nat.add off (Nat.mul len e)) c) fun c=>m.set id (.cells true c) fun h=>NR.mem (.slc id off n e kc) h)
     (aC (cV off c) fun c=>aC (dY (Nat.mul len e) c) fun old=>cond (room n bytes)
      (eX old nw fun l=>m.set id .dead fun h=>h.new (.cells true l) fun id h=>NR.mem (.slc id 0 n e n) h) .fail)) .fail=_ from h) (by simp)
    obtain ⟨c,-,h⟩:=cO h (by simp)
    rw[ab] at h
    cases hb:Nat.ble (Nat.add len (k+1)) kc with
    |true=>
     rw[hb] at h
     obtain ⟨c',-,h⟩:=ax h (by simp)
     rw[NH.set_eq] at h
     cases h
     exact fun i hi=>Or.inl hi
    |false=>
     rw[hb] at h
     obtain ⟨c',-,h⟩:=ax h (by simp)
     obtain ⟨c'',-,h⟩:=ax h (by simp)
     obtain ⟨-,h⟩:=ay h (by simp)
     rw[di,NH.set_eq,NH.new_eq] at h
     cases h
     exact new
  |_=>cases h
 unfold pA at h
 cases x with
 |nils=>exact key 0 [] h
 |slc id off len esz kc=>
  obtain ⟨-,h⟩:=ay (show cond (Nat.beq esz e) (bh m id (fun c=>aC (dD c off (Nat.mul len e)) fun l=>cW e bytes m v len l)) .fail=_ from h) (by simp)
  unfold bh at h
  split at h
  ·obtain ⟨l,-,h⟩:=ax h (by simp)
   exact key _ _ h
  ·cases h
 |_=>cases h
theorem bG.app2  {B:NH} {e:Nat} {C:List (List NV)} {x:D4} {w:Bool} {cs:List NV} {kc bytes:Nat} (hv:bG B m v e C) (hx:m.get x=some (.cells w cs)) (hox:aN m x) (hl:cs.length=e) (hB:∀id,aN B id->aN m id)
 (hr:(C.length+1)*bytes<=1099511627776) (hr':C.length+1<=1099511627776):∃v' m',pA e bytes m v (.slc x 0 1 e kc)= .mem v' m'/\bG B m' v' e (C++ [cs])/\Chg (ids v) m m'/\∀i∈ids v',i∈ids v∨¬aN m i:=by
 obtain ⟨v',m',h1,h2,h3⟩:=hv.app1 (bytes:=bytes) (kc:=kc) hx hox hl hB hr hr'
 exact ⟨v',m',h1,h2,h3,ql h1⟩
section
variable {P:Program} {S:Nat->List NV->Option NV} {dst:D4} {L:List (D4×NV)} {t:Tm} {dfs:List Dfr} {ctx:Option NV} {l:List NOper} {K:Dyn->Prop} {B m:NH} {v:NV} {e:Nat} {C:List (List NV)} {x:D4} {w:Bool} {cs:List NV} {kc bytes:Nat}
end
section
variable {P:Program} {S:Nat->List NV->Option NV} {f:Nat} {args:List NV} {m:NH} {K:NV->NH->Prop}
end
section
variable {P:Program} {S:Nat->List NV->Option NV} {r:Option D4} {a b:NC} {d:Dyn} {Q:Out->Dyn->Prop}
theorem Iu {c:NC} (Φ:Dyn->Prop) (h1:∀R:Dyn->Prop,(∀d',Φ d'->R d')->wp P S r a d (fN (Fo P S r b (fN R Q)) Q)) (h2:∀d',Φ d'->wp P S r c d' Q):wp P S r (.seq a (.seq b c)) d Q:=h1 _ h2
end
section
variable {P:Program} {S:Nat->List NV->Option NV} {q:D4} {args:List NV} {m:NH} {K:NV->NH->Prop}
end
section
variable {P:Program} {S:Nat->List NV->Option NV} {f:Nat} {q:D4} {args:List NV} {m:NH}
theorem WF.ex1  {Φ:NH->Prop} (h:∀K:NV->NH->Prop,(∀m',Φ m'->K v m')->WF P S f args m K):∃m',lN P S f args m v m'/\Φ m':=by
 obtain ⟨w,m',h1,rfl,h2⟩:=WF.ret (h (fun w m'=>w=v/\Φ m') fun m' h=>⟨rfl,h⟩)
 exact ⟨m',h1,h2⟩
theorem WY.ex1  {Φ:NH->Prop} (h:∀K:NV->NH->Prop,(∀m',Φ m'->K v m')->WY P S q args m K):∃m',lj P S q args m v m'/\Φ m':=by
 obtain ⟨w,m',h1,rfl,h2⟩:=WY.ret (h (fun w m'=>w=v/\Φ m') fun m' h=>⟨rfl,h⟩)
 exact ⟨m',h1,h2⟩
end
end Nm
