/- A machine that runs the given program with memory and order of evaluation taken apart from the model's, the proof that what it answers is what the model answers, and rules to reason of its runs. Part 3 of 4. -/
import Derived.Below
import Derived.Test.YtbmkdfoffpeabaaGreatPsmB
set_option linter.unusedVariables false
namespace Nm
open Go
section
variable {P:Program} {S:Nat->List NV->Option NV}
theorem tB (hM:P.follows .mixedOrders=true) {n:Nat} (hO:fE P S n) (hC:CallsOK P S (ev P S n)):fE P S (n+1):=by
 intro c nc fn bl la hc hk rnd d o d' hrun st hst B b k ι a cs w hfn hT s hsz
 have self:∀{x:Code} {nx:NC} {bl la:List Nat},bR P x=some nx->CheckCode.code P fn bl la x= .ok ()->∀{d1:Dyn} {o1:Out} {d2:Dyn},ev P S n rnd nx d1= .mk o1 d2->∀{st:Item},wk st x->
  ∀{k:List Item} {ι:aO} {a:Act} {cs:List Frame} {w:World},TR ι d1.t a.tmps->Sd P ι B rnd d1.dfs d1.ctx d1.h b a.defers cs w->fn.ntmps<=a.tmps.size->
  cB P B rnd b k (lone (b.atR a (st::k)) cs w) ι d1.ctx d1.h a.tmps.size cs w o1 d2:=
  fun hx hkx _ _ _ hr _ hs _ _ _ _ _ hT s hsz=>hO _ _ fn _ _ hx hkx rnd _ _ _ hr _ hs B b _ _ _ _ _ hfn hT s hsz
 have hcode:(∀x,c≠.loop x)->st= .code c:=fun h=>by
  rcases hst with h1|⟨x,h1,_⟩
  ·exact h1
  ·exact IL h1 (h x)
 cases c with
 |skip=>
  rw[hcode (by simp)]
  cases hc
  have hrun':(Res.mk .norm d)= .mk o d':=hrun
  cases hrun'
  exact ⟨ι,a,cs,w,.one stepR_skip,hT,Mv.refl s,rfl⟩
 |region id ops draw=>
  rw[hcode (by simp)]
  cases draw with
  |false=>
   have hc':(match cM P ops ops.toList 0 [] with|some l=>some (NC.reg l)|none=>none)=some nc:=hc
   split at hc'
   ·rename_i l hl
    cases hc'
    have hrun':cm P S (ev P S n) rnd l d= .mk o d':=hrun
    obtain ⟨t,dfs,ctx,h⟩:=d
    refine cB.of_steps (.one stepR_region) ?_
    have:=ut (k:=k) hC (ju hk) ops.toList 0 l [] (fun j=>by simp) hl t dfs ctx h o d' hrun' ι a cs w hT s hsz
    rw[List.range_eq_range']
    simpa using this
   ·cases hc'
  |true=>
   obtain ⟨l,rfl,hL⟩:=DW hc
   have hrun':sY P S (ev P S n) l rnd d= .mk o d':=hrun
   have hs':Sd P ι B rnd d.dfs d.ctx d.h b a.defers cs w.drew:=⟨s.df,s.cx,s.rel.drew,s.base,s.rn⟩
   refine cB.undrew (cB.of_steps (.one stepR_region_draw) ?_)
   have hsch:Region.schedule (P.follows .mixedOrders) ops (w.tape w.drawn (.order b.fn id))=Region.linearise .any ops (w.tape w.drawn (.order b.fn id)):=by unfold Region.schedule;rw[hM];rfl
   rw[hsch]
   exact pD hC (ju hk) hL hsz hrun' hs' hT rfl _
 |seq x y=>
  rw[hcode (by simp)]
  have hc':(match bR P x with|some a=>(match bR P y with|some b=>some (NC.seq a b)|none=>none)|none=>none)=some nc:=hc
  split at hc'
  ·rename_i nx hx
   split at hc'
   ·rename_i ny hy
    cases hc'
    obtain ⟨k1,k2⟩:=wP hk
    have hrun':(match ev P S n rnd nx d with
     | .mk o d=>(match o with
      | .norm=>ev P S n rnd ny d
      |o=> .mk o d)
     | .fail=> .fail)=Res.mk o d':=qH.symm.trans hrun
    refine cB.of_steps (.one stepR_seq) ?_
    cases he:ev P S n rnd nx d with
    |fail=>rw[he] at hrun';cases hrun'
    |mk o1 d1=>
     rw[he] at hrun'
     have g1:=self hx k1 he (.inl rfl) (k:= .code y::k) hT s hsz
     cases o1 with
     |norm=>
      exact g1.then fun ι' a' cs' w' hT' s' hz=>by
       have:=self hy k2 hrun' (.inl rfl) (k:=k) hT' s' (by rw[hz];exact hsz)
       rw[hz] at this;exact this
     |ret=>cases hrun';exact g1.out (by simp) (by simp)
     |exit id=>cases hrun';exact g1.out (fun _ _=>rfl) (by simp)
     |pan v=>cases hrun';exact g1.out (by simp) (by simp)
   ·cases hc'
  ·cases hc'
 |cond e x y=>
  rw[hcode (by simp)]
  have hc':(match au e with
   |some c=>(match bR P x with|some a=>(match bR P y with|some b=>some (NC.cond c a b)|none=>none)|none=>none)
   |none=>none)=some nc:=hc
  split at hc'
  ·rename_i ne hne
   split at hc'
   ·rename_i nx hx
    split at hc'
    ·rename_i ny hy
     cases hc'
     obtain ⟨k1,k2⟩:=ug hk
     have hrun':(match ρ d.t ne with
      |some (.bool c)=>Bool.rec (ev P S n rnd ny d) (ev P S n rnd nx d) c
      |_=> .fail)=Res.mk o d':=rU.symm.trans hrun
     cases hv:ρ d.t ne with
     |none=>rw[hv] at hrun';cases hrun'
     |some v=>
      rw[hv] at hrun'
      cases v with
      |bool q=>
       have hq:=jr hT e ne hne _ hv
       have hev:a.eval e= .bool q:=by generalize a.eval e=z at hq;cases hq;rfl
       refine cB.of_steps (.one (stepR_cond hev)) ?_
       cases q with
       |true=>exact self hx k1 hrun' (.inl rfl) hT s hsz
       |false=>exact self hy k2 hrun' (.inl rfl) hT s hsz
      |_=>cases hrun'
    ·cases hc'
   ·cases hc'
  ·cases hc'
 |block id x=>
  rw[hcode (by simp)]
  have hc':(match bR P x with|some a=>an id fun id=>some (NC.block id a)|none=>none)=some nc:=hc
  split at hc'
  ·rename_i nx hx
   rw[aa] at hc'
   cases hc'
   have k1:=qX hk
   have hrun':(match ev P S n rnd nx d with
    | .mk o d=>(match o with
     | .exit i=>cond (Nat.beq i id) (.mk .norm d) (.mk (.exit i) d)
     |o=> .mk o d)
    | .fail=> .fail)=Res.mk o d':=oT.symm.trans hrun
   refine cB.of_steps (.one stepR_block) ?_
   cases he:ev P S n rnd nx d with
   |fail=>rw[he] at hrun';cases hrun'
   |mk o1 d1=>
    rw[he] at hrun'
    have g1:=self hx k1 he (.inl rfl) (k:= .inBlock id::k) hT s hsz
    cases o1 with
    |norm=>
     cases hrun'
     obtain ⟨ι1,a1,cs1,w1,q1,q2⟩:=g1
     exact ⟨ι1,a1,cs1,w1,Steps.trans q1 (.one stepR_inBlock),q2⟩
    |ret=>cases hrun';exact g1.out (by simp) (by simp)
    |exit i=>
     dsimp only at hrun'
     cases hb:Nat.beq i id with
     |true=>
      rw[hb] at hrun'
      cases hrun'
      have:=IT hb
      subst this
      obtain ⟨ι1,a1,cs1,w1,⟨k0,q0,q1⟩,q2⟩:=g1
      refine ⟨ι1,a1,cs1,w1,Steps.trans q1 (.one (stepR_exit ?_)),q2⟩
      rw[q0];simp[exitTo]
     |false=>
      rw[hb] at hrun'
      cases hrun'
      have hne:=Nat.ne_of_beq_eq_false hb
      refine g1.out (fun i' hi'=> ?_) (by simp)
      cases hi'
      have:(id==i)=false:=by simpa using fun e=>hne e.symm
      simp[exitTo,this]
    |pan v=>cases hrun';exact g1.out (by simp) (by simp)
  ·cases hc'
 |loop x=>
  have hc':(match bR P x with|some a=>some (NC.loop a)|none=>none)=some nc:=hc
  split at hc'
  ·rename_i nx hx
   cases hc'
   have k1:=uq hk
   have hrun':(match ev P S n rnd nx d with
    | .mk o d=>(match o with
     | .norm=>ev P S n rnd (.loop nx) d
     |o=> .mk o d)
    | .fail=> .fail)=Res.mk o d':=nd.symm.trans hrun
   have h1:Steps P (lone (b.atR a (st::k)) cs w) (lone (b.atR a (.code x:: .inLoop x::k)) cs w):=by
    rcases hst with rfl|⟨y,hy,rfl⟩
    ·exact .one stepR_loop
    ·cases hy;exact .one stepR_inLoop
   refine cB.of_steps h1 ?_
   cases he:ev P S n rnd nx d with
   |fail=>rw[he] at hrun';cases hrun'
   |mk o1 d1=>
    rw[he] at hrun'
    have g1:=self hx k1 he (.inl rfl) (k:= .inLoop x::k) hT s hsz
    cases o1 with
    |norm=>
     exact g1.then fun ι' a' cs' w' hT' s' hz=>by
      have:=self hc hk hrun' (.inr ⟨x,rfl,rfl⟩) (k:=k) hT' s' (by rw[hz];exact hsz)
      rw[hz] at this;exact this
    |ret=>cases hrun';exact g1.out (by simp) (by simp)
    |exit id=>cases hrun';exact g1.out (fun _ _=>rfl) (by simp)
    |pan v=>cases hrun';exact g1.out (by simp) (by simp)
  ·cases hc'
 |exit id=>
  rw[hcode (by simp)]
  have hc':(an id fun id=>some (NC.exit id))=some nc:=hc
  rw[aa] at hc'
  cases hc'
  have hrun':Res.mk (.exit id) d= .mk o d':=hrun
  cases hrun'
  exact ⟨ι,a,cs,w,⟨k,rfl,Steps.refl P _⟩,hT,Mv.refl s,rfl⟩
 |ret=>
  rw[hcode (by simp)]
  cases hc
  have hrun':Res.mk .ret d= .mk o d':=hrun
  cases hrun'
  exact ⟨ι,a,cs,w,⟨k,Steps.refl P _⟩,hT,Mv.refl s,rfl⟩
 |rangeFunc g ps x y=>
  rw[hcode (by simp)]
  have hc':(match au g,oy ps.toList with
   |some f,some ps=>(match bR P x with|some a=>(match bR P y with|some b=>some (NC.rangeFunc f ps a b)|none=>none)|none=>none)
   |_,_=>none)=some nc:=hc
  split at hc'
  ·rename_i nf nps hf hps
   split at hc'
   ·rename_i nx hx
    split at hc'
    ·rename_i ny hy
     cases hc'
     obtain ⟨k1,k2,k3⟩:=pS hk
     have hnps:=vN hps
     obtain ⟨t,dfs,ctx,h⟩:=d
     have hrun':(match ρ t nf with
      |some (.fn f cap)=>(match (generalizing:=false) rnd with
       |none=>h.new (.defd true) fun m h=>bL P S (ev P S n) f cap nps nx ny t (.mark m::dfs) ctx h
       |some l=>(match h.get l with
        |some (.loop ..)=>bL P S (ev P S n) f cap nps nx ny t dfs ctx h
        |_=> .fail))
      |_=> .fail)=Res.mk o d':=hrun
     cases hv:ρ t nf with
     |none=>rw[hv] at hrun';cases hrun'
     |some v=>
      rw[hv] at hrun'
      cases v with
      |fn f cap=>
       have hq:=jr hT g nf hf _ hv
       obtain ⟨cap',hcap,hg⟩:∃cap',VRL ι cap cap'/\a.eval g= .func (.func f) #[] cap'.toArray:=by
        generalize a.eval g=z at hq
        cases hq with
        |fn _ _ cap' h=>exact ⟨cap',h,rfl⟩
       cases rnd with
       |none=>
        have hro:b.roundOf=none:=s.rn
        have hrun2:(h.new (.defd true) fun m h=>bL P S (ev P S n) f cap nps nx ny t (.mark m::dfs) ctx h)=Res.mk o d':=hrun'
        rw[NH.new_eq] at hrun2
        obtain ⟨ι1,i1,i2,i3,i4⟩:=s.rel.alloc s.base (.defd true) (.deferred (some [])) ⟨w.heap.size,0,0⟩ rfl (fun ι' _=>c7 w _)
        have henter:=run_enterLoop_outer (P:=P) (w:=w) b.fn a.tmps ps x y
        have hs1:Sd P ι1 B none (.mark h.next::dfs) ctx (h.add (.defd true)) b ([{target:= .collected w.heap.size,args:=#[]}]++a.defers) cs (w.alloc (.deferred (some []))):=
         ⟨⟨⟨_,i1,rfl⟩,s.df.mono i2⟩,s.cx.mono i2,i3,Nat.le_trans s.base i4.size,s.rn⟩
        have g:=gp (k:=k) hC hfn hx hy k2 k3 hnps k1 hrun2 (w0:=w) (mark:= [{target:= .collected w.heap.size,args:=#[]}]) (r:=w.heap.size) (hT.mono i2) hs1 hsz (hcap.mono i2) hg (by rw[hro,henter];simp)
        obtain ⟨ι2,a2,cs2,w2,q1,q2,q3,q4⟩:=g
        exact ⟨ι2,a2,cs2,w2,q1,q2,⟨q3.sd,i4.trans q3.gr,q3.ca⟩,q4⟩
       |some l0=>
        obtain ⟨p0,hp0,hro⟩:=s.rn
        have hrun2:(match h.get l0 with
         |some (.loop ..)=>bL P S (ev P S n) f cap nps nx ny t dfs ctx h
         |_=> .fail)=Res.mk o d':=hrun'
        obtain ⟨ob,ho1,ho2⟩:=s.rel.obj _ _ hp0
        rw[ho1] at hrun2
        cases ob with
        |loop st pd tm ps2 a2 b2=>
         obtain ⟨L3,l1,_⟩:=ho2
         have henter:(Instr.enterLoop b.fn a.tmps ps x y (some p0.b)).run P w= .ok (w.heap.size, []) (w.alloc (.loop {state:= .ready,pending:=none,fn:=b.fn,tmps:=a.tmps,params:=ps,assign:=x,body:=y,defers:=L3.defers})):=by
          unfold Instr.enterLoop
          simp only[Sem.run_bind,run_getLoop l1,run_newObj_alloc,Result.andThen,Sem.run_pure]
         exact gp (k:=k) hC hfn hx hy k2 k3 hnps k1 hrun2 (w0:=w) (mark:= []) (r:=L3.defers) hT s hsz hcap hg (by rw[hro,henter])
        |_=>cases hrun2
      |_=>cases hrun'
    ·cases hc'
   ·cases hc'
  ·cases hc'
 |_=>cases hc
end
end Nm
namespace Nm
open Go
variable {ι:aO} {m:FrameMode} {w:World} {tmps:Array Value}
def sK (ι:aO):Option NV->FrameMode->Prop
 |none,m=>m= .returning
 |some v,m=>∃v',m= .panicking [{v:=v',recovered:=false}]/\VR ι v v'
theorem sK.mono  {ι':aO} (hι:ι.le ι') {p:Option NV} (h:sK ι p m):sK ι' p m:=by
 cases p with
 |none=>exact h
 |some v=>obtain ⟨v',h1,h2⟩:=h;exact ⟨v',h1,h2.mono hι⟩
theorem sK.ne_run  {p:Option NV} (h:sK ι p m):m≠.run:=by
 cases p with
 |none=>rw[show m= .returning from h];simp
 |some v=>obtain ⟨v',h1,h2⟩:=h;rw[h1];simp
theorem sK.settle  {p:Option NV} (h:sK ι p m):Go.settle m=m:=by
 cases p with
 |none=>rw[show m= .returning from h];rfl
 |some v=>obtain ⟨v',h1,h2⟩:=h;rw[h1];rfl
theorem sK.ctx  {p:Option NV} {c:Frame} {cs:List Frame} (h:sK ι p c.mode):p6 ι .deferred (c::cs) p:=by
 cases p with
 |none=>
  intro b hb
  have h':c.mode= .returning:=h
  unfold tryRecover
  rw[hb]
  simp only[h']
 |some v=>
  obtain ⟨v',h1,h2⟩:=h
  exact ⟨rfl,c,cs,v', [],rfl,h1,h2⟩
section
variable {P:Program} {S:Nat->List NV->Option NV} {B:Nat}
def zt (tmps:Array Value):ResultVar->Sem Value
 | .tmp t=>pure (tmps.getD t undef)
 | .cell a t=>do loadVar t (←asAddr (tmps.getD a undef))
theorem qI (fn:Func) (tmps:Array Value):results fn tmps=(do let vs ←fn.results.mapM (zt tmps);pure (if h:vs.size=1 then vs[0] else .tuple vs)):=by
 unfold results
 congr 1
noncomputable def mN (h:NH) (t:Tm):NRes->NR
 | .tmp k=>(match NT.get k t with|some v=>NR.val v|none=> .fail)
 | .cell1 k=>eh (.tmp k) t h
 | .cellN k n=>ed n (.tmp k) t h
theorem nD (h:NH) (t:Tm) (r:NRes) (l:List NRes) (F:CR) (K:List NV->CR):
 bK h t (r::l) F K=(match mN h t r with| .val v=>bK h t l F fun l=>K (v::l)|_=>F):=by
 cases r<;>rfl
theorem j5  {T:TypeId} {v:Value} {u:Value} (h:aB ((Instr.loadAt T v).run P w)= .ok (.value u) w):(do loadVar T (←asAddr v):Sem Value).run P w= .ok u w:=by
 cases v with
 |pointer a=>
  cases a with
  |none=>simp[aB,Instr.loadAt,Instr.sureAddr,stuck,Sem.run_bind,Sem.run,Result.andThen] at h
  |some a=>
   simp only[aB,Instr.loadAt,Instr.sureAddr,asAddr,Sem.run_bind,Sem.run_pure,Result.andThen] at h ⊢
   cases hr:Sem.run P (loadVar T a) w with
   |ok x w1=>rw[hr] at h;cases h;rfl
   |halt x w1=>rw[hr] at h;cases h
 |_=>simp[aB,Instr.loadAt,Instr.sureAddr,stuck,Sem.run_bind,Sem.run,Result.andThen] at h
theorem tR  {h:NH} {t:Tm} (hT:TR ι t tmps) (hR:Rel P ι B h w) {r0:CR} (hr0:r0≠.fail):∀(l:List ResultVar) (nl:List NRes) (K:List NV->CR),cj P l=some nl->bK h t nl .fail K=r0->
 ∃vs vs',K vs=r0/\VRL ι vs vs'/\(l.mapM (zt tmps)).run P w= .ok vs' w:=by
 have ov:∀k:Nat,OV ι t (.tmp (D4.of k)) (tmps.getD k undef):=by
  intro k v hv
  obtain ⟨v',h1,h2⟩:=hT k v hv
  rw[sQ h1];exact h2
 intro l
 induction l with
 |nil=>
  intro nl K hc hk
  cases hc
  exact ⟨[], [],hk,.nil,by simp⟩
 |cons r l ih=>
  intro nl K hc hk
  have step:∀{nr:NRes} {nl':List NRes},cj P l=some nl'->nl=nr::nl'->(∀v,mN h t nr= .val v->∃v',(zt tmps r).run P w= .ok v' w/\VR ι v v')->
   ∃vs vs',K vs=r0/\VRL ι vs vs'/\((r::l).mapM (zt tmps)).run P w= .ok vs' w:=by
   intro nr nl' h1 h2 h3
   subst h2
   rw[nD] at hk
   cases hv:mN h t nr with
   |val v=>
    rw[hv] at hk
    obtain ⟨v',q1,q2⟩:=h3 v hv
    obtain ⟨vs,vs',p1,p2,p3⟩:=ih nl' _ h1 hk
    refine ⟨v::vs,v'::vs',p1,.cons _ _ _ _ q2 p2, ?_⟩
    rw[List.mapM_cons]
    simp only[Sem.run_bind,q1,p3,Result.andThen,Sem.run_pure]
   |_=>rw[hv] at hk;exact IL hk.symm hr0
  cases r with
  |tmp k=>
   have hc':(match cj P l with|some l=>D4.ofNat k fun t=>some (NRes.tmp t::l)|none=>none)=some nl:=by
    have e:cj P (.tmp k::l)=(match ResultVar.tmp k,cj P l with
     | .tmp t,some l=>D4.ofNat t fun t=>some (.tmp t::l)
     | .cell t ty,some l=>(match iB P ty with
      |some none=>D4.ofNat t fun t=>some (.cell1 t::l)
      |some (some n)=>D4.ofNat t fun t=>some (.cellN t n::l)
      |none=>none)
     |_,none=>none):=rfl
    rw[e] at hc
    cases hl:cj P l with
    |none=>rw[hl] at hc;exact hc
    |some l1=>rw[hl] at hc;exact hc
   cases hl:cj P l with
   |none=>rw[hl] at hc';cases hc'
   |some l1=>
    rw[hl] at hc'
    have hc2:(D4.ofNat k fun t=>some (NRes.tmp t::l1))=some nl:=hc'
    rw[D4.ofNat_eq] at hc2
    refine step hl (Option.some.inj hc2).symm fun v hv=> ?_
    have hv':(match NT.get (D4.of k) t with|some v=>NR.val v|none=> .fail)=NR.val v:=hv
    cases hg:NT.get (D4.of k) t with
    |none=>rw[hg] at hv';cases hv'
    |some u=>
     rw[hg] at hv';cases hv'
     exact ⟨_,rfl,ov k _ hg⟩
  |cell k T=>
   have e:cj P (.cell k T::l)=(match ResultVar.cell k T,cj P l with
    | .tmp t,some l=>D4.ofNat t fun t=>some (.tmp t::l)
    | .cell t ty,some l=>(match iB P ty with
     |some none=>D4.ofNat t fun t=>some (.cell1 t::l)
     |some (some n)=>D4.ofNat t fun t=>some (.cellN t n::l)
     |none=>none)
    |_,none=>none):=rfl
   rw[e] at hc
   cases hl:cj P l with
   |none=>rw[hl] at hc;cases hc
   |some l1=>
    rw[hl] at hc
    dsimp only at hc
    cases ha:iB P T with
    |none=>rw[ha] at hc;cases hc
    |some q=>
     rw[ha] at hc
     cases q with
     |none=>
      have hc2:(D4.ofNat k fun t=>some (NRes.cell1 t::l1))=some nl:=hc
      rw[D4.ofNat_eq] at hc2
      refine step hl (Option.some.inj hc2).symm fun v hv=> ?_
      have:=jt (B:=B) (h:=h) (w:=w) ha (ov k) hR
      rw[show eh (.tmp (D4.of k)) t h= .val v from hv] at this
      obtain ⟨v',h1,h2⟩:=this
      exact ⟨v',j5 h1,h2⟩
     |some m=>
      have hc2:(D4.ofNat k fun t=>some (NRes.cellN t m::l1))=some nl:=hc
      rw[D4.ofNat_eq] at hc2
      refine step hl (Option.some.inj hc2).symm fun v hv=> ?_
      have:=js (B:=B) (h:=h) (w:=w) ha (ov k) hR
      rw[show ed m (.tmp (D4.of k)) t h= .val v from hv] at this
      obtain ⟨v',h1,h2⟩:=this
      exact ⟨v',j5 h1,h2⟩
theorem lO  {h:NH} {t:Tm} (hT:TR ι t tmps) (hR:Rel P ι B h w) {fn:Func} {nl:List NRes} (hc:cj P fn.results.toList=some nl) {ctx:Option NV} {r0:CR} (hr0:r0≠.fail)
 (h0:bK h t nl .fail (fun l=> .val (fh l) ctx h)=r0):∃v v',r0= .val v ctx h/\VR ι v v'/\(results fn tmps).run P w= .ok v' w:=by
 obtain ⟨vs,vs',h1,h2,h3⟩:=tR hT hR hr0 _ _ _ hc h0
 refine ⟨fh vs,if h:vs'.toArray.size=1 then vs'.toArray[0] else .tuple vs'.toArray,h1.symm, ?_, ?_⟩
 ·cases h2 with
  |nil=>exact .tup [] [] .nil
  |cons v v' l l' hv hl=>
   cases hl with
   |nil=>exact hv
   |cons u u' l l' hu hl=>
    have:¬(v'::u'::l').toArray.size=1:=by simp
    rw[dif_neg this]
    exact .tup _ _ (.cons _ _ _ _ hv (.cons _ _ _ _ hu hl))
 ·rw[qI,Array.mapM_eq_mapM_toList]
  simp only[Sem.run_bind,map_eq_pure_bind,h3,Result.andThen,Sem.run_pure]
end
end Nm
namespace Nm
open Go
section
variable {P:Program} {S:Nat->List NV->Option NV} {B:Nat}
theorem gb {f:Nat} {nf:NFun} (h:ai P f=some (.code nf)):∃fn c,P.funcs[f]? =some fn/\fn.body=some c/\fn.name≠ "runtime.NumGoroutine" /\bR P c=some nf.body/\cj P fn.results.toList=some nf.results:=by
 unfold ai at h
 split at h
 ·rename_i fn hfn
  cases hn:(fn.name== "runtime.NumGoroutine") with
  |true=>rw[hn] at h;cases h
  |false=>
   rw[hn] at h
   simp only[cond_false] at h
   split at h
   ·rename_i c hb
    split at h
    ·rename_i nb nr h1 h2
     rw[aa] at h
     cases h
     exact ⟨fn,c,hfn,hb,by simpa using hn,h1,h2⟩
    ·cases h
   ·split at h<;>cases h
 ·cases h
theorem iW {f:Nat} {fn:Func} {c:Code} (hf:P.funcs[f]? =some fn) (hb:fn.body=some c) (hn:fn.name≠ "runtime.NumGoroutine") (args:Array Value) (w:World):(callFunc f args).run P w= .ok (.enter f args) w:=by
 simp[callFunc,hf,hb,hn]
noncomputable def cO:List NV->Nat->Tm->Tm
 | [],_,t=>t
 |v::vs,k,t=>cO vs (k+1) (NT.put (D4.of k) v t)
theorem u7 {R:Type} (vs:List NV) (K:Tm->R):wE vs K=K (cO vs 0 .leaf):=by
 have go:∀(vs:List NV) (k:Nat) (t:Tm),(List.rec (motive:=fun _=>D4->Tm->R) (fun _ t=>K t) (fun v _ ih k t=>NT.set k v t fun t=>k.succ fun k=>ih k t) vs (D4.of k) t:R)=K (cO vs k t):=by
  intro vs
  induction vs with
  |nil=>intro k t;rfl
  |cons v vs ih=>
   intro k t
   have e:(List.rec (motive:=fun _=>D4->Tm->R) (fun _ t=>K t) (fun v _ ih k t=>NT.set k v t fun t=>k.succ fun k=>ih k t) (v::vs) (D4.of k) t:R)=
    NT.set (D4.of k) v t fun t=>(D4.of k).succ fun k=>(List.rec (motive:=fun _=>D4->Tm->R) (fun _ t=>K t) (fun v _ ih k t=>NT.set k v t fun t=>k.succ fun k=>ih k t) vs k t:R):=rfl
   rw[e,NT.set_eq,D4.succ_eq]
   exact ih (k+1) _
 exact go vs 0 .leaf
theorem qf:∀(vs:List NV) (k:Nat) (t:Tm) (j:Nat) (v:NV),NT.get (D4.of j) (cO vs k t)=some v->(∃i,j=k+i/\vs[i]? =some v)∨(NT.get (D4.of j) t=some v/\(j<k∨k+vs.length<=j)):=by
 intro vs
 induction vs with
 |nil=>intro k t j v h;exact .inr ⟨h,by simp;omega⟩
 |cons u vs ih=>
  intro k t j v h
  rcases ih (k+1) _ j v h with ⟨i,h1,h2⟩|⟨h1,h2⟩
  ·exact .inl ⟨i+1,by omega,by simpa using h2⟩
  ·by_cases e:j=k
   ·subst e
    rw[NT.get_put_same] at h1
    exact .inl ⟨0,rfl,by simpa using h1⟩
   ·rw[NT.get_put_ne (fun x=>e (D4.of_inj x))] at h1
    exact .inr ⟨h1,by simp;omega⟩
theorem xr {ι:aO} {args:List NV} {args':List Value} (h:VRL ι args args') (n:Nat):TR ι (cO args 0 .leaf) (args'.toArray++Array.replicate n undef):=by
 intro j v hv
 rcases qf args 0 .leaf j v hv with ⟨i,h1,h2⟩|⟨h1,_⟩
 ·obtain ⟨v',h3,h4⟩:=h.get h2
  refine ⟨v', ?_,h4⟩
  have:j=i:=by omega
  subst this
  have hlt:=(List.getElem?_eq_some_iff.1 h3).1
  rw[Array.getElem?_append_left (by simpa using hlt)]
  simpa using h3
 ·rw[NT.get_leaf] at h1;cases h1
def Gn (P:Program) (B:Nat) (ι:aO) (h:NH) (w:World) (fr0:Frame) (kind:CallKind) (ctx:Option NV) (cs:List Frame):CR->Prop
 | .fail=>True
 | .val v ctx' h'=>∃ι' v' w' cs' fr,VR ι' v v'/\Rel P ι' B h' w'/\B<=w'.heap.size/\Grow ι h w ι' h' w'/\kW cs ctx cs' ctx'/\Steps P (lone fr0 cs w) (lone fr cs' w')/\fr.kind=kind/\fr.fn=fr0.fn/\fr.going P w' (.returned v')
 | .pan v ctx' h'=>∃ι' v' w' cs' fr,VR ι' v v'/\Rel P ι' B h' w'/\B<=w'.heap.size/\Grow ι h w ι' h' w'/\kW cs ctx cs' ctx'/\Steps P (lone fr0 cs w) (lone fr cs' w')/\fr.kind=kind/\fr.fn=fr0.fn/\fr.going P w' (.panicked [{v:=v',recovered:=false}])
def zJ (P:Program) (callF:Nat->List NV->Option NV->NH->CR):Prop:=
 ∀(f:Nat) (args:List NV) (p:Option NV) (h:NH),callF f args p h≠.fail->(∃nf,ai P f=some (.code nf))/\
  ∀(B:Nat) (ι:aO) (w:World) (args':List Value) (kind:CallKind) (cs:List Frame),Rel P ι B h w->B<=w.heap.size->VRL ι args args'->p6 ι kind cs p->
   Gn P B ι h w (Frame.enter P f args'.toArray kind) kind p cs (callF f args p h)
theorem jq (callF:Nat->List NV->Option NV->NH->CR) (K:Option NV->NH->CR) (c:Dfr) (l:List Dfr) (p:Option NV) (h:NH):
 unwind callF K (c::l) p h=match c with
  | .call f cap=>(match callF f cap p h with
   | .val _ p h=>unwind callF K l p h
   |_=> .fail)
  | .mark id=>match h.get id with
   |some (.defd true)=>unwind callF K l p (h.put id (.defd false))
   |_=> .fail:=by
 have e:unwind callF K (c::l) p h=match c with
  | .call f cap=>(match callF f cap p h with
   | .val _ p h=>unwind callF K l p h
   |_=> .fail)
  | .mark id=>match h.get id with
   |some (.defd true)=>h.set id (.defd false) fun h=>unwind callF K l p h
   |_=> .fail:=rfl
 rw[e]
 cases c with
 |call f cap=>rfl
 |mark id=>
  dsimp only
  split
  ·exact NH.set_eq _ _ _ _
  ·rfl
theorem nC {callF:Nat->List NV->Option NV->NH->CR} (hF:zJ P callF) {K:Option NV->NH->CR} {r:CR} (hr:r≠.fail):∀(l:List Dfr) (p:Option NV) (h:NH),unwind callF K l p h=r->
 ∀(ι:aO) (w:World) (fr:Frame) (cs:List Frame),DR ι l fr.defers->Rel P ι B h w->B<=w.heap.size->sK ι p fr.mode->
 ∃p' h' ι' w' fr',K p' h'=r/\Rel P ι' B h' w'/\B<=w'.heap.size/\Grow ι h w ι' h' w'/\sK ι' p' fr'.mode/\fr'.defers= []/\fr'.tmps=fr.tmps/\fr'.fn=fr.fn/\fr'.kind=fr.kind/\Steps P (lone fr cs w) (lone fr' cs w'):=by
 intro l
 induction l with
 |nil=>
  intro p h hu ι w fr cs hd hR hB hm
  have hde:fr.defers= []:=by
   cases hds:fr.defers with
   |nil=>rfl
   |cons d ds=>rw[hds] at hd;exact hd.elim
  exact ⟨p,h,ι,w,fr,hu,hR,hB,.refl _ _ _,hm,hde,rfl,rfl,rfl,Steps.refl P _⟩
 |cons c l ih=>
  intro p h hu ι w fr cs hd hR hB hm
  rw[jq] at hu
  cases hds:fr.defers with
  |nil=>rw[hds] at hd;cases c<;>exact hd.elim
  |cons d ds=>
   rw[hds] at hd
   cases c with
   |mark id=>
    obtain ⟨⟨pl,hp,hde⟩,hd'⟩:=hd
    have hu':(match h.get id with
     |some (.defd true)=>unwind callF K l p (h.put id (.defd false))
     |_=> .fail)=r:=hu
    obtain ⟨ob,ho1,ho2⟩:=hR.obj _ _ hp
    rw[ho1] at hu'
    cases ob with
    |defd q=>
     cases q with
     |false=>exact IL hu'.symm hr
     |true=>
      have hob:w.heap[pl.b]? =some (.deferred (some [])):=ho2
      have htake:=run_takeDeferred (P:=P) hob
      have hst:=step_collected (cs:=cs) hm.ne_run hds (by rw[hde]) htake
      have hlt:=hR.lt _ _ hp
      obtain ⟨t1,t2⟩:=hR.turn (w':=w.putObj pl.b (.deferred none)) hp (by rw[ho1];simp) (.defd false) (World.putObj_heap_same hlt) (by simp) rfl rfl rfl (fun q hq=>World.putObj_heap_other hq)
      obtain ⟨p',h',ι',w',fr',q1,q2,q3,q4,q5,q6,q7,q8,q9,q10⟩:=ih p _ hu' ι _ {fr with defers:= []++ds} cs hd' t1 (by simpa using hB) hm
      exact ⟨p',h',ι',w',fr',q1,q2,q3,t2.trans q4,q5,q6,q7,q8,q9,.head hst q10⟩
    |_=>exact IL hu'.symm hr
   |call f cap=>
    obtain ⟨⟨cap',hcap,hde⟩,hd'⟩:=hd
    have hu':(match callF f cap p h with
     | .val _ p h=>unwind callF K l p h
     |_=> .fail)=r:=hu
    cases hcf:callF f cap p h with
    |fail=>rw[hcf] at hu';exact IL hu'.symm hr
    |pan v x h1=>rw[hcf] at hu';exact IL hu'.symm hr
    |val v p1 h1=>
     rw[hcf] at hu'
     obtain ⟨⟨nf,hnf⟩,hFr⟩:=hF f cap p h (by rw[hcf];simp)
     obtain ⟨fnn,code,e1,e2,e3,_⟩:=gb hnf
     have hinv:(invoke d.target d.args).run P w= .ok (.enter f cap'.toArray) w:=by
      rw[hde]
      have:=iW (P:=P) e1 e2 e3 (#[]++cap'.toArray) w
      simp only[Array.empty_append] at this
      simp only[invoke,Array.empty_append]
      exact this
     have hst:=step_defer (cs:=cs) hm.ne_run hds (by rw[hde]) hinv
     have hfr:=hFr B ι w cap' .deferred ({fr with defers:=ds}::cs) hR hB hcap (sK.ctx (c:={fr with defers:=ds}) hm)
     rw[hcf] at hfr
     obtain ⟨ι1,v',w1,cs1,frx,f1,f2,f3,f4,f5,f6,f7,_,f8⟩:=hfr
     have hback:∃m',sK ι1 p1 m'/\Steps P (lone fr cs w) (lone {fr with defers:=ds,mode:=m'} cs w1):=by
      rcases f5 with ⟨rfl,rfl⟩|⟨rfl,_,c0,rest,v0,older,g1,g2,rfl⟩
      ·refine ⟨fr.mode,hm.mono f4.le,.head hst (Steps.trans f6 (.one ?_))⟩
       have:=step_going_returned (c:={fr with defers:=ds}) (cs:=cs) f7 f8
       rw[show settle ({fr with defers:=ds}:Frame).mode=fr.mode from hm.settle] at this
       exact this
      ·injection g1 with g3 g4
       subst g3 g4
       refine ⟨.returning,rfl,.head hst (Steps.trans f6 (.one ?_))⟩
       have:=step_going_returned (c:={({fr with defers:=ds}:Frame) with mode:= .panicking ({v:=v0,recovered:=true}::older)}) (cs:=cs) f7 f8
       have hol:older= []:=by
        cases p with
        |none=>
         have:fr.mode= .returning:=hm
         rw[show ({fr with defers:=ds}:Frame).mode=fr.mode from rfl,this] at g2
         cases g2
        |some q=>
         obtain ⟨q',hq1,_⟩:=hm
         rw[show ({fr with defers:=ds}:Frame).mode=fr.mode from rfl,hq1] at g2
         cases g2
         rfl
       rw[hol] at this ⊢
       exact this
     obtain ⟨m',hm',hsteps⟩:=hback
     obtain ⟨p',h',ι',w',fr',q1,q2,q3,q4,q5,q6,q7,q8,q9,q10⟩:=ih p1 h1 hu' ι1 w1 {fr with defers:=ds,mode:=m'} cs (hd'.mono f4.le) f2 f3 hm'
     exact ⟨p',h',ι',w',fr',q1,q2,q3,f4.trans q4,q5,q6,q7,q8,q9,hsteps.trans q10⟩
def iJ (P:Program):Prop:=∀(f:Nat) (fn:Func) (c:Code),P.funcs[f]? =some fn->fn.body=some c->CheckCode.code P fn [] [] c= .ok ()
theorem iG (h:P.check= .ok ()):iJ P:=by
 intro f fn c hf hb
 unfold Program.check at h
 obtain ⟨_,h1,_⟩:=bi h
 have h2:=ns h1 f (by simp;exact (Array.getElem?_eq_some_iff.1 hf).1)
 unfold CheckCode.funcAt at h2
 rw[hf] at h2
 have h3:=oU h2
 unfold CheckCode.func at h3
 obtain ⟨_,_,h3⟩:=bi h3
 obtain ⟨_,_,h3⟩:=bi h3
 obtain ⟨_,_,h3⟩:=bi h3
 rw[hb] at h3
 simp only at h3
 obtain ⟨_,_,h3⟩:=bi h3
 obtain ⟨_,h4,_⟩:=bi h3
 exact h4
theorem dS (self:Option D4->NC->Dyn->Res) (depth f:Nat) (args:List NV) (ctx:Option NV) (h:NH):
 bW P self (depth+1) f args ctx h=match ai P f with
  |some (.code nf)=>(match self none nf.body ⟨cO args 0 .leaf, [],ctx,h⟩ with
   | .mk o d=>(match o with
    | .norm| .ret=>unwind (bW P self depth) (finish nf.results d) d.dfs none d.h
    | .pan v=>unwind (bW P self depth) (finish nf.results d) d.dfs (some v) d.h
    | .exit _=> .fail)
   | .fail=> .fail)
  |_=> .fail:=by
 have e:bW P self (depth+1) f args ctx h=match ai P f with
  |some (.code nf)=>wE args fun t=>(match self none nf.body ⟨t, [],ctx,h⟩ with
   | .mk o d=>(match o with
    | .norm| .ret=>unwind (bW P self depth) (finish nf.results d) d.dfs none d.h
    | .pan v=>unwind (bW P self depth) (finish nf.results d) d.dfs (some v) d.h
    | .exit _=> .fail)
   | .fail=> .fail)
  |_=> .fail:=rfl
 rw[e]
 split
 ·exact u7 _ _
 ·rfl
theorem fP (hK:iJ P) {n:Nat} (hO:fE P S n):∀depth,zJ P (bW P (ev P S n) depth):=by
 intro depth
 induction depth with
 |zero=>intro f args p h hne;exact IL rfl hne
 |succ depth ih=>
  intro f args p h hne
  rw[dS] at hne ⊢
  cases hcf:ai P f with
  |none=>rw[hcf] at hne;exact IL rfl hne
  |some x=>
   cases x with
   |ext e=>rw[hcf] at hne;exact IL rfl hne
   |code nf=>
    refine ⟨⟨nf,rfl⟩,fun B ι w args' kind cs hR hB hargs hctx=> ?_⟩
    rw[hcf] at hne
    dsimp only at hne ⊢
    obtain ⟨fn,c,hf,hb,hname,hcc,hres⟩:=gb hcf
    let b:Frame:={(default:Frame) with fn:=f,kind:=kind}
    let a0:Act:={tmps:=args'.toArray++Array.replicate (fn.ntmps - args'.toArray.size) undef,defers:= []}
    have henter:Frame.enter P f args'.toArray kind=b.atR a0 [.code c]:=by
     simp[Frame.enter,Frame.atR,hf,hb,b,a0]
     rfl
    cases hev:ev P S n none nf.body ⟨cO args 0 .leaf, [],p,h⟩ with
    |fail=>rw[hev] at hne;exact IL rfl hne
    |mk o d=>
     rw[hev] at hne
     have hs:Sd P ι B none [] p h b a0.defers cs w:=⟨trivial,hctx,hR,hB,rfl⟩
     have hgo:=hO c nf.body fn [] [] hcc (hK f fn c hf hb) none ⟨cO args 0 .leaf, [],p,h⟩ o d hev (.code c) (.inl rfl) B b [] ι a0 cs w hf (xr hargs _) hs (by simp[a0];omega)
     rw[←henter] at hgo
     obtain ⟨ι1,a1,cs1,w1,g1,g2,g3,g4⟩:=hgo
     have out:∀(q:Option NV) (fr1:Frame),(unwind (bW P (ev P S n) depth) (finish nf.results d) d.dfs q d.h)≠.fail->sK ι1 q fr1.mode->fr1.defers=a1.defers->fr1.tmps=a1.tmps->fr1.kind=kind->fr1.fn=f->
      Steps P (lone (Frame.enter P f args'.toArray kind) cs w) (lone fr1 cs1 w1)->Gn P B ι h w (Frame.enter P f args'.toArray kind) kind p cs (unwind (bW P (ev P S n) depth) (finish nf.results d) d.dfs q d.h):=by
      intro q fr1 hq hm hdf htm hkd hfn hst
      have sd:=g3.sd
      obtain ⟨p',h',ι',w',fr',q1,q2,q3,q4,q5,q6,q7,q8,q9,q10⟩:=nC ih hq d.dfs q d.h rfl ι1 w1 fr1 cs1 (by rw[hdf];exact sd.df) sd.rel sd.base hm
      have hTR:TR ι' d.t fr'.tmps:=by rw[q7,htm];exact g2.mono q4.le
      have hff:P.funcs[fr'.fn]? =some fn:=by rw[q8,hfn];exact hf
      cases p' with
      |none=>
       have q1':bK h' d.t nf.results .fail (fun l=> .val (fh l) d.ctx h')=unwind (bW P (ev P S n) depth) (finish nf.results d) d.dfs q d.h:=q1
       obtain ⟨v,v',r1,r2,r3⟩:=lO hTR q2 hres hq q1'
       rw[r1]
       exact ⟨ι',v',w',cs1,fr',r2,q2,q3,g3.gr.trans q4,g3.ca,hst.trans q10,by rw[q9,hkd],by rw[q8,hfn];rfl,q5,q6,fn,hff,r3⟩
      |some v=>
       have q1':CR.pan v d.ctx h'=unwind (bW P (ev P S n) depth) (finish nf.results d) d.dfs q d.h:=q1
       rw[←q1']
       obtain ⟨v',m1,m2⟩:=q5
       exact ⟨ι',v',w',cs1,fr',m2,q2,q3,g3.gr.trans q4,g3.ca,hst.trans q10,by rw[q9,hkd],by rw[q8,hfn];rfl,m1,q6,fn,hff⟩
     cases o with
     |norm=>
      have g1':Steps P (lone (Frame.enter P f args'.toArray kind) cs w) (lone (b.atR a1 []) cs1 w1):=g1
      exact out none {b.atR a1 [] with mode:= .returning} hne rfl rfl rfl rfl rfl (g1'.trans (.one (stepR_end rfl)))
     |ret=>
      obtain ⟨k0,g1'⟩:=g1
      exact out none {b.atR a1 (.code .ret::k0) with mode:= .returning} hne rfl rfl rfl rfl rfl (g1'.trans (.one (stepR_ret rfl)))
     |exit id=>exact IL rfl hne
     |pan v=>
      obtain ⟨td,v',m1,g1'⟩:=g1
      exact out (some v) _ hne ⟨v',rfl,m1⟩ rfl rfl rfl rfl g1'
end
end Nm
namespace Nm
open Go
theorem x1:Extern.allNextRows.lookup "math/bits.Add64" =none:=by kernel_rfl
theorem x2:Extern.allNextRows.lookup "" =none:=by kernel_rfl
theorem x3:Extern.allGenericRows.lookup "math/bits.Add64" =none:=by kernel_rfl
theorem x4:Extern.allTypedRows.lookup "math/bits.Add64" =none:=by kernel_rfl
theorem x5:Extern.allRows.lookup "math/bits.Add64" =some add64Entry:=by kernel_rfl
theorem y1:Extern.allNextRows.lookup "internal/bytealg.IndexByteString" =none:=by kernel_rfl
theorem y3:Extern.allGenericRows.lookup "internal/bytealg.IndexByteString" =none:=by kernel_rfl
theorem y4:Extern.allTypedRows.lookup "internal/bytealg.IndexByteString" =none:=by kernel_rfl
theorem y5:Extern.allRows.lookup "internal/bytealg.IndexByteString" =some Extern.BytealgIndexByte.indexByte:=by kernel_rfl
theorem y6 (c:Nat):∀(l:List Nat) (i:Nat),t9 c l i=(l.findIdx? (fun x=>x==c)).map (·+i):=by
 intro l
 induction l with
 |nil=>intro i;rfl
 |cons x l ih=>
  intro i
  have e:t9 c (x::l) i=cond (Nat.beq x c) (some i) (an (Nat.succ i) (t9 c l)):=rfl
  rw[e,aa,ih,List.findIdx?_cons]
  cases h:Nat.beq x c with
  |true=>have:=IT h;simp[this]
  |false=>
   have:=Nat.ne_of_beq_eq_false h
   simp only[cond_false]
   rw[IM (by simpa using this)]
   cases List.findIdx? (fun x=>x==c) l with
   |none=>rfl
   |some j=>simp;omega
theorem pw (p:Nat->Bool):∀n,(List.range n).find? p=none↔∀i,i<n->p i=false:=by
 intro n;simp
theorem nO (s:ByteArray) (c:Nat) (hc:c<=255):firstIdx s c.toUInt8=match t9 c (s.data.toList.map UInt8.toNat) 0 with|some i=>(i:Int)|none=>-1:=by
 rw[y6]
 have hsz:s.data.toList.length=s.size:=bc s
 have hml:(s.data.toList.map UInt8.toNat).length=s.size:=by rw[List.length_map,hsz]
 have hat:∀i (h:i<s.size),(s[i]! ==c.toUInt8)=(((s.data.toList.map UInt8.toNat)[i]'(by rw[hml];exact h))==c):=by
  intro i h
  have e:s[i]! =s.data.toList[i]'(by rw[hsz];exact h):=by
   rw[getElem!_pos s i h];simp[ByteArray.getElem_eq_getElem_data]
  rw[e,List.getElem_map]
  rw[Bool.eq_iff_iff]
  simp only[beq_iff_eq]
  constructor
  ·intro h;rw[h];simp;omega
  ·intro h;rw[←h];simp
 unfold firstIdx
 cases hf:(s.data.toList.map UInt8.toNat).findIdx? (fun x=>x==c) with
 |none=>
  have h1:(List.range s.size).find? (fun i=>s[i]! ==c.toUInt8)=none:=by
   rw[pw]
   intro i hi
   rw[hat i hi]
   rw[List.findIdx?_eq_none_iff] at hf
   exact hf _ (List.getElem_mem _)
  rw[h1];rfl
 |some j=>
  rw[List.findIdx?_eq_some_iff_getElem] at hf
  obtain ⟨hj,h1,h2⟩:=hf
  have hj':j<s.size:=by rw[←hml];exact hj
  have h3:(List.range s.size).find? (fun i=>s[i]! ==c.toUInt8)=some j:=by
   rw[List.find?_range_eq_some]
   refine ⟨?_,by simpa using hj',fun k hk=> ?_⟩
   ·rw[hat j hj'];exact h1
   ·rw[hat k (by omega)]
    simpa using h2 k hk
  rw[h3];simp
section
variable {P:Program} {S:Nat->List NV->Option NV} {B:Nat}
theorem tI {ι:aO} {fn:Func} {e:Ext} {f:Nat} (hf:P.funcs[f]? =some fn) (hb:fn.body=none) (he:sR fn=some e) {args:List NV} {args':List Value} (ha:VRL ι args args') {v:NV} (hv:kI e args=some v) (w:World):
 ∃v',(callFunc f args'.toArray).run P w= .ok (.value v') w/\VR ι v v':=by
 unfold sR at he
 obtain ⟨ho,he⟩:=aI he
 have ho':fn.origin= "" :=by simpa using ho
 cases hn:(fn.name== "math/bits.Add64") with
 |true=>
  rw[hn] at he
  cases he
  have hname:fn.name= "math/bits.Add64" :=by simpa using hn
  have hnx:Extern.findNext fn=none:=by unfold Extern.findNext;rw[hname,ho'];simp only[x1,x2];rfl
  have hfi:Extern.find fn=some add64Entry:=by unfold Extern.find;rw[hname,ho'];simp only[x3,x4,x5];rfl
  have hcall:=run_callFunc_extern hf (by rw[hname];decide) (by rw[hb];rfl) hnx hfi args'.toArray w
  unfold kI at hv
  split at hv
  ·rename_i x y c hargs
   obtain ⟨hc1,hv⟩:=aI hv
   rw[aa,aa] at hv
   cases hv
   cases ha with
   |cons _ _ _ _ h1 ha=>
    cases ha with
    |cons _ _ _ _ h2 ha=>
     cases ha with
     |cons _ _ _ _ h3 ha=>
      cases ha
      cases h1;cases h2;cases h3
      have hc:=Nat.le_of_ble_eq_true hc1
      refine ⟨_, ?_,.tup [_,_] [_,_] (.cons _ _ _ _ (.int .u64 _) (.cons _ _ _ _ (.int .u64 _) .nil))⟩
      have:=run_add64 (P:=P) (Int.ofNat x) (Int.ofNat y) (Int.ofNat c) (Int.natCast_nonneg _) (Int.natCast_nonneg _) (Int.natCast_nonneg _) (by show (c:Int)<=1;omega) w
      rw[hcall]
      show Result.andThen (Sem.run P (add64Entry #[.int .u64 (Int.ofNat x),.int .u64 (Int.ofNat y),.int .u64 (Int.ofNat c)]) w) _=_
      rw[this]
      rfl
  ·rename_i h;cases h
  ·cases hv
 |false=>
  rw[hn] at he
  simp only[cond_false] at he
  obtain ⟨hn2,he⟩:=aI he
  cases he
  have hname:fn.name= "internal/bytealg.IndexByteString" :=by simpa using hn2
  have hnx:Extern.findNext fn=none:=by unfold Extern.findNext;rw[hname,ho'];simp only[y1,x2];rfl
  have hfi:Extern.find fn=some Extern.BytealgIndexByte.indexByte:=by unfold Extern.find;rw[hname,ho'];simp only[y3,y4,y5];rfl
  have hcall:=run_callFunc_extern hf (by rw[hname];decide) (by rw[hb];rfl) hnx hfi args'.toArray w
  unfold kI at hv
  split at hv
  ·rename_i h;cases h
  ·rename_i s c _
   obtain ⟨hc1,hv⟩:=aI hv
   have hc:=Nat.le_of_ble_eq_true hc1
   cases ha with
   |cons _ _ _ _ h1 ha=>
    cases ha with
    |cons _ _ _ _ h2 ha=>
     cases ha
     cases h2
     cases h1 with
     |str l s' hs=>
      subst hs
      have hrun:=run_indexByte_string (P:=P) s' (Int.ofNat c) w
      refine ⟨.int .i64 (firstIdx s' c.toUInt8), ?_, ?_⟩
      ·rw[hcall]
       show Result.andThen (Sem.run P (Extern.BytealgIndexByte.indexByte #[.string s',.int .u8 (Int.ofNat c)]) w) _=_
       rw[hrun]
       rfl
      ·rw[nO s' c hc]
       cases hi:t9 c (s'.data.toList.map UInt8.toNat) 0 with
       |none=>rw[hi] at hv;cases hv;exact .int .i64 _
       |some i=>rw[hi] at hv;cases hv;exact .int .i64 _
  ·cases hv
def aX (P:Program) (S:Nat->List NV->Option NV):Prop:=
 ∀(ι:aO) (B:Nat) (h:NH) (w:World) (f:Nat) (args:List NV) (args':List Value) (v:NV),S f args=some v->Rel P ι B h w->B<=w.heap.size->VRL ι args args'->
  nS P ι B h w ((callFunc f args'.toArray).run P w) (.val v none h)
theorem vu:aX P Hr:=fun _ _ _ _ _ _ _ _ h=>by cases h
theorem tY {f:Nat} {e:Ext} (h:ai P f=some (.ext e)):∃fn,P.funcs[f]? =some fn/\fn.body=none/\sR fn=some e:=by
 unfold ai at h
 split at h
 ·rename_i fn hfn
  cases hn:(fn.name== "runtime.NumGoroutine") with
  |true=>rw[hn] at h;cases h
  |false=>
   rw[hn] at h
   simp only[cond_false] at h
   split at h
   ·split at h
    ·rw[aa] at h;cases h
    ·cases h
   ·rename_i hb
    split at h
    ·rename_i e' he;cases h;exact ⟨fn,hfn,hb,he⟩
    ·cases h
 ·cases h
theorem dg {fr:Frame} {w:World} {e:Ending} (hk:fr.kind= .normal) (h:fr.going P w e):fr.leaving P w e:=by
 cases e with
 |returned v=>exact ⟨h.1,h.2.1,hk,h.2.2⟩
 |panicked c=>exact h
 |outgrown=>trivial
theorem lj (hK:iJ P) (hS:aX P S) {n:Nat} (hO:fE P S n) (ι:aO) (B:Nat) (h:NH) (w:World) (f:Nat) (args:List NV) (args':List Value) (hR:Rel P ι B h w) (hB:B<=w.heap.size) (ha:VRL ι args args'):
 nS P ι B h w ((callFunc f args'.toArray).run P w) (bJ P S (ev P S n) f args h):=by
 unfold bJ
 cases hs:S f args with
 |some v=>exact hS ι B h w f args args' v hs hR hB ha
 |none=>
  dsimp only
  cases hcf:ai P f with
  |none=>trivial
  |some x=>
   cases x with
   |ext e=>
    dsimp only
    cases hx:kI e args with
    |none=>trivial
    |some v=>
     intro c cs
     obtain ⟨fn,h1,h2,h3⟩:=tY hcf
     obtain ⟨v',e1,e2⟩:=tI h1 h2 h3 ha hx w
     exact ⟨ι,v',w,e2,hR,hB,.refl _ _ _,.inl e1⟩
   |code nf=>
    dsimp only
    have hD:=fP hK hO 3 f args none h
    obtain ⟨fn,code,e1,e2,e3,_⟩:=gb hcf
    have hent:=iW (P:=P) e1 e2 e3 args'.toArray w
    cases hr:bW P (ev P S n) 3 f args none h with
    |fail=>trivial
    |val v x h'=>
     intro c cs
     obtain ⟨_,hF⟩:=hD (by rw[hr];simp)
     have hF:=hF B ι w args' .normal (c::cs) hR hB ha (fun b hb=>by unfold tryRecover;rw[hb])
     rw[hr] at hF
     obtain ⟨ι',v',w',cs',fr,f1,f2,f3,f4,f5,f6,f7,_,f8⟩:=hF
     obtain ⟨rfl,_⟩:=f5.none
     exact ⟨ι',v',w',f1,f2,f3,f4,.inr ⟨w,.inl ⟨f,args'.toArray,hent,Steps.trans f6 (.one (step_leave_returned (dg f7 f8)))⟩⟩⟩
    |pan v x h'=>
     intro c cs
     obtain ⟨_,hF⟩:=hD (by rw[hr];simp)
     have hF:=hF B ι w args' .normal (c::cs) hR hB ha (fun b hb=>by unfold tryRecover;rw[hb])
     rw[hr] at hF
     obtain ⟨ι',v',w',cs',fr,f1,f2,f3,f4,f5,f6,f7,_,f8⟩:=hF
     obtain ⟨rfl,_⟩:=f5.none
     exact ⟨ι',v',w',f1,f2,f3,f4,w,.inl ⟨f,args'.toArray,hent,Steps.trans f6 (.one (step_leave_panicked (dg f7 f8)))⟩⟩
noncomputable def lz:List D4->List NV->Tm->Tm
 |p::ps,v::vs,t=>lz ps vs (NT.put p v t)
 |_,_,t=>t
theorem jB {r:CR} (hr:r≠.fail) {K:Tm->CR}:∀{ps:List D4} {vs:List NV} {t:Tm},cQ .fail ps vs t K=r->vs.length=ps.length/\K (lz ps vs t)=r:=by
 intro ps
 induction ps with
 |nil=>
  intro vs t h
  cases vs with
  |nil=>exact ⟨rfl,h⟩
  |cons v vs=>exact IL (show CR.fail=r from h).symm hr
 |cons p ps ih=>
  intro vs t h
  cases vs with
  |nil=>exact IL (show CR.fail=r from h).symm hr
  |cons v vs=>
   have e:cQ .fail (p::ps) (v::vs) t K=NT.set p v t fun t=>cQ .fail ps vs t K:=rfl
   rw[e,NT.set_eq] at h
   obtain ⟨h1,h2⟩:=ih h
   exact ⟨by simp[h1],h2⟩
theorem zD {ι:aO}:∀{ps:List Nat} {vs:List NV} {vs':List Value} {t:Tm} {a:Array Value},VRL ι vs vs'->TR ι t a->(∀q∈ps,q<a.size)->
 TR ι (lz (ps.map D4.of) vs t) ((ps.zip vs').foldl (fun tmps (t,a)=>tmps.setIfInBounds t a) a)/\((ps.zip vs').foldl (fun tmps (t,a)=>tmps.setIfInBounds t a) a).size=a.size:=by
 intro ps
 induction ps with
 |nil=>intro vs vs' t a _ hT _;cases vs<;>exact ⟨hT,rfl⟩
 |cons p ps ih=>
  intro vs vs' t a hv hT hp
  cases hv with
  |nil=>exact ⟨hT,rfl⟩
  |cons v v' vs vs' h1 h2=>
   have hT':=hT.put (hp p (by simp)) h1
   obtain ⟨q1,q2⟩:=ih h2 hT' (fun q hq=>by simp;exact hp q (by simp[hq]))
   exact ⟨q1,q2.trans (by simp)⟩
def Ff (P:Program) (B:Nat) (ι:aO) (h:NH) (w:World) (fr0:Frame) (c:Frame) (cs:List Frame):CR->Prop
 | .fail=>True
 | .val v _ h'=>∃ι' v' w',VR ι' v v'/\Rel P ι' B h' w'/\B<=w'.heap.size/\Grow ι h w ι' h' w'/\Steps P (lone fr0 (c::cs) w) (lone (c.finish v') cs w')
 | .pan v _ h'=>∃ι' v' w',VR ι' v v'/\Rel P ι' B h' w'/\B<=w'.heap.size/\Grow ι h w ι' h' w'/\Steps P (lone fr0 (c::cs) w) (lone (c.raise [{v:=v',recovered:=false}]) cs w')
theorem jC {n:Nat} (hO:fE P S n) (ι:aO) (B:Nat) (h:NH) (w:World) (l:D4) (p:Pl) (args:List NV) (args':List Value) (hR:Rel P ι B h w) (hB:B<=w.heap.size) (ha:VRL ι args args') (hp:ι l=some p):
 nS P ι B h w ((Instr.yield p.b args'.toArray).run P w) (round (ev P S n) l args h):=by
 by_cases hne:round (ev P S n) l args h= .fail
 ·rw[hne];trivial
 generalize hrr:round (ev P S n) l args h=r at hne
 have hrr':=hrr
 unfold round at hrr'
 obtain ⟨ob,ho1,ho2⟩:=hR.obj _ _ hp
 rw[ho1] at hrr'
 cases ob with
 |loop st pd tm ps na nb=>
  cases st with
  |succ st=>exact IL hrr'.symm hne
  |zero=>
   obtain ⟨L,l1,l2,l3,l4,l5,l6,l7,⟨fn,bl,la,lb,l8,l9,l10,l11,_⟩,l12⟩:=ho2
   obtain ⟨hlen,hrr2⟩:=jB hne hrr'
   have hsz:args'.toArray.size=L.params.size:=by
    have:=ha.length
    rw[l5] at hlen
    simp at hlen ⊢;omega
   have hy:=run_yield (P:=P) l1 hsz
   obtain ⟨t1,t2⟩:=zD (ps:=L.params.toList) ha l4 l12
   have hz:(L.params.zip args'.toArray).foldl (fun tmps (t,a)=>tmps.setIfInBounds t a) L.tmps=(L.params.toList.zip args').foldl (fun tmps (t,a)=>tmps.setIfInBounds t a) L.tmps:=by
    rw[←Array.foldl_toList,Array.toList_zip]
   rw[hz] at hy
   rw[←l5] at t1
   generalize (L.params.toList.zip args').foldl (fun tmps (t,a)=>tmps.setIfInBounds t a) L.tmps=tmps at hy t1 t2
   let b:Frame:={(default:Frame) with fn:=L.fn,kind:= .normal,roundOf:=some p.b}
   have hfr:Frame.round p.b L.fn tmps L.assign L.body .normal=b.atR {tmps:=tmps,defers:= []} [.code L.assign,.beginRound,.code L.body]:=by
    simp[Frame.round,Frame.atR,b]
   cases hev:ev P S n (some l) na ⟨lz ps args tm, [],none,h⟩ with
   |fail=>rw[hev] at hrr2;exact IL hrr2.symm hne
   |mk o d=>
    rw[hev] at hrr2
    cases o with
    |norm=>
     dsimp only at hrr2
     cases hdd:d.dfs with
     |cons x xs=>rw[hdd] at hrr2;exact IL hrr2.symm hne
     |nil=>
      rw[hdd] at hrr2
      have hrb:bU (ev P S n) l nb d.t d.h=r:=hrr2
      have main:∀(c:Frame) (cs:List Frame),Ff P B ι h w (Frame.round p.b L.fn tmps L.assign L.body .normal) c cs r:=by
       intro c cs
       have hctx:∀ι:aO,p6 ι b.kind (c::cs) none:=fun ι b' hb'=>by unfold tryRecover;rw[hb']
       have hs:Sd P ι B (some l) [] none h b ([]:List Deferred) (c::cs) w:=⟨trivial,hctx ι,hR,hB,⟨p,hp,rfl⟩⟩
       have hgo:=hO L.assign na fn [] [] l6 l10 (some l) ⟨lz ps args tm, [],none,h⟩ .norm d hev (.code L.assign) (.inl rfl) B b [.beginRound,.code L.body] ι {tmps:=tmps,defers:= []} (c::cs) w l8 t1 hs (by rw[t2];exact l9)
       obtain ⟨ι1,a1,cs1,w1,g1,g2,g3,g4⟩:=hgo
       obtain ⟨rfl,hctx1⟩:=g3.ca.none
       have sd1:=g3.sd
       have hdef1:a1.defers= []:=by
        have:=sd1.df
        rw[hdd] at this
        cases hq:a1.defers with
        |nil=>rfl
        |cons d ds=>rw[hq] at this;exact this.elim
       have hp1:ι1 l=some p:=g3.gr.le _ _ hp
       obtain ⟨ob1,ho3,ho4⟩:=sd1.rel.obj _ _ hp1
       have hrb':=hrb
       unfold bU at hrb'
       rw[ho3] at hrb'
       cases ob1 with
       |loop st1 pd1 tm1 ps1 na1 nb1=>
        cases st1 with
        |succ st1=>exact IL hrb'.symm hne
        |zero=>
         replace hrb':d.h.set l (.loop 1 pd1 tm1 ps1 na1 nb1) (fun h=>match ev P S n (some l) nb ⟨d.t, [],none,h⟩ with
          | .mk o d=>(match o with
           | .pan v=>(match d.dfs with| []=>CR.pan v none d.h|_=> .fail)
           |o=>cV l o d.h)
          | .fail=> .fail)=r:=hrb'
         rw[NH.set_eq] at hrb'
         obtain ⟨L1,m1,m2,m3⟩:=ho4
         have hbr:=run_beginRound (P:=P) m1 m2
         have hlt1:=sd1.rel.lt _ _ hp1
         have hst1:SR 1 ({L1 with state:= .busy}:Loop).state:=rfl
         obtain ⟨u1,u2⟩:=sd1.rel.turn (w':=w1.putObj p.b (.loop {L1 with state:= .busy})) hp1 (by rw[ho3];simp) (.loop 1 pd1 tm1 ps1 na1 nb1)
          ⟨_,World.putObj_heap_same hlt1,hst1,m3⟩ (by simp) rfl rfl rfl (fun q hq=>World.putObj_heap_other hq)
         have hbeg:=stepR_beginRound (P:=P) (b:=b) (a:=a1) (k:= [.code L.body]) (cs:=c::cs) rfl hbr
         have hs2:Sd P ι1 B (some l) [] none (d.h.put l (.loop 1 pd1 tm1 ps1 na1 nb1)) b a1.defers (c::cs) (w1.putObj p.b (.loop {L1 with state:= .busy})):=
          ⟨by rw[hdef1];trivial,hctx ι1,u1,by simpa using sd1.base,⟨p,hp1,rfl⟩⟩
         generalize w1.putObj p.b (.loop {L1 with state:= .busy})=w2 at *
         generalize d.h.put l (.loop 1 pd1 tm1 ps1 na1 nb1)=h2 at *
         cases hev2:ev P S n (some l) nb ⟨d.t, [],none,h2⟩ with
         |fail=>rw[hev2] at hrb';exact IL hrb'.symm hne
         |mk o2 d2=>
          rw[hev2] at hrb'
          have hgo2:=hO L.body nb fn bl la l7 l11 (some l) ⟨d.t, [],none,h2⟩ o2 d2 hev2 (.code L.body) (.inl rfl) B b [] ι1 a1 (c::cs) w2 l8 g2 hs2 (by rw[g4,t2];exact l9)
          obtain ⟨ι3,a3,cs3,w3,e1,e2,e3,e4⟩:=hgo2
          obtain ⟨rfl,_⟩:=e3.ca.none
          have hp3:ι3 l=some p:=e3.gr.le _ _ hp1
          have hpre:Steps P (lone (Frame.round p.b L.fn tmps L.assign L.body .normal) (c::cs) w) (lone (b.atR a1 [.code L.body]) (c::cs) w2):=by
           rw[hfr];exact Steps.trans g1 (.one hbeg)
          have hgr:=(g3.gr.trans u2).trans e3.gr
          have fin:∀(jump:Option Code) (st':Nat) (pd':Jump),cV l o2 d2.h=r->(∀tm ps na nb,(match o2 with
           | .norm=>(d2.h.set l (.loop 0 .none tm ps na nb) fun h=>CR.val (.bool true) none h)
           | .ret=>d2.h.set l (.loop 2 .ret tm ps na nb) fun h=> .val (.bool false) none h
           | .exit id=>d2.h.set l (.loop 2 (.exit id) tm ps na nb) fun h=> .val (.bool false) none h
           | .pan _=> .fail)= .val (.bool jump.isNone) none (d2.h.put l (.loop st' pd' tm ps na nb)))->
           (SR st' (if jump.isNone then .ready else .done))->JR pd' jump->
           (∀(v:Value) (w4:World),(Instr.endRound p.b jump).run P w3= .ok v w4->Steps P (lone (b.atR a1 [.code L.body]) (c::cs) w2) (lone (c.finish v) cs w4))->
           Ff P B ι h w (Frame.round p.b L.fn tmps L.assign L.body .normal) c cs r:=by
           intro jump st' pd' hre hval hSR hJR hsteps
           unfold cV at hre
           obtain ⟨ob3,ho5,ho6⟩:=e3.sd.rel.obj _ _ hp3
           rw[ho5] at hre
           cases ob3 with
           |loop st3 pd3 tm3 ps3 na3 nb3=>
            have hre':=(hval tm3 ps3 na3 nb3).symm.trans hre
            rw[←hre']
            obtain ⟨L3,k1,k2,k3,k4⟩:=ho6
            have hend:=run_endRound (P:=P) jump k1
            have hlt3:=e3.sd.rel.lt _ _ hp3
            obtain ⟨z1,z2⟩:=e3.sd.rel.turn (w':=w3.putObj p.b (.loop {L3 with state:=if jump.isNone then .ready else .done,pending:=jump})) hp3 (by rw[ho5];simp) (.loop st' pd' tm3 ps3 na3 nb3)
             ⟨_,World.putObj_heap_same hlt3,hSR,hJR,k4⟩ (by simp) rfl rfl rfl (fun q hq=>World.putObj_heap_other hq)
            exact ⟨ι3,.bool jump.isNone,_,.bool _,z1,by simpa using e3.sd.base,hgr.trans z2,hpre.trans (hsteps _ _ hend)⟩
           |_=>exact IL hre.symm hne
          cases o2 with
          |norm=>
           exact fin none 0 .none hrb' (fun tm ps na nb=>NH.set_eq _ _ _ _) rfl rfl fun v w4 he=>Steps.trans e1 (.one (stepR_round_end rfl rfl he))
          |ret=>
           obtain ⟨k0,e1⟩:=e1
           exact fin (some .ret) 2 .ret hrb' (fun tm ps na nb=>NH.set_eq _ _ _ _) rfl rfl fun v w4 he=>Steps.trans e1 (.one (stepR_round_ret rfl rfl he))
          |exit id=>
           obtain ⟨k0,e0,e1⟩:=e1
           exact fin (some (.exit id)) 2 (.exit id) hrb' (fun tm ps na nb=>NH.set_eq _ _ _ _) rfl rfl fun v w4 he=>Steps.trans e1 (.one (stepR_round_exit rfl rfl (by rw[e0];rfl) he))
          |pan v=>
           dsimp only at hrb'
           cases hd2:d2.dfs with
           |cons x xs=>rw[hd2] at hrb';exact IL hrb'.symm hne
           |nil=>
            rw[hd2] at hrb'
            rw[←show CR.pan v none d2.h=r from hrb']
            obtain ⟨td,v',f1,f2⟩:=e1
            have hdef3:a3.defers= []:=by
             have:=e3.sd.df
             rw[hd2] at this
             cases hq:a3.defers with
             |nil=>rfl
             |cons d ds=>rw[hq] at this;exact this.elim
            refine ⟨ι3,v',w3,f1,e3.sd.rel,e3.sd.base,hgr,hpre.trans (Steps.trans f2 (.one (step_leave_panicked ⟨rfl,hdef3,fn,l8⟩)))⟩
       |_=>exact IL hrb'.symm hne
      cases r with
      |fail=>trivial
      |val v x h'=>
       intro c cs
       obtain ⟨ι',v',w',q1,q2,q3,q4,q5⟩:=main c cs
       exact ⟨ι',v',w',q1,q2,q3,q4,.inr ⟨w,.inr ⟨p.b,L.fn,tmps,L.assign,L.body,hy,q5⟩⟩⟩
      |pan v x h'=>
       intro c cs
       obtain ⟨ι',v',w',q1,q2,q3,q4,q5⟩:=main c cs
       exact ⟨ι',v',w',q1,q2,q3,q4,w,.inr ⟨p.b,L.fn,tmps,L.assign,L.body,hy,q5⟩⟩
    |_=>exact IL hrr2.symm hne
 |_=>exact IL hrr'.symm hne
theorem jW (hM:P.follows .mixedOrders=true) (hK:iJ P) (hS:aX P S):∀n,fE P S n/\CallsOK P S (ev P S n):=by
 intro n
 induction n with
 |zero=>
  have h0:fE P S 0:=fun c nc fn bl la _ _ rnd d o d' h=>by cases h
  exact ⟨h0,⟨lj hK hS h0,jC h0⟩⟩
 |succ n ih=>
  have h1:fE P S (n+1):=tB hM ih.1 ih.2
  exact ⟨h1,⟨lj hK hS h1,jC h1⟩⟩
end
end Nm
namespace Nm
open Go Go.RowKit
noncomputable def wg (cf:Nat->Option NFn) (S:Nat->List NV->Option NV) (n f:Nat) (args:List NV):CR:=bW cf (ev cf S n) 3 f args none ⟨.leaf,.e⟩
def ι0:aO:=fun _=>none
theorem FK (P:Program) (w:World):Rel P ι0 w.heap.size ⟨.leaf,.e⟩ w where
 obj:=fun i p h=>by cases h
 inj:=fun i j p q h=>by cases h
 base:=fun i p h=>by cases h
 lt:=fun i p h=>by cases h
 fresh:=fun i o h=>by rw[show NH.get ⟨.leaf,.e⟩ i=NT.get i .leaf from rfl,NT.get_leaf] at h;cases h
theorem yj {P:Program} {S:Nat->List NV->Option NV} (hM:P.follows .mixedOrders=true) (hP:P.check= .ok ()) (hS:aX P S) {n f:Nat} {args:List NV} {v:NV} {x:Option NV} {h:NH} (hr:wg P S n f args= .val v x h) {args':List Value} (ha:VRL ι0 args args') (w:World):
 Calls P f args'.toArray w fun e w'=>(∃ι v',e= .returned v'/\VR ι v v'/\Rel P ι w.heap.size h w')/\Below w.heap.size w w':=by
 intro cs
 obtain ⟨hO,_⟩:=jW hM (iG hP) hS n
 have hD:=fP (iG hP) hO 3 f args none ⟨.leaf,.e⟩
 obtain ⟨_,hF⟩:=hD (by rw[show bW P (ev P S n) 3 f args none ⟨.leaf,.e⟩= .val v x h from hr];simp)
 have hF:=hF w.heap.size ι0 w args' .normal cs (FK P w) (Nat.le_refl _) ha (fun b hb=>by unfold tryRecover;rw[hb])
 rw[show bW P (ev P S n) 3 f args none ⟨.leaf,.e⟩= .val v x h from hr] at hF
 obtain ⟨ι',v',w',cs',fr,f1,f2,f3,f4,f5,f6,f7,f8,f9⟩:=hF
 obtain ⟨rfl,_⟩:=f5.none
 refine ⟨.returned v',w',fr,⟨⟨ι',v',rfl,f1,f2⟩,⟨f4.os,f4.tape,f4.output,f4.size,fun k hk=>f4.frame k hk fun i p hi=>by cases hi⟩⟩,f6,f8,dg f7 f9⟩
end Nm
namespace Nm
open Go Go.RowKit
mutual
def dx:NV->Bool
 | .bool _| .int _ _| .str _| .nilp| .nils| .nilm| .nilf| .nili=>true
 | .ifc _ v=>dx v
 | .agg l=>gR l
 | .tup l=>gR l
 |_=>false
def gR:List NV->Bool
 | []=>true
 |v::l=>dx v&&gR l
end
mutual
theorem VR.plain {ι ι':aO}:∀{v:NV} {v':Value},VR ι v v'->dx v=true->VR ι' v v'
 |_,_,.bool b,_=> .bool b
 |_,_,.int k n,_=> .int k n
 |_,_,.str l s h,_=> .str l s h
 |_,_,.nilp,_=> .nilp
 |_,_,.ptr ..,h=>by simp[dx] at h
 |_,_,.nils,_=> .nils
 |_,_,.slc ..,h=>by simp[dx] at h
 |_,_,.nilm,_=> .nilm
 |_,_,.map ..,h=>by simp[dx] at h
 |_,_,.nilf,_=> .nilf
 |_,_,.fn ..,h=>by simp[dx] at h
 |_,_,.yld ..,h=>by simp[dx] at h
 |_,_,.nili,_=> .nili
 |_,_,.ifc t v v' h,k=> .ifc t v v' (VR.plain h (by simpa [dx] using k))
 |_,_,.agg l l' h h1,k=> .agg l l' (VRL.plain h (by simpa [dx] using k)) h1
 |_,_,.tup l l' h,k=> .tup l l' (VRL.plain h (by simpa [dx] using k))
theorem VRL.plain {ι ι':aO}:∀{l:List NV} {l':List Value},VRL ι l l'->gR l=true->VRL ι' l l'
 |_,_,.nil,_=> .nil
 |_,_,.cons v v' l l' h hl,k=> .cons v v' l l' (VR.plain h (by simp[gR] at k;exact k.1)) (VRL.plain hl (by simp[gR] at k;exact k.2))
end
variable {P:Program} {f:Nat} {args:List NV} {S:Nat->List NV->Option NV}
noncomputable def aV (f:Nat) (args:List NV) (v:NV) (S:Nat->List NV->Option NV):Nat->List NV->Option NV:=fun g l=>
 cond (Nat.beq g f) (cond (fH (bo 3) l args) (some v) (S g l)) (S g l)
noncomputable def bg (cf:Nat->Option NFn) (S:Nat->List NV->Option NV) (n f:Nat) (args:List NV) (v:NV):Bool:=
 match wg cf S n f args with
 | .val u _ _=>cond (gR args) (cond (dx v) (bo 5 u v) false) false
 |_=>false
theorem nV  {self:Option D4->NC->Dyn->Res} {d:Nat} {ctx:Option NV} {h:NH} (hn:bW P self d f args ctx h≠.fail):∃nf,ai P f=some (.code nf):=by
 cases d with
 |zero=>exact IL rfl hn
 |succ d=>
  rw[dS] at hn
  cases hc:ai P f with
  |none=>rw[hc] at hn;exact IL rfl hn
  |some x=>
   cases x with
   |code nf=>exact ⟨nf,rfl⟩
   |ext e=>rw[hc] at hn;exact IL rfl hn
theorem aL  (hM:P.follows .mixedOrders=true) (hP:P.check= .ok ()) (hS:aX P S) {n:Nat} {v:NV} (hr:bg P S n f args v=true):aX P (aV f args v S):=by
 intro ι B h w g l l' u hg hR hB hl
 have hg':cond (Nat.beq g f) (cond (fH (bo 3) l args) (some v) (S g l)) (S g l)=some u:=hg
 by_cases h1:Nat.beq g f=true/\fH (bo 3) l args=true
 ·obtain ⟨h2,h3⟩:=h1
  rw[h2,h3] at hg'
  cases hg'
  have:=IT h2
  subst this
  have:=iA (il 3) h3
  subst this
  unfold bg at hr
  split at hr
  ·rename_i u x h0 hrun
   obtain ⟨p1,hr⟩:=dN hr
   obtain ⟨p2,hr⟩:=dN hr
   have:=il _ _ _ hr
   subst this
   intro c cs
   have hcalls:=yj hM hP hS hrun (hl.plain p1) w
   obtain ⟨e,w',fr,⟨⟨ι1,v',he,hv,_⟩,hb⟩,hcomes,hfn,hleave⟩:=hcalls (c::cs)
   subst he
   obtain ⟨nf,hnf⟩:=nV (show bW P (ev P S n) 3 g l none ⟨.leaf,.e⟩≠.fail by rw[show bW P (ev P S n) 3 g l none ⟨.leaf,.e⟩=_ from hrun];simp)
   obtain ⟨fn,code,e1,e2,e3,_⟩:=gb hnf
   refine ⟨ι,v',w',hv.plain p2,⟨fun i p hi=> ?_,hR.inj,hR.base,fun i p hi=>Nat.lt_of_lt_of_le (hR.lt i p hi) hb.size,hR.fresh⟩,Nat.le_trans hB hb.size, ?_,.inr ⟨w,.inl ⟨g,l'.toArray,iW e1 e2 e3 _ w,Steps.trans hcomes (.one (step_leave_returned hleave))⟩⟩⟩
   ·obtain ⟨o,o1,o2⟩:=hR.obj i p hi
    exact ⟨o,o1,o2.mono (aO.le_refl _) (hb.block _ (hR.lt i p hi))⟩
   ·exact ⟨aO.le_refl _,Nat.le_refl _,fun _ _ x=> .inl x,fun i p x y=> .inr ⟨i,p,x,y,rfl⟩,fun _ _ _=>rfl,hb.size,hb.os,hb.tape,hb.output,fun b hb' _=>hb.block b hb'⟩
  ·cases hr
 ·have:S g l=some u:=by
   cases h2:Nat.beq g f with
   |false=>rw[h2] at hg';exact hg'
   |true=>
    rw[h2] at hg'
    cases h3:fH (bo 3) l args with
    |false=>rw[h3] at hg';exact hg'
    |true=>exact IL ⟨h2,h3⟩ h1
  exact hS ι B h w g l l' u this hR hB hl
noncomputable def ak (P:Program) (k:Nat) (nf:NFun) (f:Nat):Option NFn:=cond (Nat.beq f k) (some (.code nf)) (ai P f)
noncomputable def ao (m:Nat) (a b:Nat->Option NFn) (f:Nat):Option NFn:=cond (Nat.ble f m) (a f) (b f)
def gY (P:Program) (cf:Nat->Option NFn):Prop:=∀f,cf f=ai P f
theorem af  {k:Nat} {nf:NFun} (h:ai P k=some (.code nf)):gY P (ak P k nf):=fun f=>by
 unfold ak
 cases hb:Nat.beq f k with
 |false=>rfl
 |true=>rw[IT hb];exact h.symm
theorem ag  {m:Nat} {a b:Nat->Option NFn} (ha:gY P a) (hb:gY P b):gY P (ao m a b):=fun f=>by
 unfold ao
 cases Nat.ble f m with
 |false=>exact hb f
 |true=>exact ha f
theorem gY.kept  {cf:Nat->Option NFn} (h:gY P cf) {n:Nat} {v:NV} (hr:bg cf S n f args v=true):bg P S n f args v=true:=by
 have e:cf=ai P:=funext h
 rw[e] at hr;exact hr
end Nm
namespace Nm
open Go Go.RowKit
variable {o:Out} {m:NH} {d1 d d':Dyn} {t:Tm} {dfs:List Dfr} {x y:NC} {f:Nat} {l:List NOper} {args:List NV} {v:NV} {rnd dst:Option D4}
def Le (a b:Option D4->NC->Dyn->Res):Prop:=∀r c d o d',a r c d= .mk o d'->b r c d= .mk o d'
section
variable {P:Program} {S:Nat->List NV->Option NV} {a b:Option D4->NC->Dyn->Res}
theorem fK {F G:Nat->List NV->Option NV->NH->CR} (h:∀f l p m r,F f l p m=r->r≠.fail->G f l p m=r) {K:Option NV->NH->CR}:∀(l:List Dfr) (p:Option NV) (m:NH) (r:CR),unwind F K l p m=r->r≠.fail->unwind G K l p m=r:=by
 intro l
 induction l with
 |nil=>exact fun p m r e _=>e
 |cons c l ih=>
  intro p m r e hr
  rw[jq] at e ⊢
  cases c with
  |mark id=>
   dsimp only at e ⊢
   split at e
   ·exact ih _ _ _ e hr
   ·exact IL e.symm hr
  |call f cap=>
   dsimp only at e ⊢
   cases hf:F f cap p m with
   |fail=>rw[hf] at e;exact IL e.symm hr
   |pan v x m'=>rw[hf] at e;exact IL e.symm hr
   |val v x m'=>
    rw[hf] at e
    rw[h f cap p m _ hf (by simp)]
    exact ih _ _ _ e hr
theorem qE (h:Le a b):∀(d f:Nat) (l:List NV) (p:Option NV) (m:NH) (r:CR),bW P a d f l p m=r->r≠.fail->bW P b d f l p m=r:=by
 intro d
 induction d with
 |zero=>intro f l p m r e hr;exact IL e.symm hr
 |succ d ih=>
  intro f l p m r e hr
  rw[dS] at e ⊢
  cases hc:ai P f with
  |none=>rw[hc] at e;exact IL e.symm hr
  |some x=>
   cases x with
   |ext x=>rw[hc] at e;exact IL e.symm hr
   |code nf=>
    rw[hc] at e
    dsimp only at e ⊢
    cases ha:a none nf.body ⟨cO l 0 .leaf, [],p,m⟩ with
    |fail=>rw[ha] at e;exact IL e.symm hr
    |mk o d'=>
     rw[ha] at e
     rw[h _ _ _ _ _ ha]
     cases o with
     |norm=>exact fK (fun f l p m r=>ih f l p m r) _ _ _ _ e hr
     |ret=>exact fK (fun f l p m r=>ih f l p m r) _ _ _ _ e hr
     |pan v=>exact fK (fun f l p m r=>ih f l p m r) _ _ _ _ e hr
     |exit id=>exact IL e.symm hr
theorem cH (h:Le a b) {l:List NV} {r:CR} (e:bJ P S a f l m=r) (hr:r≠.fail):bJ P S b f l m=r:=by
 unfold bJ at e ⊢
 cases hs:S f l with
 |some v=>rw[hs] at e;exact e
 |none=>
  rw[hs] at e
  dsimp only at e ⊢
  cases hc:ai P f with
  |none=>rw[hc] at e;exact e
  |some x=>
   rw[hc] at e
   cases x with
   |ext x=>exact e
   |code nf=>exact qE h _ _ _ _ _ _ e hr
theorem kA (h:Le a b) {l:D4} {bd:NC} {r:CR} (e:bU a l bd t m=r) (hr:r≠.fail):bU b l bd t m=r:=by
 unfold bU at e ⊢
 split at e
 ·rename_i p tm ps assign body hm
  rw[NH.set_eq] at e ⊢
  cases ha:a (some l) bd ⟨t, [],none,m.put l (.loop 1 p tm ps assign body)⟩ with
  |fail=>rw[ha] at e;exact IL e.symm hr
  |mk o d=>rw[ha] at e;rw[h _ _ _ _ _ ha];exact e
 ·exact IL e.symm hr
theorem dZ (h:Le a b) {l:D4} {r:CR} (e:round a l args m=r) (hr:r≠.fail):round b l args m=r:=by
 unfold round at e ⊢
 split at e
 ·rename_i x tm ps assign body hm
  obtain ⟨h1,h2⟩:=jB hr e
  have key:∀K:Tm->CR,cQ .fail ps args tm K=K (lz ps args tm):=by
   clear e h2 hm
   intro K
   induction ps generalizing args tm with
   |nil=>cases args with
    |nil=>rfl
    |cons=>simp at h1
   |cons q ps ih=>
    cases args with
    |nil=>simp at h1
    |cons v vs=>
     have e:cQ .fail (q::ps) (v::vs) tm K=NT.set q v tm fun t=>cQ .fail ps vs t K:=rfl
     rw[e,NT.set_eq]
     exact ih _ (by simpa using h1)
  rw[key]
  cases ha:a (some l) assign ⟨lz ps args tm, [],none,m⟩ with
  |fail=>rw[ha] at h2;exact IL h2.symm hr
  |mk o d=>
   rw[ha] at h2
   rw[h _ _ _ _ _ ha]
   cases o with
   |norm=>
    dsimp only at h2 ⊢
    split at h2
    ·exact kA h h2 hr
    ·exact IL h2.symm hr
   |_=>exact IL h2.symm hr
 ·exact IL e.symm hr
theorem kX (h:Le a b) {ctx:Option NV} {x:NR} {r:OpO} (e:cZ P S a rnd dfs ctx m x=r) (hr:r≠.fail):cZ P S b rnd dfs ctx m x=r:=by
 cases x with
 |call f l=>
  have e':rQ dfs ctx (bJ P S a f l m)=r:=e
  have hn:bJ P S a f l m≠.fail:=fun hh=>by rw[hh] at e';exact hr e'.symm
  show rQ dfs ctx (bJ P S b f l m)=r
  rw[cH h rfl hn];exact e'
 |yld l args=>
  have e':rQ dfs ctx (round a l args m)=r:=e
  have hn:round a l args m≠.fail:=fun hh=>by rw[hh] at e';exact hr e'.symm
  show rQ dfs ctx (round b l args m)=r
  rw[dZ h rfl hn];exact e'
 |_=>exact e
theorem we  {K L:Dyn->Res} (hk:∀d o d',K d= .mk o d'->L d= .mk o d') {ctx:Option NV} {x:OpO} (e:up dst K t dfs ctx x= .mk o d'):up dst L t dfs ctx x= .mk o d':=by
 cases x with
 |fail=>cases e
 |next v dfs ctx h=>exact hk _ _ _ e
 |pan v h=>exact e
theorem BI  {K:Dyn->Res} {ctx:Option NV} {x:OpO} (e:up dst K t dfs ctx x= .mk o d'):x≠.fail:=by
 rintro rfl;cases e
theorem fF (h:Le a b):∀(l:List NOper) (d:Dyn) (o:Out) (d':Dyn),cm P S a rnd l d= .mk o d'->cm P S b rnd l d= .mk o d':=by
 intro l
 induction l with
 |nil=>exact fun d o d' e=>e
 |cons x l ih=>
  rintro ⟨t,dfs,ctx,m⟩ o d' e
  rw[bZ] at e ⊢
  cases hg:av t x.guard with
  |none=>rw[hg] at e;cases e
  |some on=>
   rw[hg] at e
   cases on with
   |false=>exact ih _ _ _ e
   |true=>
    dsimp only at e ⊢
    rw[kX h rfl (BI e)]
    exact we ih e
theorem ja (h:Le a b):∀(l:List NOper) (hs:List (Nat×NH)) (rs:List (Nat×(NH->NR)×NV)) (d:Dyn) (o:Out) (d':Dyn),bx P S a rnd l hs rs d= .mk o d'->bx P S b rnd l hs rs d= .mk o d':=by
 intro l
 induction l with
 |nil=>exact fun hs rs d o d' e=>e
 |cons x l ih=>
  rintro hs rs ⟨t,dfs,ctx,m⟩ o d' e
  rw[bF] at e ⊢
  cases hg:av t x.guard with
  |none=>rw[hg] at e;cases e
  |some on=>
   rw[hg] at e
   cases on with
   |false=>exact ih _ _ _ _ _ e
   |true=>
    dsimp only at e ⊢
    cases hcl:aq x.op with
    |pure=>
     rw[hcl] at e
     dsimp only at e ⊢
     cases hop:ae x.op t m<;>rw[hop] at e<;>first|exact ih _ _ _ _ _ e|cases e
    |alloc=>
     rw[hcl] at e
     dsimp only at e ⊢
     cases ha:ahead x.pre hs with
     |false=>rw[ha] at e;cases e
     |true=>
      rw[ha] at e
      simp only[cond_true] at e ⊢
      cases hop:ae x.op t m<;>rw[hop] at e<;>first|exact ih _ _ _ _ _ e|cases e
    |read=>
     rw[hcl] at e
     dsimp only at e ⊢
     cases hop:ae x.op t m with
     |val v=>
      rw[hop] at e
      dsimp only at e ⊢
      cases hst:dy x.pre (ae x.op t) v hs with
      |false=>rw[hst] at e;cases e
      |true=>rw[hst] at e;exact ih _ _ _ _ _ e
     |_=>rw[hop] at e;cases e
    |eff=>
     rw[hcl] at e
     dsimp only at e ⊢
     cases ha:ahead x.pre hs with
     |false=>rw[ha] at e;cases e
     |true=>
      rw[ha] at e
      simp only[cond_true] at e ⊢
      have hk:∀d o d',cond (aU x.pre d.h rs) (bx P S a rnd l ((x.idx,m)::hs) rs d) .fail= .mk o d'->cond (aU x.pre d.h rs) (bx P S b rnd l ((x.idx,m)::hs) rs d) .fail= .mk o d':=by
       intro d o d' e
       cases hs':aU x.pre d.h rs with
       |false=>rw[hs'] at e;cases e
       |true=>rw[hs'] at e;exact ih _ _ _ _ _ e
      have hne:cZ P S a rnd dfs ctx m (ae x.op t m)≠.fail:=by
       intro hh
       rw[hh] at e
       cases e
      rw[kX h rfl hne]
      cases hoo:cZ P S a rnd dfs ctx m (ae x.op t m) with
      |fail=>exact IL hoo hne
      |pan v m'=>rw[hoo] at e;exact e
      |next v dfs1 ctx1 m'=>
       rw[hoo] at e
       have e':cq (bN x.idx l) (cond (aU x.pre m' rs) (bx P S a rnd l ((x.idx,m)::hs) rs ⟨aE x.dst v t,dfs1,ctx1,m'⟩) .fail)= .mk o d':=e
       show cq (bN x.idx l) (cond (aU x.pre m' rs) (bx P S b rnd l ((x.idx,m)::hs) rs ⟨aE x.dst v t,dfs1,ctx1,m'⟩) .fail)= .mk o d'
       cases hin:cond (aU x.pre m' rs) (bx P S a rnd l ((x.idx,m)::hs) rs ⟨aE x.dst v t,dfs1,ctx1,m'⟩) .fail with
       |fail=>rw[hin] at e';cases e'
       |mk o2 d2=>
        have:=hk ⟨aE x.dst v t,dfs1,ctx1,m'⟩ o2 d2 hin
        rw[hin] at e'
        rw[show cond (aU x.pre m' rs) (bx P S b rnd l ((x.idx,m)::hs) rs ⟨aE x.dst v t,dfs1,ctx1,m'⟩) .fail= .mk o2 d2 from this]
        exact e'
theorem ij (h:Le a b) {cap:List NV} {ps:List D4} {ctx:Option NV} (e:bL P S a f cap ps x y t dfs ctx m= .mk o d'):bL P S b f cap ps x y t dfs ctx m= .mk o d':=by
 unfold bL at e ⊢
 rw[NH.new_eq] at e ⊢
 cases hc:bJ P S a f (.yld m.next::cap) (m.add (.loop 0 .none t ps x y)) with
 |fail=>rw[hc] at e;cases e
 |val v c m'=>rw[hc] at e;rw[cH h hc (by simp)];exact e
 |pan v c m'=>rw[hc] at e;rw[cH h hc (by simp)];exact e
theorem qF (h:Le a b):Le (cK P S a) (cK P S b):=by
 intro r c d o d' e
 cases c with
 |skip=>exact e
 |reg l=>exact fF h _ _ _ _ e
 |regD l=>
  have e':(match bx P S a r l [] [] d with| .mk (.pan v) d=>Res.mk (.pan v) ⟨kr l d.t,d.dfs,d.ctx,d.h⟩|r=>r)= .mk o d':=e
  show (match bx P S b r l [] [] d with| .mk (.pan v) d=>Res.mk (.pan v) ⟨kr l d.t,d.dfs,d.ctx,d.h⟩|r=>r)= .mk o d'
  cases hr:bx P S a r l [] [] d with
  |fail=>rw[hr] at e';cases e'
  |mk o2 d2=>rw[hr] at e';rw[ja h _ _ _ _ _ _ hr];exact e'
 |seq x y=>
  have e':(match a r x d with| .mk o d=>(match o with| .norm=>a r y d|o=> .mk o d)| .fail=> .fail)=Res.mk o d':=(qi (cf:=P) (S:=S)).symm.trans e
  refine (qi (cf:=P) (S:=S)).trans ?_
  show (match b r x d with| .mk o d=>(match o with| .norm=>b r y d|o=> .mk o d)| .fail=> .fail)=Res.mk o d'
  cases hx:a r x d with
  |fail=>rw[hx] at e';cases e'
  |mk o2 d2=>
   rw[hx] at e'
   rw[h _ _ _ _ _ hx]
   cases o2 with
   |norm=>exact h _ _ _ _ _ e'
   |_=>exact e'
 |cond g x y=>
  have e':(match ρ d.t g with|some (.bool c)=>(Bool.rec (a r y d) (a r x d) c:Res)|_=> .fail)=Res.mk o d':=(mM (cf:=P) (S:=S)).symm.trans e
  refine (mM (cf:=P) (S:=S)).trans ?_
  show (match ρ d.t g with|some (.bool c)=>(Bool.rec (b r y d) (b r x d) c:Res)|_=> .fail)=Res.mk o d'
  cases hg:ρ d.t g with
  |none=>rw[hg] at e';cases e'
  |some v=>
   rw[hg] at e'
   cases v with
   |bool q=>cases q<;>exact h _ _ _ _ _ e'
   |_=>cases e'
 |block id x=>
  have e':(match a r x d with| .mk o d=>(match o with| .exit i=>cond (Nat.beq i id) (.mk .norm d) (.mk (.exit i) d)|o=> .mk o d)| .fail=> .fail)=Res.mk o d':=(km (cf:=P) (S:=S)).symm.trans e
  refine (km (cf:=P) (S:=S)).trans ?_
  show (match b r x d with| .mk o d=>(match o with| .exit i=>cond (Nat.beq i id) (.mk .norm d) (.mk (.exit i) d)|o=> .mk o d)| .fail=> .fail)=Res.mk o d'
  cases hx:a r x d with
  |fail=>rw[hx] at e';cases e'
  |mk o2 d2=>rw[hx] at e';rw[h _ _ _ _ _ hx];exact e'
 |loop x=>
  have e':(match a r x d with| .mk o d=>(match o with| .norm=>a r (.loop x) d|o=> .mk o d)| .fail=> .fail)=Res.mk o d':=(mO (cf:=P) (S:=S)).symm.trans e
  refine (mO (cf:=P) (S:=S)).trans ?_
  show (match b r x d with| .mk o d=>(match o with| .norm=>b r (.loop x) d|o=> .mk o d)| .fail=> .fail)=Res.mk o d'
  cases hx:a r x d with
  |fail=>rw[hx] at e';cases e'
  |mk o2 d2=>
   rw[hx] at e'
   rw[h _ _ _ _ _ hx]
   cases o2 with
   |norm=>exact h _ _ _ _ _ e'
   |_=>exact e'
 |rangeFunc f ps x y=>
  obtain ⟨t,dfs,ctx,m⟩:=d
  have e':(match ρ t f with
   |some (.fn f cap)=>(match (generalizing:=false) r with
    |none=>m.new (.defd true) fun q m=>bL P S a f cap ps x y t (.mark q::dfs) ctx m
    |some l=>(match m.get l with
     |some (.loop ..)=>bL P S a f cap ps x y t dfs ctx m
     |_=> .fail))
   |_=> .fail)=Res.mk o d':=e
  show (match ρ t f with
   |some (.fn f cap)=>(match (generalizing:=false) r with
    |none=>m.new (.defd true) fun q m=>bL P S b f cap ps x y t (.mark q::dfs) ctx m
    |some l=>(match m.get l with
     |some (.loop ..)=>bL P S b f cap ps x y t dfs ctx m
     |_=> .fail))
   |_=> .fail)=Res.mk o d'
  cases hf:ρ t f with
  |none=>rw[hf] at e';cases e'
  |some v=>
   rw[hf] at e'
   cases v with
   |fn f cap=>
    dsimp only at e' ⊢
    cases r with
    |none=>
     dsimp only at e' ⊢
     rw[NH.new_eq] at e' ⊢
     exact ij h e'
    |some l=>
     dsimp only at e' ⊢
     split at e'
     ·exact ij h e'
     ·cases e'
   |_=>cases e'
 |exit id=>exact e
 |ret=>exact e
theorem y9:∀n,Le (ev P S n) (ev P S (n+1)):=by
 intro n
 induction n with
 |zero=>intro r c d o d' e;cases e
 |succ n ih=>exact qF ih
theorem bB {n m:Nat} (hnm:n<=m):Le (ev P S n) (ev P S m):=by
 induction m with
 |zero=>
  have:n=0:=by omega
  subst this;exact fun _ _ _ _ _ e=>e
 |succ m ih=>
  by_cases h:n=m+1
  ·subst h;exact fun _ _ _ _ _ e=>e
  ·exact fun r c d o d' e=>y9 m r c d o d' (ih (by omega) r c d o d' e)
end
def du (P:Program) (S:Nat->List NV->Option NV) (r:Option D4) (c:NC) (d:Dyn) (o:Out) (d':Dyn):Prop:=∃n,ev P S n r c d= .mk o d'
def Call (P:Program) (S:Nat->List NV->Option NV) (f:Nat) (l:List NV) (m:NH) (x:CR):Prop:=x≠.fail/\∃n,bJ P S (ev P S n) f l m=x
def jI (P:Program) (S:Nat->List NV->Option NV) (r:Option D4) (l:List NOper) (d:Dyn) (o:Out) (d':Dyn):Prop:=∃n,cm P S (ev P S n) r l d= .mk o d'
section
variable {P:Program} {S:Nat->List NV->Option NV} {r:Option D4}
theorem du.skip (d:Dyn):du P S r .skip d .norm d:=⟨1,rfl⟩
theorem du.ret (d:Dyn):du P S r .ret d .ret d:=⟨1,rfl⟩
theorem du.exit (id:Nat) (d:Dyn):du P S r (.exit id) d (.exit id) d:=⟨1,rfl⟩
theorem du.seq  {d2:Dyn} (hx:du P S r x d .norm d1) (hy:du P S r y d1 o d2):du P S r (.seq x y) d o d2:=by
 obtain ⟨n,hn⟩:=hx
 obtain ⟨m,hm⟩:=hy
 refine ⟨max n m+1, ?_⟩
 refine qH.trans ?_
 show (match ev P S (max n m) r x d with| .mk o d=>(match o with| .norm=>ev P S (max n m) r y d|o=> .mk o d)| .fail=> .fail)=Res.mk o d2
 rw[bB (Nat.le_max_left n m) _ _ _ _ _ hn]
 exact bB (Nat.le_max_right n m) _ _ _ _ _ hm
theorem du.seq_out  (hx:du P S r x d o d1) (ho:o≠.norm):du P S r (.seq x y) d o d1:=by
 obtain ⟨n,hn⟩:=hx
 refine ⟨n+1, ?_⟩
 refine qH.trans ?_
 show (match ev P S n r x d with| .mk o d=>(match o with| .norm=>ev P S n r y d|o=> .mk o d)| .fail=> .fail)=Res.mk o d1
 rw[hn]
 cases o<;>first|rfl|exact IL rfl ho
theorem du.cond {g:NOpd} {q:Bool} (hg:ρ d.t g=some (.bool q)) (h:du P S r (if q then x else y) d o d1):du P S r (.cond g x y) d o d1:=by
 obtain ⟨n,hn⟩:=h
 refine ⟨n+1, ?_⟩
 refine rU.trans ?_
 show (match ρ d.t g with|some (.bool c)=>(Bool.rec (ev P S n r y d) (ev P S n r x d) c:Res)|_=> .fail)=Res.mk o d1
 rw[hg]
 cases q<;>exact hn
theorem du.block {id:Nat} (h:du P S r x d o d1):du P S r (.block id x) d (match o with| .exit i=>_root_.cond (Nat.beq i id) .norm (.exit i)|o=>o) d1:=by
 obtain ⟨n,hn⟩:=h
 refine ⟨n+1, ?_⟩
 refine oT.trans ?_
 show (match ev P S n r x d with| .mk o d=>(match o with| .exit i=>_root_.cond (Nat.beq i id) (Res.mk .norm d) (Res.mk (.exit i) d)|o=>Res.mk o d)| .fail=>Res.fail)=_
 rw[hn]
 cases o with
 |exit i=>dsimp only;cases Nat.beq i id<;>rfl
 |_=>rfl
theorem du.loop  {d2:Dyn} (hx:du P S r x d .norm d1) (hy:du P S r (.loop x) d1 o d2):du P S r (.loop x) d o d2:=by
 obtain ⟨n,hn⟩:=hx
 obtain ⟨m,hm⟩:=hy
 refine ⟨max n m+1, ?_⟩
 refine nd.trans ?_
 show (match ev P S (max n m) r x d with| .mk o d=>(match o with| .norm=>ev P S (max n m) r (.loop x) d|o=> .mk o d)| .fail=> .fail)=Res.mk o d2
 rw[bB (Nat.le_max_left n m) _ _ _ _ _ hn]
 exact bB (Nat.le_max_right n m) _ _ _ _ _ hm
theorem du.loop_out  (hx:du P S r x d o d1) (ho:o≠.norm):du P S r (.loop x) d o d1:=by
 obtain ⟨n,hn⟩:=hx
 refine ⟨n+1, ?_⟩
 refine nd.trans ?_
 show (match ev P S n r x d with| .mk o d=>(match o with| .norm=>ev P S n r (.loop x) d|o=> .mk o d)| .fail=> .fail)=Res.mk o d1
 rw[hn]
 cases o<;>first|rfl|exact IL rfl ho
theorem du.reg  (h:jI P S r l d o d1):du P S r (.reg l) d o d1:=by
 obtain ⟨n,hn⟩:=h
 exact ⟨n+1,hn⟩
theorem jI.nil (d:Dyn):jI P S r [] d .norm d:=⟨0,rfl⟩
theorem jI.val {x:NOper} {ctx:Option NV} (hg:av t x.guard=some true) (hop:ae x.op t m= .val v)
 (h:jI P S r l ⟨aE x.dst v t,dfs,ctx,m⟩ o d1):jI P S r (x::l) ⟨t,dfs,ctx,m⟩ o d1:=by
 obtain ⟨n,hn⟩:=h
 refine ⟨n, ?_⟩
 rw[bZ,hg,hop]
 exact hn
theorem jI.mem {x:NOper} {ctx:Option NV} {m':NH} (hg:av t x.guard=some true) (hop:ae x.op t m= .mem v m')
 (h:jI P S r l ⟨aE x.dst v t,dfs,ctx,m'⟩ o d1):jI P S r (x::l) ⟨t,dfs,ctx,m⟩ o d1:=by
 obtain ⟨n,hn⟩:=h
 refine ⟨n, ?_⟩
 rw[bZ,hg,hop]
 exact hn
theorem jI.off {x:NOper} {ctx:Option NV} (hg:av t x.guard=some false)
 (h:jI P S r l ⟨aE x.dst aA t,dfs,ctx,m⟩ o d1):jI P S r (x::l) ⟨t,dfs,ctx,m⟩ o d1:=by
 obtain ⟨n,hn⟩:=h
 refine ⟨n, ?_⟩
 rw[bZ,hg]
 exact hn
theorem jI.call {x:NOper} {ctx:Option NV} {m':NH} {c:Option NV} (hg:av t x.guard=some true) (hop:ae x.op t m= .call f args)
 (hc:Call P S f args m (.val v c m')) (h:jI P S r l ⟨aE x.dst v t,dfs,ctx,m'⟩ o d1):jI P S r (x::l) ⟨t,dfs,ctx,m⟩ o d1:=by
 obtain ⟨n,hn⟩:=h
 obtain ⟨hne,k,hk⟩:=hc
 refine ⟨max n k, ?_⟩
 rw[bZ,hg,hop]
 show up x.dst (cm P S (ev P S (max n k)) r l) t dfs ctx (rQ dfs ctx (bJ P S (ev P S (max n k)) f args m))=_
 rw[cH (bB (Nat.le_max_right n k)) hk hne]
 exact fF (bB (Nat.le_max_left n k)) _ _ _ _ hn
theorem Call.of_run  {nf:NFun} (hs:∀l,S f l=none) (hf:ai P f=some (.code nf)) (ho:o= .norm∨o= .ret) (h:du P S none nf.body ⟨cO args 0 .leaf, [],none,m⟩ o d) (hd:d.dfs= [])
 {x:CR} (hx:bK d.h d.t nf.results .fail (fun l=> .val (fh l) d.ctx d.h)=x) (hne:x≠.fail):Call P S f args m x:=by
 obtain ⟨n,hn⟩:=h
 refine ⟨hne,n, ?_⟩
 unfold bJ
 rw[hs]
 dsimp only
 rw[hf]
 dsimp only
 rw[dS,hf]
 dsimp only
 rw[hn]
 rcases ho with rfl|rfl<;>(dsimp only;rw[hd];exact hx)
theorem uI (hM:P.follows .mixedOrders=true) (hP:P.check= .ok ()) (hS:aX P S) {m':NH} {c:Option NV} {nf:NFun} (hf:ai P f=some (.code nf)) (hs:S f args=none) (hc:Call P S f args m (.val v c m'))
 {ι:aO} {w:World} (hR:Rel P ι w.heap.size m w) (hlive:∀i p,ι i=some p->¬Live (m.get i)) {args':List Value} (ha:VRL ι args args'):
 Calls P f args'.toArray w fun e w'=>(∃ι' v',e= .returned v'/\VR ι' v v'/\ι.le ι'/\Rel P ι' w.heap.size m' w')/\Below w.heap.size w w':=by
 intro cs
 obtain ⟨_,n,hn⟩:=hc
 have hn':bW P (ev P S n) 3 f args none m= .val v c m':=by
  unfold bJ at hn
  rw[hs] at hn
  dsimp only at hn
  rw[hf] at hn
  exact hn
 obtain ⟨hO,_⟩:=jW hM (iG hP) hS n
 have hD:=fP (iG hP) hO 3 f args none m
 obtain ⟨_,hF⟩:=hD (by rw[hn'];simp)
 have hF:=hF w.heap.size ι w args' .normal cs hR (Nat.le_refl _) ha (fun b hb=>by unfold tryRecover;rw[hb])
 rw[hn'] at hF
 obtain ⟨ι',v',w',cs',fr,f1,f2,f3,f4,f5,f6,f7,f8,f9⟩:=hF
 obtain ⟨rfl,_⟩:=f5.none
 refine ⟨.returned v',w',fr,⟨⟨ι',v',rfl,f1,f4.le,f2⟩,⟨f4.os,f4.tape,f4.output,f4.size,fun k hk=>f4.frame k hk fun i p hi hl=>IL hl (hlive i p hi)⟩⟩,f6,f8,dg f7 f9⟩
end
end Nm
namespace Nm
open Go Go.RowKit
variable {a b:Int} {k:IntKind}
noncomputable def aw:List (D4×NV)->Tm->Tm
 | [],t=>t
 |p::l,t=>NT.put p.1 p.2 (aw l t)
noncomputable def dt (k:D4):List (D4×NV)->Option NV->Option NV
 | [],d=>d
 |p::l,d=>cond (aT k p.1) (some p.2) (dt k l d)
theorem kl (k:D4):aT k k=true:=by
 induction k with
 |e=>rfl
 |a d ih=>exact ih
 |b d ih=>exact ih
 |c d ih=>exact ih
 |f d ih=>exact ih
theorem d6 (k:D4) (l:List (D4×NV)) (t:Tm):NT.get k (aw l t)=dt k l (NT.get k t):=by
 induction l with
 |nil=>rfl
 |cons p l ih=>
  show NT.get k (NT.put p.1 p.2 (aw l t))=cond (aT k p.1) (some p.2) (dt k l (NT.get k t))
  cases h:aT k p.1 with
  |true=>rw[fo h,NT.get_put_same];rfl
  |false=>
   have hne:k≠p.1:=fun e=>by rw[e,kl] at h;cases h
   rw[NT.get_put_ne hne,ih];rfl
def br (P:Program) (S:Nat->List NV->Option NV) (r:Option D4) (l:List NOper) (hs:List (Nat×NH)) (rs:List (Nat×(NH->NR)×NV)) (d:Dyn) (o:Out) (d':Dyn):Prop:=∃n,bx P S (ev P S n) r l hs rs d= .mk o d'
section
variable {P:Program} {S:Nat->List NV->Option NV} {r:Option D4} {x:NOper} {l:List NOper} {hs:List (Nat×NH)} {rs:List (Nat×(NH->NR)×NV)} {t:Tm} {dfs:List Dfr} {ctx:Option NV} {m m':NH} {o:Out} {d d1:Dyn} {v:NV}
theorem du.regD (h:br P S r l [] [] d .norm d1):du P S r (.regD l) d .norm d1:=by
 obtain ⟨n,hn⟩:=h
 refine ⟨n+1, ?_⟩
 show (match bx P S (ev P S n) r l [] [] d with| .mk (.pan v) d=>Res.mk (.pan v) ⟨kr l d.t,d.dfs,d.ctx,d.h⟩|r=>r)=_
 rw[hn]
theorem br.nil (d:Dyn):br P S r [] hs rs d .norm d:=⟨0,rfl⟩
theorem br.off (hg:av t x.guard=some false) (h:br P S r l hs rs ⟨aE x.dst aA t,dfs,ctx,m⟩ o d1):br P S r (x::l) hs rs ⟨t,dfs,ctx,m⟩ o d1:=by
 obtain ⟨n,hn⟩:=h
 exact ⟨n,by rw[bF,hg];exact hn⟩
theorem br.pure (hg:av t x.guard=some true) (hc:aq x.op= .pure) (hop:ae x.op t m= .val v) (h:br P S r l hs rs ⟨aE x.dst v t,dfs,ctx,m⟩ o d1):br P S r (x::l) hs rs ⟨t,dfs,ctx,m⟩ o d1:=by
 obtain ⟨n,hn⟩:=h
 exact ⟨n,by rw[bF,hg];dsimp only;rw[hc];dsimp only;rw[hop];exact hn⟩
theorem br.alloc (hg:av t x.guard=some true) (hc:aq x.op= .alloc) (ha:ahead x.pre hs=true) (hop:ae x.op t m= .mem v m') (h:br P S r l hs rs ⟨aE x.dst v t,dfs,ctx,m'⟩ o d1):br P S r (x::l) hs rs ⟨t,dfs,ctx,m⟩ o d1:=by
 obtain ⟨n,hn⟩:=h
 exact ⟨n,by rw[bF,hg];dsimp only;rw[hc];dsimp only;rw[ha,hop];exact hn⟩
theorem br.read (hg:av t x.guard=some true) (hc:aq x.op= .read) (hop:ae x.op t m= .val v) (ha:dy x.pre (ae x.op t) v hs=true)
 (h:br P S r l hs ((x.idx,ae x.op t,v)::rs) ⟨aE x.dst v t,dfs,ctx,m⟩ o d1):br P S r (x::l) hs rs ⟨t,dfs,ctx,m⟩ o d1:=by
 obtain ⟨n,hn⟩:=h
 exact ⟨n,by rw[bF,hg];dsimp only;rw[hc];dsimp only;rw[hop];dsimp only;rw[ha];exact hn⟩
theorem br.eff (hg:av t x.guard=some true) (hc:aq x.op= .eff) (ha:ahead x.pre hs=true) (hop:ae x.op t m= .mem v m') (hst:aU x.pre m' rs=true)
 (h:br P S r l ((x.idx,m)::hs) rs ⟨aE x.dst v t,dfs,ctx,m'⟩ .norm d1):br P S r (x::l) hs rs ⟨t,dfs,ctx,m⟩ .norm d1:=by
 obtain ⟨n,hn⟩:=h
 refine ⟨n, ?_⟩
 rw[bF,hg];dsimp only;rw[hc];dsimp only;rw[ha,hop]
 show cq (bN x.idx l) (cond (aU x.pre m' rs) (bx P S (ev P S n) r l ((x.idx,m)::hs) rs ⟨aE x.dst v t,dfs,ctx,m'⟩) .fail)=_
 rw[hst]
 show cq (bN x.idx l) (bx P S (ev P S n) r l ((x.idx,m)::hs) rs ⟨aE x.dst v t,dfs,ctx,m'⟩)=_
 rw[hn];rfl
theorem br.effv (hg:av t x.guard=some true) (hc:aq x.op= .eff) (ha:ahead x.pre hs=true) (hop:ae x.op t m= .val v) (hst:aU x.pre m rs=true)
 (h:br P S r l ((x.idx,m)::hs) rs ⟨aE x.dst v t,dfs,ctx,m⟩ .norm d1):br P S r (x::l) hs rs ⟨t,dfs,ctx,m⟩ .norm d1:=by
 obtain ⟨n,hn⟩:=h
 refine ⟨n, ?_⟩
 rw[bF,hg];dsimp only;rw[hc];dsimp only;rw[ha,hop]
 show cq (bN x.idx l) (cond (aU x.pre m rs) (bx P S (ev P S n) r l ((x.idx,m)::hs) rs ⟨aE x.dst v t,dfs,ctx,m⟩) .fail)=_
 rw[hst]
 show cq (bN x.idx l) (bx P S (ev P S n) r l ((x.idx,m)::hs) rs ⟨aE x.dst v t,dfs,ctx,m⟩)=_
 rw[hn];rfl
theorem br.call {f:Nat} {args:List NV} {c:Option NV} (hg:av t x.guard=some true) (hc:aq x.op= .eff) (ha:ahead x.pre hs=true) (hop:ae x.op t m= .call f args) (hcall:Call P S f args m (.val v c m')) (hst:aU x.pre m' rs=true)
 (h:br P S r l ((x.idx,m)::hs) rs ⟨aE x.dst v t,dfs,ctx,m'⟩ .norm d1):br P S r (x::l) hs rs ⟨t,dfs,ctx,m⟩ .norm d1:=by
 obtain ⟨n,hn⟩:=h
 obtain ⟨hne,k,hk⟩:=hcall
 refine ⟨max n k, ?_⟩
 rw[bF,hg];dsimp only;rw[hc];dsimp only;rw[ha,hop]
 show cq (bN x.idx l) (up x.dst (fun d=>cond (aU x.pre d.h rs) (bx P S (ev P S (max n k)) r l ((x.idx,m)::hs) rs d) .fail) t dfs ctx (rQ dfs ctx (bJ P S (ev P S (max n k)) f args m)))=_
 rw[cH (bB (Nat.le_max_right n k)) hk hne]
 show cq (bN x.idx l) (cond (aU x.pre m' rs) (bx P S (ev P S (max n k)) r l ((x.idx,m)::hs) rs ⟨aE x.dst v t,dfs,ctx,m'⟩) .fail)=_
 rw[hst]
 show cq (bN x.idx l) (bx P S (ev P S (max n k)) r l ((x.idx,m)::hs) rs ⟨aE x.dst v t,dfs,ctx,m'⟩)=_
 rw[ja (bB (Nat.le_max_left n k)) _ _ _ _ _ _ hn];rfl
end
def sZ (P:Program) (S:Nat->List NV->Option NV) (l:D4) (args:List NV) (m:NH) (x:CR):Prop:=x≠.fail/\∃n,round (ev P S n) l args m=x
section
variable {P:Program} {S:Nat->List NV->Option NV} {r:Option D4} {x:NOper} {l:List NOper} {hs:List (Nat×NH)} {rs:List (Nat×(NH->NR)×NV)} {t:Tm} {dfs:List Dfr} {ctx:Option NV} {m m':NH} {o:Out} {d1:Dyn} {v:NV} {q:D4} {args:List NV} {c:Option NV}
theorem jI.yld (hg:av t x.guard=some true) (hop:ae x.op t m= .yld q args) (hc:sZ P S q args m (.val v c m')) (h:jI P S r l ⟨aE x.dst v t,dfs,ctx,m'⟩ o d1):jI P S r (x::l) ⟨t,dfs,ctx,m⟩ o d1:=by
 obtain ⟨n,hn⟩:=h
 obtain ⟨hne,k,hk⟩:=hc
 refine ⟨max n k, ?_⟩
 rw[bZ,hg,hop]
 show up x.dst (cm P S (ev P S (max n k)) r l) t dfs ctx (rQ dfs ctx (round (ev P S (max n k)) q args m))=_
 rw[dZ (bB (Nat.le_max_right n k)) hk hne]
 exact fF (bB (Nat.le_max_left n k)) _ _ _ _ hn
theorem br.yld (hg:av t x.guard=some true) (hc:aq x.op= .eff) (ha:ahead x.pre hs=true) (hop:ae x.op t m= .yld q args) (hcall:sZ P S q args m (.val v c m')) (hst:aU x.pre m' rs=true)
 (h:br P S r l ((x.idx,m)::hs) rs ⟨aE x.dst v t,dfs,ctx,m'⟩ .norm d1):br P S r (x::l) hs rs ⟨t,dfs,ctx,m⟩ .norm d1:=by
 obtain ⟨n,hn⟩:=h
 obtain ⟨hne,k,hk⟩:=hcall
 refine ⟨max n k, ?_⟩
 rw[bF,hg];dsimp only;rw[hc];dsimp only;rw[ha,hop]
 show cq (bN x.idx l) (up x.dst (fun d=>cond (aU x.pre d.h rs) (bx P S (ev P S (max n k)) r l ((x.idx,m)::hs) rs d) .fail) t dfs ctx (rQ dfs ctx (round (ev P S (max n k)) q args m)))=_
 rw[dZ (bB (Nat.le_max_right n k)) hk hne]
 show cq (bN x.idx l) (cond (aU x.pre m' rs) (bx P S (ev P S (max n k)) r l ((x.idx,m)::hs) rs ⟨aE x.dst v t,dfs,ctx,m'⟩) .fail)=_
 rw[hst]
 show cq (bN x.idx l) (bx P S (ev P S (max n k)) r l ((x.idx,m)::hs) rs ⟨aE x.dst v t,dfs,ctx,m'⟩)=_
 rw[ja (bB (Nat.le_max_left n k)) _ _ _ _ _ _ hn];rfl
end
section
variable {P:Program} {S:Nat->List NV->Option NV} {r:Option D4} {x:NOper} {l:List NOper} {hs:List (Nat×NH)} {rs:List (Nat×(NH->NR)×NV)} {L:List (D4×NV)} {t:Tm} {dfs:List Dfr} {ctx:Option NV} {m m':NH} {o:Out} {d1:Dyn} {v:NV} {k:D4}
theorem br.p (hd:x.dst=some k) (hg:av (aw L t) x.guard=some true) (hc:aq x.op= .pure) (hop:ae x.op (aw L t) m= .val v) (h:br P S r l hs rs ⟨aw ((k,v)::L) t,dfs,ctx,m⟩ o d1):br P S r (x::l) hs rs ⟨aw L t,dfs,ctx,m⟩ o d1:=
 br.pure hg hc hop (by rw[hd];exact h)
theorem br.e (hd:x.dst=some k) (hg:av (aw L t) x.guard=some true) (hc:aq x.op= .eff) (ha:ahead x.pre hs=true) (hop:ae x.op (aw L t) m= .mem v m') (hst:aU x.pre m' rs=true)
 (h:br P S r l ((x.idx,m)::hs) rs ⟨aw ((k,v)::L) t,dfs,ctx,m'⟩ .norm d1):br P S r (x::l) hs rs ⟨aw L t,dfs,ctx,m⟩ .norm d1:=
 br.eff hg hc ha hop hst (by rw[hd];exact h)
theorem br.c {f:Nat} {args:List NV} {c:Option NV} (hd:x.dst=some k) (hg:av (aw L t) x.guard=some true) (hc:aq x.op= .eff) (ha:ahead x.pre hs=true) (hop:ae x.op (aw L t) m= .call f args) (hcall:Call P S f args m (.val v c m')) (hst:aU x.pre m' rs=true)
 (h:br P S r l ((x.idx,m)::hs) rs ⟨aw ((k,v)::L) t,dfs,ctx,m'⟩ .norm d1):br P S r (x::l) hs rs ⟨aw L t,dfs,ctx,m⟩ .norm d1:=
 br.call hg hc ha hop hcall hst (by rw[hd];exact h)
end
section
variable {t:Tm} {m:NH}
theorem gU {op:BinOp} (h:dG op=false):cz .num op (.int k (.lit a)) (.int k (.lit b))=cl op k a b:=by
 show cond (dG op) (cl op k a b) (cond (ul k k) (cl op k a b) none)=_
 rw[show ul k k=true by cases k<;>rfl,h];rfl
theorem FZ :cz .num .lss (.int k (.lit a)) (.int k (.lit b))=some (.bool (decide (a<b))):=
 (gU rfl).trans (by show bw (pe a b)=_;rw[fa,aQ])
theorem Fz :cz .num .gtr (.int k (.lit a)) (.int k (.lit b))=some (.bool (decide (b<a))):=
 (gU rfl).trans (by show bw (pe b a)=_;rw[fa,aQ])
theorem ES :cz .num .geq (.int k (.lit a)) (.int k (.lit b))=some (.bool (decide (b<=a))):=
 (gU rfl).trans (by show bw (Du b a)=_;rw[my,aQ])
theorem Gr :cz .num .eql (.int k (.lit a)) (.int k (.lit b))=some (.bool (decide (a=b))):=
 (gU rfl).trans (by show bw (nH a b)=_;rw[dw,aQ];rfl)
theorem Gc :cz .num .neq (.int k (.lit a)) (.int k (.lit b))=some (.bool (decide (a≠b))):=
 (gU rfl).trans (by show bw (iz (nH a b))=_;rw[dw,aQ,dH];by_cases h:a=b<;>simp[h])
theorem wrap_small {n:Int} (h:-9223372036854775808<=n) (h':n<9223372036854775808):bp .i64 n=n:=by
 cases n with
 |ofNat m=>
  show cond (Nat.ble (Nat.succ m) 9223372036854775808) (Int.ofNat m) _=_
  rw[Nat.ble_eq_true_of_le (by have:(m:Int)<9223372036854775808:=h';omega)];rfl
 |negSucc m=>
  show cond (Nat.ble (Nat.succ m) 9223372036854775808) (Int.negSucc m) _=_
  rw[Nat.ble_eq_true_of_le (by have:-9223372036854775808<=Int.negSucc m:=h;omega)];rfl
theorem Hg  (h:-9223372036854775808<=a+b) (h':a+b<9223372036854775808):cz .num .add (.int .i64 (.lit a)) (.int .i64 (.lit b))=some (.int .i64 (.lit (a+b))):=by
 refine (gU rfl).trans ?_
 show bD .i64 (bp .i64 (qo a b))=_
 have e:qo a b=a+b:=by cases a<;>cases b<;>rfl
 rw[e,wrap_small h h']
 exact fS _ _
end
end Nm
namespace Nm
open Go Go.RowKit
def fu (K:Dyn->Prop) (Q:Out->Dyn->Prop) (o:Out) (d:Dyn):Prop:=match o with| .norm=>K d|o=>Q o d
def dv (i:Nat) (Q:Out->Dyn->Prop) (o:Out) (d:Dyn):Prop:=match o with| .exit j=>Q (if j=i then .norm else .exit j) d|o=>Q o d
def wB (o:Option NV) (A B:Prop):Prop:=match o with|some (.bool q)=>(q=true->A)/\(q=false->B)|_=>False
section
variable (P:Program) (S:Nat->List NV->Option NV) (r:Option D4)
def W (c:NC) (d:Dyn) (Q:Out->Dyn->Prop):Prop:=∃o d',du P S r c d o d'/\Q o d'
def wN (dst:Option D4) (t:Tm) (dfs:List Dfr) (ctx:Option NV) (m:NH) (x:NR) (K:Dyn->Prop):Prop:=match x with
 | .val v=>K ⟨aE dst v t,dfs,ctx,m⟩
 | .mem v m'=>K ⟨aE dst v t,dfs,ctx,m'⟩
 | .call f args=>∃v c m',Call P S f args m (.val v c m')/\K ⟨aE dst v t,dfs,ctx,m'⟩
 | .yld q args=>∃v c m',sZ P S q args m (.val v c m')/\K ⟨aE dst v t,dfs,ctx,m'⟩
 |_=>False
def wO:List NOper->Dyn->(Dyn->Prop)->Prop
 | [],d,K=>K d
 |x::l,d,K=>match av d.t x.guard with
  |some true=>wN P S x.dst d.t d.dfs d.ctx d.h (ae x.op d.t d.h) fun d=>wO l d K
  |some false=>wO l ⟨aE x.dst aA d.t,d.dfs,d.ctx,d.h⟩ K
  |none=>False
def wD:List NOper->List (Nat×NH)->List (Nat×(NH->NR)×NV)->Dyn->(Dyn->Prop)->Prop
 | [],_,_,d,K=>K d
 |x::l,hs,rs,d,K=>match av d.t x.guard with
  |some true=>(match aq x.op with
   | .pure=>(match ae x.op d.t d.h with| .val v=>wD l hs rs ⟨aE x.dst v d.t,d.dfs,d.ctx,d.h⟩ K|_=>False)
   | .alloc=>ahead x.pre hs=true/\(match ae x.op d.t d.h with| .mem v m'=>wD l hs rs ⟨aE x.dst v d.t,d.dfs,d.ctx,m'⟩ K|_=>False)
   | .read=>(match ae x.op d.t d.h with| .val v=>dy x.pre (ae x.op d.t) v hs=true/\wD l hs ((x.idx,ae x.op d.t,v)::rs) ⟨aE x.dst v d.t,d.dfs,d.ctx,d.h⟩ K|_=>False)
   | .eff=>ahead x.pre hs=true/\wN P S x.dst d.t d.dfs d.ctx d.h (ae x.op d.t d.h) fun d'=>aU x.pre d'.h rs=true/\wD l ((x.idx,d.h)::hs) rs d' K)
  |some false=>wD l hs rs ⟨aE x.dst aA d.t,d.dfs,d.ctx,d.h⟩ K
  |none=>False
def wp:NC->Dyn->(Out->Dyn->Prop)->Prop
 | .skip,d,Q=>Q .norm d
 | .ret,d,Q=>Q .ret d
 | .exit i,d,Q=>Q (.exit i) d
 | .seq a b,d,Q=>wp a d (fu (fun d=>wp b d Q) Q)
 | .cond g a b,d,Q=>wB (ρ d.t g) (wp a d Q) (wp b d Q)
 | .block i a,d,Q=>wp a d (dv i Q)
 | .reg l,d,Q=>wO P S l d (Q .norm)
 | .regD l,d,Q=>wD P S l [] [] d (Q .norm)
 | .loop a,d,Q=>W P S r (.loop a) d Q
 | .rangeFunc f ps a b,d,Q=>W P S r (.rangeFunc f ps a b) d Q
end
section
variable {P:Program} {S:Nat->List NV->Option NV} {r:Option D4}
theorem u9:∀(l:List NOper) (d:Dyn) (K:Dyn->Prop),wO P S l d K->∃d',jI P S r l d .norm d'/\K d':=by
 intro l
 induction l with
 |nil=>exact fun d K h=>⟨d,jI.nil d,h⟩
 |cons x l ih=>
  rintro ⟨t,dfs,ctx,m⟩ K h
  unfold wO at h
  dsimp only at h
  split at h
  ·rename_i hg
   cases hop:ae x.op t m with
   |val v=>rw[hop] at h;obtain ⟨d',h1,h2⟩:=ih _ _ h;exact ⟨d',jI.val hg hop h1,h2⟩
   |mem v m'=>rw[hop] at h;obtain ⟨d',h1,h2⟩:=ih _ _ h;exact ⟨d',jI.mem hg hop h1,h2⟩
   |call f args=>
    rw[hop] at h
    obtain ⟨v,c,m',hc,h⟩:=h
    obtain ⟨d',h1,h2⟩:=ih _ _ h
    exact ⟨d',jI.call hg hop hc h1,h2⟩
   |yld q args=>
    rw[hop] at h
    obtain ⟨v,c,m',hc,h⟩:=h
    obtain ⟨d',h1,h2⟩:=ih _ _ h
    exact ⟨d',jI.yld hg hop hc h1,h2⟩
   |_=>rw[hop] at h;exact h.elim
  ·rename_i hg
   obtain ⟨d',h1,h2⟩:=ih _ _ h;exact ⟨d',jI.off hg h1,h2⟩
  ·exact h.elim
theorem xj:∀(l:List NOper) (hs:List (Nat×NH)) (rs:List (Nat×(NH->NR)×NV)) (d:Dyn) (K:Dyn->Prop),wD P S l hs rs d K->∃d',br P S r l hs rs d .norm d'/\K d':=by
 intro l
 induction l with
 |nil=>exact fun hs rs d K h=>⟨d,br.nil d,h⟩
 |cons x l ih=>
  rintro hs rs ⟨t,dfs,ctx,m⟩ K h
  unfold wD at h
  dsimp only at h
  split at h
  ·rename_i hg
   split at h
   ·rename_i hcl
    cases hop:ae x.op t m with
    |val v=>rw[hop] at h;obtain ⟨d',h1,h2⟩:=ih _ _ _ _ h;exact ⟨d',br.pure hg hcl hop h1,h2⟩
    |_=>rw[hop] at h;exact h.elim
   ·rename_i hcl
    obtain ⟨ha,h⟩:=h
    cases hop:ae x.op t m with
    |mem v m'=>rw[hop] at h;obtain ⟨d',h1,h2⟩:=ih _ _ _ _ h;exact ⟨d',br.alloc hg hcl ha hop h1,h2⟩
    |_=>rw[hop] at h;exact h.elim
   ·rename_i hcl
    cases hop:ae x.op t m with
    |val v=>rw[hop] at h;obtain ⟨ha,h⟩:=h;obtain ⟨d',h1,h2⟩:=ih _ _ _ _ h;exact ⟨d',br.read hg hcl hop ha h1,h2⟩
    |_=>rw[hop] at h;exact h.elim
   ·rename_i hcl
    obtain ⟨ha,h⟩:=h
    cases hop:ae x.op t m with
    |val v=>rw[hop] at h;obtain ⟨hst,h⟩:=h;obtain ⟨d',h1,h2⟩:=ih _ _ _ _ h;exact ⟨d',br.effv hg hcl ha hop hst h1,h2⟩
    |mem v m'=>rw[hop] at h;obtain ⟨hst,h⟩:=h;obtain ⟨d',h1,h2⟩:=ih _ _ _ _ h;exact ⟨d',br.eff hg hcl ha hop hst h1,h2⟩
    |call f args=>
     rw[hop] at h
     obtain ⟨v,c,m',hc,hst,h⟩:=h
     obtain ⟨d',h1,h2⟩:=ih _ _ _ _ h
     exact ⟨d',br.call hg hcl ha hop hc hst h1,h2⟩
    |yld q args=>
     rw[hop] at h
     obtain ⟨v,c,m',hc,hst,h⟩:=h
     obtain ⟨d',h1,h2⟩:=ih _ _ _ _ h
     exact ⟨d',br.yld hg hcl ha hop hc hst h1,h2⟩
    |_=>rw[hop] at h;exact h.elim
  ·rename_i hg
   obtain ⟨d',h1,h2⟩:=ih _ _ _ _ h;exact ⟨d',br.off hg h1,h2⟩
  ·exact h.elim
theorem bz:∀(c:NC) (d:Dyn) (Q:Out->Dyn->Prop),wp P S r c d Q->W P S r c d Q:=by
 intro c
 induction c with
 |skip=>exact fun d Q h=>⟨_,_,du.skip d,h⟩
 |ret=>exact fun d Q h=>⟨_,_,du.ret d,h⟩
 |exit i=>exact fun d Q h=>⟨_,_,du.exit i d,h⟩
 |seq a b iha ihb=>
  intro d Q h
  obtain ⟨o,d1,h1,h2⟩:=iha _ _ h
  cases o with
  |norm=>obtain ⟨o,d2,h3,h4⟩:=ihb _ _ h2;exact ⟨o,d2,du.seq h1 h3,h4⟩
  |_=>exact ⟨_,_,du.seq_out h1 (by simp),h2⟩
 |cond g a b iha ihb=>
  intro d Q h
  unfold wp wB at h
  split at h
  ·rename_i q hq
   cases q with
   |true=>obtain ⟨o,d1,h1,h2⟩:=iha _ _ (h.1 rfl);exact ⟨o,d1,du.cond hq (by simpa using h1),h2⟩
   |false=>obtain ⟨o,d1,h1,h2⟩:=ihb _ _ (h.2 rfl);exact ⟨o,d1,du.cond hq (by simpa using h1),h2⟩
  ·exact h.elim
 |block i a iha=>
  intro d Q h
  obtain ⟨o,d1,h1,h2⟩:=iha _ _ h
  refine ⟨_,d1,du.block h1, ?_⟩
  cases o with
  |exit j=>
   dsimp only
   change Q (if j=i then .norm else .exit j) d1 at h2
   by_cases e:j=i
   ·subst e;rw[IN rfl] at h2;rw[Nat.beq_refl];exact h2
   ·rw[IM e] at h2
    rw[show Nat.beq j i=false from by cases hb:Nat.beq j i with|false=>rfl|true=>exact IL (IT hb) e];exact h2
  |_=>exact h2
 |reg l=>
  intro d Q h
  obtain ⟨d',h1,h2⟩:=u9 (r:=r) _ _ _ h
  exact ⟨_,_,du.reg h1,h2⟩
 |regD l=>
  intro d Q h
  obtain ⟨d',h1,h2⟩:=xj (r:=r) _ _ _ _ _ h
  exact ⟨_,_,du.regD h1,h2⟩
 |loop a _=>exact fun d Q h=>h
 |rangeFunc f ps a b _ _=>exact fun d Q h=>h
theorem W.loop {c:NC} {Q:Out->Dyn->Prop} (I:Nat->Dyn->Prop) (h:∀k d,I k d->W P S r c d (fun o d'=>match o with| .norm=>∃j,j<k/\I j d'|o=>Q o d')):∀k d,I k d->W P S r (.loop c) d Q:=by
 intro k
 induction k using Nat.strongRecOn with
 |ind k ih=>
  intro d hd
  obtain ⟨o,d',h1,h2⟩:=h k d hd
  cases o with
  |norm=>
   obtain ⟨j,hj,hI⟩:=h2
   obtain ⟨o,d2,h3,h4⟩:=ih j hj d' hI
   exact ⟨o,d2,du.loop h1 h3,h4⟩
  |_=>exact ⟨_,_,du.loop_out h1 (by simp),h2⟩
theorem W.mono {c:NC} {d:Dyn} {Q Q':Out->Dyn->Prop} (h:W P S r c d Q) (hq:∀o d,Q o d->Q' o d):W P S r c d Q':=by
 obtain ⟨o,d',h1,h2⟩:=h
 exact ⟨o,d',h1,hq _ _ h2⟩
end
end Nm
namespace Nm
open Go Go.RowKit
variable {x:NOpd} {i:Nat} {o:Option NV}
section
variable {P:Program} {S:Nat->List NV->Option NV} {r:Option D4} {dst:Option D4} {op:NOp} {pre idx:Nat} {l:List NOper} {hs:List (Nat×NH)} {rs:List (Nat×(NH->NR)×NV)}
 {L:List (D4×NV)} {t:Tm} {dfs:List Dfr} {ctx:Option NV} {m m':NH} {v:NV} {k k':D4} {d:Dyn} {Q:Out->Dyn->Prop} {K:Dyn->Prop} {A B:Prop}
theorem BO:wp P S r .skip d Q=Q .norm d:=_root_.id rfl
theorem FX:wp P S r .ret d Q=Q .ret d:=_root_.id rfl
theorem CU :wp P S r (.exit i) d Q=Q (.exit i) d:=_root_.id rfl
theorem yO  {a:NC}:wp P S r (.block i a) d Q=wp P S r a d (dv i Q):=_root_.id rfl
theorem F1:wp P S r (.reg l) d Q=wO P S l d (Q .norm):=_root_.id rfl
theorem BZ:wp P S r (.regD l) d Q=wD P S l [] [] d (Q .norm):=_root_.id rfl
theorem Cz {a:NC}:wp P S r (.loop a) d Q=W P S r (.loop a) d Q:=_root_.id rfl
theorem Cw:fu K Q .norm d=K d:=_root_.id rfl
theorem BF:fu K Q .ret d=Q .ret d:=_root_.id rfl
theorem xB :fu K Q (.exit i) d=Q (.exit i) d:=_root_.id rfl
theorem xU :dv i Q .norm d=Q .norm d:=_root_.id rfl
theorem CM :dv i Q .ret d=Q .ret d:=_root_.id rfl
theorem yI  {j:Nat}:dv i Q (.exit j) d=Q (if j=i then .norm else .exit j) d:=_root_.id rfl
theorem F8:wO P S [] d K=K d:=_root_.id rfl
def wX (c:Cls) (x:NR) (P:Program) (S:Nat->List NV->Option NV) (f:NH->NR) (dst:Option D4) (pre idx:Nat) (l:List NOper) (hs:List (Nat×NH)) (rs:List (Nat×(NH->NR)×NV)) (d:Dyn) (K:Dyn->Prop):Prop:=
 match c with
 | .pure=>(match x with| .val v=>wD P S l hs rs ⟨aE dst v d.t,d.dfs,d.ctx,d.h⟩ K|_=>False)
 | .alloc=>ahead pre hs=true/\(match x with| .mem v m'=>wD P S l hs rs ⟨aE dst v d.t,d.dfs,d.ctx,m'⟩ K|_=>False)
 | .read=>(match x with| .val v=>dy pre f v hs=true/\wD P S l hs ((idx,f,v)::rs) ⟨aE dst v d.t,d.dfs,d.ctx,d.h⟩ K|_=>False)
 | .eff=>ahead pre hs=true/\wN P S dst d.t d.dfs d.ctx d.h x fun d'=>aU pre d'.h rs=true/\wD P S l ((idx,d.h)::hs) rs d' K
theorem Ds:wD P S [] hs rs d K=K d:=_root_.id rfl
theorem zr:wD P S (⟨dst,op,none,pre,idx⟩::l) hs rs ⟨aw L t,dfs,ctx,m⟩ K=wX (aq op) (ae op (aw L t) m) P S (ae op (aw L t)) dst pre idx l hs rs ⟨aw L t,dfs,ctx,m⟩ K:=by
 cases h:aq op<;>simp only[wD,av,h,wX]<;>cases ae op (aw L t) m<;>rfl
section
variable {f:NH->NR}
theorem xI:wX .pure (.val v) P S f (some k) pre idx l hs rs ⟨aw L t,dfs,ctx,m⟩ K=wD P S l hs rs ⟨aw ((k,v)::L) t,dfs,ctx,m⟩ K:=_root_.id rfl
theorem vG:wX .alloc (.mem v m') P S f (some k) pre idx l hs rs ⟨aw L t,dfs,ctx,m⟩ K=(ahead pre hs=true/\wD P S l hs rs ⟨aw ((k,v)::L) t,dfs,ctx,m'⟩ K):=_root_.id rfl
theorem yC:wX .read (.val v) P S f (some k) pre idx l hs rs ⟨aw L t,dfs,ctx,m⟩ K=(dy pre f v hs=true/\wD P S l hs ((idx,f,v)::rs) ⟨aw ((k,v)::L) t,dfs,ctx,m⟩ K):=_root_.id rfl
theorem uA:dy pre f v []=true:=_root_.id rfl
theorem vf:ahead pre []=true:=_root_.id rfl
theorem wm:aU pre m []=true:=_root_.id rfl
end
theorem FJ:NT.get k (aw L t)=dt k L (NT.get k t):=d6 k L t
theorem F0:ρ (aw L t) (.tmp k)=dt k L (NT.get k t):=d6 k L t
theorem zi:ρ t (.const v)=some v:=_root_.id rfl
theorem xO :dt k [] o=o:=_root_.id rfl
theorem CL :dt k ((k',v)::L) o=cond (aT k k') (some v) (dt k L o):=_root_.id rfl
theorem Hu:aT .e .e=true:=_root_.id rfl
theorem H6:aT .e (.a k)=false:=_root_.id rfl
theorem HH:aT .e (.b k)=false:=_root_.id rfl
theorem HP:aT .e (.c k)=false:=_root_.id rfl
theorem IC:aT .e (.f k)=false:=_root_.id rfl
theorem HQ:aT (.a k) .e=false:=_root_.id rfl
theorem Ik:aT (.a k) (.a k')=aT k k':=_root_.id rfl
theorem HT:aT (.a k) (.b k')=false:=_root_.id rfl
theorem HS:aT (.a k) (.c k')=false:=_root_.id rfl
theorem HX:aT (.a k) (.f k')=false:=_root_.id rfl
theorem It:aT (.b k) .e=false:=_root_.id rfl
theorem Iu:aT (.b k) (.a k')=false:=_root_.id rfl
theorem Ij:aT (.b k) (.b k')=aT k k':=_root_.id rfl
theorem HO:aT (.b k) (.c k')=false:=_root_.id rfl
theorem Ip:aT (.b k) (.f k')=false:=_root_.id rfl
theorem HA:aT (.c k) .e=false:=_root_.id rfl
theorem H7:aT (.c k) (.a k')=false:=_root_.id rfl
theorem HY:aT (.c k) (.b k')=false:=_root_.id rfl
theorem Hz:aT (.c k) (.c k')=aT k k':=_root_.id rfl
theorem IB:aT (.c k) (.f k')=false:=_root_.id rfl
theorem Hv:aT (.f k) .e=false:=_root_.id rfl
theorem Hx:aT (.f k) (.a k')=false:=_root_.id rfl
theorem Iy:aT (.f k) (.b k')=false:=_root_.id rfl
theorem Ih:aT (.f k) (.c k')=false:=_root_.id rfl
theorem Ir:aT (.f k) (.f k')=aT k k':=_root_.id rfl
end
def oN (o:Option NV) (K:NV->NR):NR:=match o with|some v=>K v|none=> .fail
theorem HJ {v:NV} {K:NV->NR}:oN (some v) K=K v:=_root_.id rfl
theorem bv {t:Tm} {K:NV->NR}:wV t x K=oN (ρ t x) K:=by
 unfold wV oN;cases ρ t x<;>rfl
theorem H2 {v:NV}:vr (some v)= .val v:=_root_.id rfl
def o9 (v:NV):NR:=match v with| .slc _ _ n _ _=> .val (.int .i64 (.lit (.ofNat n)))| .nils=> .val (.int .i64 (.lit (.ofNat 0)))|_=> .fail
def iy (n:Nat) (s i:NV):NR:=match s,i with| .slc id off len _ _,.int _ (.lit (.ofNat i))=>if i<len then .val (.ptr id (off+i*n)) else .fail|_,_=> .fail
noncomputable def zb (m:NH) (p:NV):NR:=match p with| .ptr id off=>(match m.get id with|some (.cells _ c)=>oN c[off]? .val|_=> .fail)|_=> .fail
noncomputable def xH (n:Nat) (m:NH) (p:NV):NR:=match p with| .ptr id off=>(match m.get id with|some (.cells _ c)=>if off+n<=c.length then .val (.agg ((c.drop off).take n)) else .fail|_=> .fail)|_=> .fail
def EY (k:Nat) (p:NV):NR:=match p with| .ptr id off=> .val (.ptr id (off+k))|_=> .fail
section
variable {t:Tm} {m:NH}
theorem Ec :ae (.move x) t m=oN (ρ t x) .val:=bv
theorem Hi {c:BC} {op:BinOp} {y:NOpd}:ae (.bin c op x y) t m=oN (ρ t x) fun a=>oN (ρ t y) fun b=>vr (cz c op a b):=by
 show wV t x (fun a=>wV t y fun b=>vr (cz c op a b))=_
 simp only[bv]
theorem Ig {u:UnOp}:ae (.un u x) t m=oN (ρ t x) fun v=>vr (Ho u v):=bv
theorem Ha :ae (.lenSlc x) t m=oN (ρ t x) o9:=by
 show wV t x _=_
 rw[bv];cases ρ t x with
 |none=>rfl
 |some v=>cases v<;>rfl
theorem E3 {n:Nat} {i:NOpd}:ae (.indexSlc n x i) t m=oN (ρ t x) fun s=>oN (ρ t i) fun i=>iy n s i:=by
 show wV t x (fun v=>cJ t i fun i=>match v with
  | .slc id off len _ _=>cond (Nat.ble (Nat.succ i) len) (an (Nat.add off (Nat.mul i n)) fun o=> .val (.ptr id o)) .fail
  |_=> .fail)=_
 unfold cJ
 simp only[bv]
 cases ρ t x with
 |none=>rfl
 |some s=>
  show oN (ρ t i) _=oN (ρ t i) _
  cases ρ t i with
  |none=>rfl
  |some j=>
   show aC (bO j) _=iy n s j
   cases j with
   |int k z=>
    cases z with
    |lit z=>
     cases z with
     |ofNat q=>
      cases s with
      |slc id off len e kc=>
       show cond (Nat.ble (Nat.succ q) len) (an (Nat.add off (Nat.mul q n)) fun o=>NR.val (.ptr id o)) .fail=if q<len then _ else _
       rw[aa]
       by_cases hq:q<len
       ·rw[IN hq,Nat.ble_eq_true_of_le hq];rfl
       ·rw[IM hq,show Nat.ble (Nat.succ q) len=false from by cases hb:Nat.ble (Nat.succ q) len with|false=>rfl|true=>exact IL (Nat.le_of_ble_eq_true hb) hq];rfl
      |_=>rfl
     |negSucc q=>cases s<;>rfl
   |_=>cases s<;>rfl
theorem Fk :ae (.load1 x) t m=oN (ρ t x) (zb m):=by
 show wV t x (fun a=>match a with| .ptr id off=>bm m id fun c=>aC (iE c off) .val|_=> .fail)=_
 rw[bv]
 cases ρ t x with
 |none=>rfl
 |some v=>
  cases v with
  |ptr id off=>
   show bm m id (fun c=>aC (iE c off) .val)=zb m (.ptr id off)
   unfold bm zb
   dsimp only
   split<;>rename_i hm
   ·rw[hm];dsimp only;rw[d9];cases (_:List NV)[off]? <;>rfl
   ·split<;>rename_i h2
    ·exact IL h2 (hm _ _)
    ·rfl
  |_=>rfl
theorem Fw {k:Nat}:ae (.fieldAddr k x) t m=oN (ρ t x) (EY k):=by
 show wV t x (fun v=>match v with| .ptr id o=>an (Nat.add o k) fun o=> .val (.ptr id o)|_=> .fail)=_
 rw[bv]
 cases ρ t x with
 |none=>rfl
 |some v=>cases v<;>first|rfl|exact aa (R:=NR) _ (fun o=> .val (.ptr _ o))
theorem FN {k off:Nat} {id:D4}:EY k (.ptr id off)= .val (.ptr id (off+k)):=_root_.id rfl
end
theorem GA {b:Bool}:Ho .not (.bool b)=some (.bool (!b)):=by cases b<;>rfl
end Nm
namespace Nm
open Go Go.RowKit
def rK (o:Option NV) (K:NV->Prop):Prop:=match o with|some v=>K v|none=>False
def ur (rs:List NRes) (K:NV->NH->Prop) (o:Out) (d:Dyn):Prop:=(o= .norm∨o= .ret)/\d.dfs= []/\∃v,bK d.h d.t rs .fail (fun l=> .val (fh l) d.ctx d.h)= .val v d.ctx d.h/\K v d.h
section
variable {P:Program} {S:Nat->List NV->Option NV} {L:List (D4×NV)} {t:Tm} {ctx:Option NV} {m:NH} {K:NV->NH->Prop} {k k1 k2 k3:D4}
theorem Gt {o:Out} (ho:o= .norm∨o= .ret):ur [.tmp k] K o ⟨aw L t, [],ctx,m⟩=rK (dt k L (NT.get k t)) fun v=>K v m:=by
 apply propext
 have e:∀x,NT.get k (aw L t)=x->bK m (aw L t) [.tmp k] .fail (fun l=> .val (fh l) ctx m)=(match x with|some v=>CR.val v ctx m|none=> .fail):=by
  rintro x rfl
  show (match (match NT.get k (aw L t) with|some v=>NR.val v|none=>NR.fail) with| .val v=>CR.val (fh [v]) ctx m|_=>CR.fail)=_
  cases NT.get k (aw L t)<;>rfl
 constructor
 ·rintro ⟨_,_,v,h1,h2⟩
  change bK m (aw L t) [.tmp k] .fail (fun l=> .val (fh l) ctx m)=_ at h1
  rw[e _ (d6 _ _ _)] at h1
  cases hx:dt k L (NT.get k t) with
  |none=>rw[hx] at h1;cases h1
  |some u=>rw[hx] at h1;cases h1;exact h2
 ·intro h
  cases hx:dt k L (NT.get k t) with
  |none=>rw[hx] at h;exact h.elim
  |some u=>rw[hx] at h;exact ⟨ho,rfl,u,(e _ ((d6 _ _ _).trans hx)),h⟩
theorem CI:ur [.tmp k] K .ret ⟨aw L t, [],ctx,m⟩=rK (dt k L (NT.get k t)) fun v=>K v m:=Gt (.inr rfl)
theorem H5 {v:NV} {K:NV->Prop}:rK (some v) K=K v:=_root_.id rfl
def WF (P:Program) (S:Nat->List NV->Option NV) (f:Nat) (args:List NV) (m:NH) (K:NV->NH->Prop):Prop:=∃v c m',Call P S f args m (.val v c m')/\K v m'
theorem WF.of_wp (hs:∀f l,S f l=none) {f:Nat} {nf:NFun} (hf:ai P f=some (.code nf)) {args:List NV} {K:NV->NH->Prop} (hL:cO args 0 .leaf=aw L .leaf)
 (h:wp P S none nf.body ⟨aw L .leaf, [],none,m⟩ (ur nf.results K)):WF P S f args m K:=by
 obtain ⟨o,d,h1,ho,hd,v,hv,hK⟩:=bz _ _ _ h
 rw[←hL] at h1
 exact ⟨v,d.ctx,d.h,Call.of_run (hs f) hf ho h1 hd hv (by simp),hK⟩
end
end Nm
namespace Nm
open Go Go.RowKit
variable {m:NH} {d:Option NO} {i j:Nat} {S:List D4} {K:NV->NH->Prop}
def na (m:NH) (j:Nat):D4:=D4.of (m.next.toNat+j)
def aP (m:NH) (id:D4):Prop:=id.toNat<m.next.toNat
instance (m:NH) (id:D4):Decidable (aP m id):=inferInstanceAs (Decidable (_<_))
inductive AK where
 |n (j:Nat)
 |o (id:D4)
variable {l:List (AK×NO)}
noncomputable def n5 (m:NH):List (AK×NO)->NT NO
 | []=>m.m
 |(.n j,x)::l=>NT.put (na m j) x (n5 m l)
 |(.o id,x)::l=>if aP m id then NT.put id x (n5 m l) else n5 m l
noncomputable def hp (l:List (AK×NO)) (k:Nat) (m:NH):NH:=⟨n5 m l,na m k⟩
def gj (j:Nat):List (AK×NO)->Option NO->Option NO
 | [],d=>d
 |(.n i,x)::l,d=>if j=i then some x else gj j l d
 |(.o _,_)::l,d=>gj j l d
noncomputable def fy (id:D4):List (AK×NO)->Option NO->Option NO
 | [],d=>d
 |(.n _,_)::l,d=>fy id l d
 |(.o i,x)::l,d=>@ite _ (id=i) (Classical.propDecidable _) (some x) (fy id l d)
theorem dM  (h:na m i=na m j):i=j:=by
 have:=D4.of_inj h;omega
theorem DH (m:NH) (k:Nat):(na m k).nxt=na m (k+1):=by
 apply D4.toNat_inj
 rw[D4.toNat_nxt];unfold na;rw[D4.toNat_of,D4.toNat_of];omega
theorem ry (m:NH):na m 0=m.next:=D4.of_toNat _
theorem am (m:NH):hp [] 0 m=m:=by
 show NH.mk m.m (na m 0)=m
 rw[ry]
theorem aP.ne  {id:D4} (h:aP m id) (j:Nat):id≠na m j:=by
 intro e
 unfold aP at h
 rw[e] at h;unfold na at h;rw[D4.toNat_of] at h;omega
section
variable {m:NH} {l:List (AK×NO)} {k j:Nat} {o:NO} {id:D4}
theorem CJ:(hp l k m).next=na m k:=_root_.id rfl
theorem wv:(hp l k m).add o=hp ((.n k,o)::l) (k+1) m:=by
 show NH.mk (NT.put (na m k) o (n5 m l)) (na m k).nxt=NH.mk (NT.put (na m k) o (n5 m l)) (na m (k+1))
 rw[DH]
theorem BN:(hp l k m).put (na m j) o=hp ((.n j,o)::l) k m:=_root_.id rfl
theorem qO (h:aP m id):(hp l k m).put id o=hp ((.o id,o)::l) k m:=by
 show NH.mk (NT.put id o (n5 m l)) (na m k)=NH.mk (if aP m id then NT.put id o (n5 m l) else n5 m l) (na m k)
 rw[IN h]
theorem jh:(hp l k m).get (na m j)=gj j l (m.get (na m j)):=by
 show NT.get (na m j) (n5 m l)=_
 induction l with
 |nil=>rfl
 |cons p l ih=>
  obtain ⟨a,x⟩:=p
  cases a with
  |n i=>
   show NT.get (na m j) (NT.put (na m i) x (n5 m l))=if j=i then some x else gj j l _
   split
   ·rename_i h;rw[h];exact NT.get_put_same _ _ _
   ·rename_i h;rw[NT.get_put_ne (fun e=>h (dM e))];exact ih
  |o i=>
   show NT.get (na m j) (if aP m i then NT.put i x (n5 m l) else n5 m l)=gj j l _
   split
   ·rename_i h;rw[NT.get_put_ne (fun e=>h.ne j e.symm)];exact ih
   ·exact ih
theorem bh (h:aP m id):(hp l k m).get id=fy id l (m.get id):=by
 show NT.get id (n5 m l)=_
 induction l with
 |nil=>rfl
 |cons p l ih=>
  obtain ⟨a,x⟩:=p
  cases a with
  |n i=>
   show NT.get id (NT.put (na m i) x (n5 m l))=fy id l _
   rw[NT.get_put_ne (h.ne _)];exact ih
  |o i=>
   show NT.get id (if aP m i then NT.put i x (n5 m l) else n5 m l)=@ite _ (id=i) (Classical.propDecidable _) (some x) (fy id l _)
   by_cases e:id=i
   ·rw[IN e,←e,IN h];exact NT.get_put_same _ _ _
   ·rw[IM e]
    split
    ·rw[NT.get_put_ne e];exact ih
    ·exact ih
theorem vJ :gj j ((.n i,o)::l) d=if j=i then some o else gj j l d:=_root_.id rfl
theorem wJ {i:D4}:gj j ((.o i,o)::l) d=gj j l d:=_root_.id rfl
theorem wo :fy id [] d=d:=_root_.id rfl
theorem ib :fy id ((.n i,o)::l) d=fy id l d:=_root_.id rfl
theorem aN :fy id ((.o id,o)::l) d=some o:=IN rfl
theorem di {i:D4} (h:id≠i):fy id ((.o i,o)::l) d=fy id l d:=IM h
end
structure Chg (S:List D4) (m m':NH):Prop where
 next:m.next.toNat<=m'.next.toNat
 get:∀{id},aP m id->id∉S->m'.get id=m.get id
theorem Chg.old  {m':NH} {id:D4} (h:Chg S m m') (ho:aP m id):aP m' id:=Nat.lt_of_lt_of_le ho h.next
theorem Chg.refl (m:NH):Chg [] m m:=⟨Nat.le_refl _,fun _ _=>rfl⟩
theorem Chg.weak  {T:List D4} {a b:NH} (h:Chg S a b) (hs:∀id,id∈S->aP a id->id∈T):Chg T a b:=
 ⟨h.1,fun {id} ho hi=>h.2 ho fun q=>hi (hs id q ho)⟩
theorem Chg.trans  {T:List D4} {a b c:NH} (h:Chg S a b) (h':Chg T b c) (hs:∀id,id∈T->aP a id->id∈S):Chg S a c:=
 ⟨Nat.le_trans h.1 h'.1,fun {id} ho hi=>(h'.2 (h.old ho) fun q=>hi (hs id q ho)).trans (h.2 ho hi)⟩
def pT:List (AK×NO)->List D4
 | []=> []
 |(.n _,_)::l=>pT l
 |(.o i,_)::l=>i::pT l
theorem uS (l:List (AK×NO)) (k:Nat) (m:NH):Chg (pT l) m (hp l k m):=by
 refine ⟨by show m.next.toNat<=(na m k).toNat;unfold na;rw[D4.toNat_of];omega,fun {id} ho hi=> ?_⟩
 rw[bh ho]
 induction l with
 |nil=>rfl
 |cons p l ih=>
  obtain ⟨a,x⟩:=p
  cases a with
  |n i=>rw[ib];exact ih hi
  |o i=>
   have hi:id∉i::pT l:=hi
   rw[IS] at hi
   rw[di (fun e=>hi (Or.inl e))]
   exact ih fun q=>hi (Or.inr q)
theorem ah  {k:Nat} (h:j<k):aP (hp l k m) (na m j):=by
 show (na m j).toNat<(na m k).toNat
 unfold na;rw[D4.toNat_of,D4.toNat_of];omega
theorem ab  {k:Nat} {id:D4} (h:aP m id):aP (hp l k m) id:=(uS l k m).old h
theorem aD :¬aP m (na m j):=by
 show ¬(na m j).toNat<m.next.toNat
 unfold na;rw[D4.toNat_of];omega
def nG (P:Program) (S:Nat->List NV->Option NV) (f:Nat) (args:List NV) (m:NH) (v:NV) (m':NH):Prop:=∃c,Call P S f args m (.val v c m')
section
variable {P:Program} {S:Nat->List NV->Option NV} {f:Nat} {args:List NV} {m:NH}
theorem WF.ret  (h:WF P S f args m K):∃v m',nG P S f args m v m'/\K v m':=by
 obtain ⟨v,c,m',hc,hk⟩:=h;exact ⟨v,m',⟨c,hc⟩,hk⟩
theorem Call.det {x y:CR} (h:Call P S f args m x) (h':Call P S f args m y):x=y:=by
 obtain ⟨hn,n,e⟩:=h
 obtain ⟨hn',k,e'⟩:=h'
 rw[←cH (bB (Nat.le_max_left n k)) e hn,cH (bB (Nat.le_max_right n k)) e' hn']
theorem nG.wf {v:NV} {m':NH} (h:nG P S f args m v m'):WF P S f args m K=K v (hp [] 0 m'):=by
 rw[am]
 apply propext
 constructor
 ·rintro ⟨u,c,n,hc,hk⟩
  obtain ⟨c',h'⟩:=h
  have:=Call.det hc h'
  injection this with a _ b
  rw[←a,←b];exact hk
 ·intro hk
  obtain ⟨c,h⟩:=h
  exact ⟨v,c,m',h,hk⟩
end
section
variable {t:Tm} {m:NH}
theorem EE {x:NOpd} {ty:Nat}:ae (.box x ty) t m=oN (ρ t x) fun v=>match cellsOf v with|some cs=> .mem (.ptr m.next 0) (m.add (.cells true cs))|none=> .fail:=by
 show wV t x (fun v=>aC (cellsOf v) fun cs=>m.new (.cells true cs) fun id h=> .mem (.ptr id 0) h)=_
 rw[bv]
 cases ρ t x with
 |none=>rfl
 |some v=>
  show aC (cellsOf v) _=(match cellsOf v with|some cs=>_|none=>NR.fail)
  cases cellsOf v with
  |none=>rfl
  |some cs=>exact NH.new_eq m (.cells true cs) (fun id h=>NR.mem (.ptr id 0) h)
theorem xE {z:List NV} {ty:Nat}:ae (.alloc z ty) t m= .mem (.ptr m.next 0) (m.add (.cells true z)):=NH.new_eq m (.cells true z) (fun id h=>NR.mem (.ptr id 0) h)
end
end Nm
namespace Nm
open Go Go.RowKit
section
variable {P:Program} {S:Nat->List NV->Option NV}
theorem sZ.of {l:D4} {args:List NV} {m:NH} {p p1:Jump} {tm tm1:NT NV} {ps ps1:List D4} {a b a1 b1:NC} {d1 d2:Dyn} {o:Out} {x:CR}
 (hm:m.get l=some (.loop 0 p tm ps a b)) (hlen:args.length=ps.length) (ha:du P S (some l) a ⟨lz ps args tm, [],none,m⟩ .norm d1) (hd1:d1.dfs= [])
 (hm1:d1.h.get l=some (.loop 0 p1 tm1 ps1 a1 b1)) (hb:du P S (some l) b ⟨d1.t, [],none,d1.h.put l (.loop 1 p1 tm1 ps1 a1 b1)⟩ o d2) (ho:∀v,o≠.pan v) (hr:cV l o d2.h=x) (hne:x≠.fail):sZ P S l args m x:=by
 obtain ⟨n,hn⟩:=ha
 obtain ⟨k,hk⟩:=hb
 refine ⟨hne,max n k, ?_⟩
 have key:∀(ps:List D4) (args:List NV) (tm:Tm) (K:Tm->CR),args.length=ps.length->cQ .fail ps args tm K=K (lz ps args tm):=by
  intro ps
  induction ps with
  |nil=>intro args tm K h;cases args with
   |nil=>rfl
   |cons=>simp at h
  |cons q ps ih=>
   intro args tm K h
   cases args with
   |nil=>simp at h
   |cons v vs=>
    have e:cQ .fail (q::ps) (v::vs) tm K=NT.set q v tm fun t=>cQ .fail ps vs t K:=rfl
    rw[e,NT.set_eq]
    exact ih _ _ _ (by simpa using h)
 unfold round
 rw[hm]
 show cQ .fail ps args tm (fun t=>match ev P S (max n k) (some l) a ⟨t, [],none,m⟩ with
  | .mk .norm d=>(match d.dfs with| []=>bU (ev P S (max n k)) l b d.t d.h|_=> .fail)
  |_=> .fail)=x
 rw[key _ _ _ _ hlen,bB (Nat.le_max_left n k) _ _ _ _ _ hn]
 show (match d1.dfs with| []=>bU (ev P S (max n k)) l b d1.t d1.h|_=> .fail)=x
 rw[hd1]
 show bU (ev P S (max n k)) l b d1.t d1.h=x
 unfold bU
 rw[hm1]
 show (d1.h.set l (.loop 1 p1 tm1 ps1 a1 b1) fun h=>(match ev P S (max n k) (some l) b ⟨d1.t, [],none,h⟩ with
  | .mk o d=>(match o with
   | .pan v=>(match d.dfs with| []=>CR.pan v none d.h|_=> .fail)
   |o=>cV l o d.h)
  | .fail=> .fail))=x
 rw[NH.set_eq,bB (Nat.le_max_right n k) _ _ _ _ _ hk]
 cases o with
 |pan v=>exact IL rfl (ho v)
 |_=>exact hr
theorem du.range {f:Nat} {cap:List NV} {fx:NOpd} {ps:List D4} {a b:NC} {t:Tm} {dfs:List Dfr} {ctx:Option NV} {m m':NH} {v:NV} {c:Option NV} {o:Out} {d:Dyn}
 (hf:ρ t fx=some (.fn f cap)) (hc:Call P S f (.yld (m.add (.defd true)).next::cap) ((m.add (.defd true)).add (.loop 0 .none t ps a b)) (.val v c m'))
 (he:dk (m.add (.defd true)).next t (.mark m.next::dfs) ctx m'= .mk o d):du P S none (.rangeFunc fx ps a b) ⟨t,dfs,ctx,m⟩ o d:=by
 obtain ⟨hne,k,hk⟩:=hc
 refine ⟨k+1, ?_⟩
 show (match ρ t fx with
  |some (.fn f cap)=>m.new (.defd true) fun q m=>bL P S (ev P S k) f cap ps a b t (.mark q::dfs) ctx m
  |_=>Res.fail)=_
 rw[hf]
 try dsimp only
 rw[NH.new_eq]
 unfold bL
 rw[NH.new_eq,hk]
 exact he
end
end Nm
namespace Nm
open Go Go.RowKit
variable {x:NOpd} {l:List NV} {K:List NV->NR}
section
variable {t:Tm} {m:NH}
theorem Hh {n:Nat}:ae (.loadN n x) t m=oN (ρ t x) (xH n m):=by
 show wV t x (fun a=>match a with| .ptr id off=>bm m id fun c=>aC (dz c off n) fun l=> .val (.agg l)|_=> .fail)=_
 rw[bv]
 cases ρ t x with
 |none=>rfl
 |some v=>
  cases v with
  |ptr id off=>
   show bm m id (fun c=>aC (dz c off n) fun l=> .val (.agg l))=xH n m (.ptr id off)
   unfold bm xH
   dsimp only
   split<;>rename_i hm
   ·rw[hm];dsimp only;rw[eD];split<;>rfl
   ·split<;>rename_i h2
    ·exact IL h2 (hm _ _)
    ·rfl
  |_=>rfl
def FL (i:Nat) (a:NV):NR:=match a with| .tup l=>oN l[i]? .val|_=> .fail
theorem th {i:Nat}:ae (.extract x i) t m=oN (ρ t x) (FL i):=by
 show wV t x (fun v=>match v with| .tup l=>aC (iE l i) .val|_=> .fail)=_
 rw[bv]
 cases ρ t x with
 |none=>rfl
 |some v=>
  cases v with
  |tup l=>show aC (iE l i) .val=oN l[i]? .val;rw[d9];cases l[i]? <;>rfl
  |_=>rfl
theorem Fj {i:Nat}:FL i (.tup l)=oN l[i]? .val:=_root_.id rfl
def sP (f:NV) (l:List NV):NR:=match f with| .fn f cap=> .call f (l++cap)| .yld r=> .yld r l|_=> .fail
noncomputable def xo (t:Tm):List NOpd->(List NV->NR)->NR
 | [],K=>K []
 |x::l,K=>oN (ρ t x) fun v=>xo t l fun l=>K (v::l)
theorem mF {l:List NOpd}:qG t l .fail K=xo t l K:=by
 induction l generalizing K with
 |nil=>rfl
 |cons x l ih=>
  show Option.rec NR.fail (fun v=>qG t l .fail fun l=>K (v::l)) (ρ t x)=oN (ρ t x) fun v=>xo t l fun l=>K (v::l)
  cases ρ t x with
  |none=>rfl
  |some v=>exact ih
theorem AP :xo t [] K=K []:=_root_.id rfl
theorem G0  {l:List NOpd}:xo t (x::l) K=oN (ρ t x) fun v=>xo t l fun l=>K (v::l):=_root_.id rfl
theorem BP {f:NOpd} {args:List NOpd}:ae (.call f args) t m=oN (ρ t f) fun f=>xo t args (sP f):=by
 show wV t f (fun f=>qG t args .fail fun l=>match f with| .fn f cap=>eZ l cap fun l=> .call f l| .yld r=> .yld r l|_=> .fail)=_
 rw[bv]
 cases ρ t f with
 |none=>rfl
 |some f=>
  show qG t args .fail _=xo t args (sP f)
  rw[mF]
  congr 1
  funext l
  cases f with
  |fn f cap=>exact de l cap (fun l=>NR.call f l)
  |_=>rfl
theorem CS {f:Nat} {cap:List NV}:sP (.fn f cap) l= .call f (l++cap):=_root_.id rfl
theorem GQ {q:D4}:sP (.yld q) l= .yld q l:=_root_.id rfl
theorem AQ {f:Nat} {l:List NOpd}:ae (.mkFn f l) t m=xo t l fun l=> .val (.fn f l):=mF
end
end Nm
namespace Nm
open Go Go.RowKit
section
variable {t:Tm} {m:NH}
noncomputable def Hs (n:Nat) (m:NH) (a v:NV):NR:=match a with
 | .ptr id off=>(match cellsOf v with
  |some cs=>if cs.length=n then (match m.get id with
   |some (.cells true c)=>if off+cs.length<=c.length then .mem aA (m.put id (.cells true (c.take off++cs++c.drop (off+cs.length)))) else .fail
   |_=> .fail) else .fail
  |none=> .fail)
 |_=> .fail
theorem yQ {n:Nat} {a x:NOpd}:ae (.store n a x) t m=oN (ρ t a) fun a=>oN (ρ t x) fun v=>Hs n m a v:=by
 show wV t a (fun a=>wV t x fun v=>match a with
  | .ptr id off=>aC (cellsOf v) fun cs=>cG cs fun k=>cond (Nat.beq k n) (storeAt m id off cs fun h=> .mem aA h) .fail
  |_=> .fail)=_
 simp only[bv]
 cases ρ t a with
 |none=>rfl
 |some a=>
  show oN (ρ t x) _=oN (ρ t x) _
  cases ρ t x with
  |none=>rfl
  |some v=>
   cases a with
   |ptr id off=>
    show aC (cellsOf v) (fun cs=>cG cs fun k=>cond (Nat.beq k n) (storeAt m id off cs fun h=> .mem aA h) .fail)=Hs n m (.ptr id off) v
    unfold Hs
    cases cellsOf v with
    |none=>rfl
    |some cs=>
     show cG cs (fun k=>cond (Nat.beq k n) (storeAt m id off cs fun h=> .mem aA h) .fail)=if cs.length=n then _ else _
     rw[bu]
     cases hb:Nat.beq cs.length n with
     |false=>rw[IM (Nat.ne_of_beq_eq_false hb)];rfl
     |true=>
      rw[IN (IT hb)]
      show storeAt m id off cs (fun h=> .mem aA h)=_
      unfold storeAt cE
      cases hm:m.get id with
      |none=>rfl
      |some o=>
       cases o with
       |cells w c=>
        cases w with
        |false=>rfl
        |true=>
         show aC (b8 cs off c) (fun c=>m.set id (.cells true c) fun h=> .mem aA h)=if off+cs.length<=c.length then _ else _
         rw[cT]
         split
         ·exact NH.set_eq m id _ (fun h=>NR.mem aA h)
         ·rfl
       |_=>rfl
   |_=>rfl
end
end Nm
namespace Nm
open Go Go.RowKit
section
variable {t:Tm} {m:NH}
noncomputable def IG (n len:Nat) (m:NH) (o:Option (List NV)):NR:=match o with|some l=> .mem (.slc m.next 0 len n len) (m.add (.cells true l))|none=> .fail
theorem AG {z:List NV} {n len ty:Nat} {ps:List (Nat×Nat×NOpd)}:ae (.buildSlice z n len ty ps) t m=IG n len m (bM t ps 0 z):=by
 show aC (bM t ps 0 z) (fun l=>m.new (.cells true l) fun id h=> .mem (.slc id 0 len n len) h)=_
 cases bM t ps 0 z with
 |none=>rfl
 |some l=>exact NH.new_eq m (.cells true l) (fun id h=>NR.mem (.slc id 0 len n len) h)
theorem H9 {n len:Nat} {l:List NV}:IG n len m (some l)= .mem (.slc m.next 0 len n len) (m.add (.cells true l)):=_root_.id rfl
def oO {α β:Type} (o:Option α) (K:α->Option β):Option β:=match o with|some x=>K x|none=>none
theorem HF {α β:Type} {x:α} {K:α->Option β}:oO (some x) K=K x:=_root_.id rfl
end
end Nm
namespace Nm
open Go Go.RowKit
variable {n:Nat}
def wQ (q:Bool) (A B:Dyn->Prop) (d:Dyn):Prop:=(q=true->A d)/\(q=false->B d)
def wC (o:Option NV) (A B:Dyn->Prop) (d:Dyn):Prop:=wB o (A d) (B d)
def wG (o:Option NV) (b:Bool) (A B:Dyn->Prop) (d:Dyn):Prop:=match o with
 |some (.bool q)=>wQ (q==b) A B d
 |some _=>B d
 |none=>False
def uh (F:Tm->List Dfr->Option NV->NH->Prop) (d:Dyn):Prop:=F d.t d.dfs d.ctx d.h
noncomputable def vM (x:NR) (v:NV):Bool:=match x with| .val u=>bo 4 u v|_=>false
section
variable {P:Program} {S:Nat->List NV->Option NV} {r:Option D4} {dst:Option D4} {op:NOp} {pre idx:Nat} {l:List NOper} {hs:List (Nat×NH)} {rs:List (Nat×(NH->NR)×NV)}
 {L:List (D4×NV)} {t:Tm} {dfs:List Dfr} {ctx:Option NV} {m m':NH} {v:NV} {k k' g:D4} {d:Dyn} {Q:Out->Dyn->Prop} {K:Dyn->Prop} {A B:Dyn->Prop} {b q:Bool}
theorem Iq:wC (some (.bool q)) A B d=wQ q A B d:=_root_.id rfl
theorem GO:wQ true A B d=A d:=by simp[wQ]
theorem Fq:wQ false A B d=B d:=by simp[wQ]
theorem HC:wG (some (.bool q)) b A B d=wQ (q==b) A B d:=_root_.id rfl
theorem Gx:wG (some aA) b A B d=B d:=_root_.id rfl
theorem yE:wO P S (⟨dst,op,some (g,b),pre,idx⟩::l) ⟨aw L t,dfs,ctx,m⟩ K=wG (dt g L (NT.get g t)) b (uh fun t dfs ctx m=>wN P S dst t dfs ctx m (ae op t m) fun d=>wO P S l d K) (uh fun t dfs ctx m=>wO P S l ⟨aE dst aA t,dfs,ctx,m⟩ K) ⟨aw L t,dfs,ctx,m⟩:=by
 unfold wG
 rw[←d6]
 show (match av (aw L t) (some (g,b)) with|some true=>_|some false=>_|none=>False)=_
 have e:av (aw L t) (some (g,b))=(match NT.get g (aw L t) with|some (.bool q)=>some (q==b)|some _=>some false|none=>none):=by
  show Option.rec (motive:=fun _=>Option Bool) none (fun v=>NV.onBool (some false) (fun c=>some (dX b c)) v) (NT.get g (aw L t))=_
  cases NT.get g (aw L t) with
  |none=>rfl
  |some v=>cases v with
   |bool q=>cases q<;>cases b<;>rfl
   |_=>rfl
 rw[e]
 cases NT.get g (aw L t) with
 |none=>rfl
 |some v=>cases v with
  |bool q=>
   dsimp only
   unfold wQ uh
   cases (q==b)<;>simp
  |_=>rfl
theorem vI:wD P S (⟨dst,op,some (g,b),pre,idx⟩::l) hs rs ⟨aw L t,dfs,ctx,m⟩ K=wG (dt g L (NT.get g t)) b (uh fun t dfs ctx m=>wX (aq op) (ae op t m) P S (ae op t) dst pre idx l hs rs ⟨t,dfs,ctx,m⟩ K) (uh fun t dfs ctx m=>wD P S l hs rs ⟨aE dst aA t,dfs,ctx,m⟩ K) ⟨aw L t,dfs,ctx,m⟩:=by
 unfold wG
 rw[←d6]
 have e:av (aw L t) (some (g,b))=(match NT.get g (aw L t) with|some (.bool q)=>some (q==b)|some _=>some false|none=>none):=by
  show Option.rec (motive:=fun _=>Option Bool) none (fun v=>NV.onBool (some false) (fun c=>some (dX b c)) v) (NT.get g (aw L t))=_
  cases NT.get g (aw L t) with
  |none=>rfl
  |some v=>cases v with
   |bool q=>cases q<;>cases b<;>rfl
   |_=>rfl
 have e2:wD P S (⟨dst,op,some (g,b),pre,idx⟩::l) hs rs ⟨aw L t,dfs,ctx,m⟩ K=(match av (aw L t) (some (g,b)) with
  |some true=>wX (aq op) (ae op (aw L t) m) P S (ae op (aw L t)) dst pre idx l hs rs ⟨aw L t,dfs,ctx,m⟩ K
  |some false=>wD P S l hs rs ⟨aE dst aA (aw L t),dfs,ctx,m⟩ K
  |none=>False):=by
  unfold wX
  simp only[wD]
  all_goals (cases av (aw L t) (some (g,b)) with
   |none=>rfl
   |some q=>cases q with
    |false=>rfl
    |true=>cases aq op<;>cases ae op (aw L t) m<;>rfl)
 rw[e2,e]
 cases NT.get g (aw L t) with
 |none=>rfl
 |some v=>cases v with
  |bool q=>
   dsimp only
   unfold wQ uh
   cases (q==b)<;>simp
  |_=>rfl
theorem yk {i:Nat} {f:NH->NR} {u:NV}:aU pre m ((i,f,u)::rs)=cond (Nat.testBit pre i) (aU pre m rs) (vM (f m) u&&aU pre m rs):=by
 show cond (Nat.testBit pre i) (aU pre m rs) (match f m with| .val v=>cond (bo 4 v u) (aU pre m rs) false|_=>false)=_
 congr 1
 cases f m with
 |val u'=>show cond (bo 4 u' u) _ false=(bo 4 u' u&&_);cases bo 4 u' u<;>rfl
 |_=>rfl
theorem yR {i:Nat}:ahead pre ((i,m)::hs)=cond (Nat.testBit pre i) (ahead pre hs) false:=_root_.id rfl
theorem ux {u:NV}:vM (.val u) v=bo 4 u v:=_root_.id rfl
end
theorem e9 (d:D4):aT d d=true:=kl d
theorem xh (l:List Nat):uM l l=true:=by
 induction l with
 |nil=>rfl
 |cons x l ih=>show cond (Nat.beq x x) (uM l l) false=true;rw[Nat.beq_refl];exact ih
def si (v:NV):Prop:=match v with| .agg _| .tup _| .fn _ _| .ifc _ _=>False|_=>True
theorem gd  {v:NV} (h:si v):bo (n+1) v v=true:=by
 show rI (bo n) v v=true
 have hi:∀z:Int,nH z z=true:=fun z=>by rw[dw];simp
 cases v with
 |bool b=>cases b<;>rfl
 |int k x=>cases x with
  |lit z=>show cond (ul k k) (nH z z) false=true;rw[hi];cases k<;>rfl
 |str s=>exact xh s
 |ptr id o=>show cond (aT id id) (Nat.beq o o) false=true;rw[e9];simp
 |slc id o n e k=>show cond (aT id id) (cond (Nat.beq o o) (cond (Nat.beq n n) (cond (Nat.beq e e) (Nat.beq k k) false) false) false) false=true;rw[e9];simp
 |map id=>exact e9 id
 |yld id=>exact e9 id
 |agg l=>exact h.elim
 |tup l=>exact h.elim
 |fn f c=>exact h.elim
 |ifc t v=>exact h.elim
 |_=>rfl
theorem qj  {l:List NV} (h:∀v∈l,si v):fH (bo (n+1)) l l=true:=by
 induction l with
 |nil=>rfl
 |cons x l ih=>
  show cond (bo (n+1) x x) (fH (bo (n+1)) l l) false=true
  rw[gd (h x (List.mem_cons_self ..))]
  exact ih fun v hv=>h v (List.mem_cons_of_mem _ hv)
theorem dU  {l:List NV} (h:∀v∈l,si v):bo (n+2) (.agg l) (.agg l)=true:=qj h
theorem xQ  {k:IntKind} {z:Int}:bo (n+1) (.int k (.lit z)) (.int k (.lit z))=true:=gd trivial
theorem xF  {o:Nat} {i:D4}:bo (n+1) (.ptr i o) (.ptr i o)=true:=gd trivial
end Nm
namespace Nm
open Go Go.RowKit
variable {n bytes:Nat} {id:D4} {l cs z:List NV} {a b:Int} {ps:List (Nat×Nat×NOpd)} {k:IntKind}
theorem GN  (h:-9223372036854775808<=a - b) (h':a - b<9223372036854775808):cz .num .sub (.int .i64 (.lit a)) (.int .i64 (.lit b))=some (.int .i64 (.lit (a - b))):=by
 refine (gU rfl).trans ?_
 show bD .i64 (bp .i64 (tf a b))=_
 rw[jL,wrap_small h h']
 exact fS _ _
theorem vO  (h:-9223372036854775808<=a*b) (h':a*b<9223372036854775808):cz .num .mul (.int .i64 (.lit a)) (.int .i64 (.lit b))=some (.int .i64 (.lit (a*b))):=by
 refine (gU rfl).trans ?_
 show bD .i64 (bp .i64 (mR a b))=_
 rw[eQ,wrap_small h h']
 exact fS _ _
theorem BX {p:Prop} [Decidable p] (h:p):decide p=true:=by simp[h]
theorem yt {p:Prop} [Decidable p] (h:¬p):decide p=false:=by simp[h]
section
variable {m:NH}
theorem GD  {off e kc:Nat}:o9 (.slc id off n e kc)= .val (.int .i64 (.lit (n:Int))):=_root_.id rfl
theorem uP  {off len e kc:Nat} {ik:IntKind} {z:Int} (h0:0<=z) (h1:z<len):iy n (.slc id off len e kc) (.int ik (.lit z))= .val (.ptr id (off+z.toNat*n)):=by
 obtain ⟨i,rfl⟩:=IU h0
 show (if i<len then NR.val (.ptr id (off+i*n)) else .fail)= .val (.ptr id (off+i*n))
 rw[IN (by omega)]
noncomputable def Fv (off:Nat) (o:Option NO):NR:=match o with|some (.cells _ c)=>oN c[off]? .val|_=> .fail
noncomputable def F9 (n off:Nat) (o:Option NO):NR:=match o with|some (.cells _ c)=>if off+n<=c.length then .val (.agg ((c.drop off).take n)) else .fail|_=> .fail
theorem F5  {off:Nat}:zb m (.ptr id off)=Fv off (m.get id):=_root_.id rfl
theorem G4  {off:Nat}:xH n m (.ptr id off)=F9 n off (m.get id):=_root_.id rfl
theorem Ed {off:Nat} {w:Bool} {c:List NV}:Fv off (some (.cells w c))=oN c[off]? .val:=_root_.id rfl
theorem AS  {off:Nat} {w:Bool} {c:List NV} (h:off+n<=c.length):F9 n off (some (.cells w c))= .val (.agg ((c.drop off).take n)):=IN h
noncomputable def HV (n:Nat) (id:D4) (off:Nat) (m:NH) (cs:Option (List NV)) (o:Option NO):NR:=match cs with
 |some cs=>if cs.length=n then (match o with
  |some (.cells true c)=>if off+cs.length<=c.length then .mem aA (m.put id (.cells true (c.take off++cs++c.drop (off+cs.length)))) else .fail
  |_=> .fail) else .fail
 |none=> .fail
theorem Ii  {off:Nat} {v:NV}:Hs n m (.ptr id off) v=HV n id off m (cellsOf v) (m.get id):=_root_.id rfl
theorem gh {c:List NV} {off:Nat} {x:NV} (h:off<c.length):c.take off++ [x]++c.drop (off+1)=c.set off x:=by
 rw[List.set_eq_take_append_cons_drop,IN h]
 simp
theorem GP {off:Nat} {x:NV} {c:List NV} (h:off<c.length):HV 1 id off m (some [x]) (some (.cells true c))= .mem aA (m.put id (.cells true (c.set off x))):=by
 show (if [x].length=1 then (if off+ [x].length<=c.length then NR.mem aA (m.put id (.cells true (c.take off++ [x]++c.drop (off+ [x].length)))) else .fail) else .fail)=_
 rw[IN (show [x].length=1 from rfl),IN (by show off+1<=_;omega)]
 show NR.mem aA (m.put id (.cells true (c.take off++ [x]++c.drop (off+1))))=_
 rw[gh h]
theorem GU  {off:Nat} {c:List NV} (h:cs.length=n+2) (h':off+(n+2)<=c.length):HV (n+2) id off m (some cs) (some (.cells true c))= .mem aA (m.put id (.cells true (c.take off++cs++c.drop (off+(n+2))))):=by
 rw[←h] at h' ⊢
 show (if cs.length=cs.length then (if off+cs.length<=c.length then NR.mem aA (m.put id (.cells true (c.take off++cs++c.drop (off+cs.length)))) else .fail) else .fail)=_
 rw[IN rfl,IN h']
end
section
variable {t:Tm} {m:NH}
def sH (c:NV) (a b:Option NV):NR:=match c with| .bool c=>(if c then oN a .val else oN b .val)|_=> .fail
theorem AJ {c a b:NOpd}:ae (.pick c a b) t m=oN (ρ t c) fun c=>sH c (ρ t a) (ρ t b):=by
 show wV t c (fun c=>match c with| .bool c=>Bool.rec (wV t b .val) (wV t a .val) c|_=> .fail)=_
 rw[bv]
 cases ρ t c with
 |none=>rfl
 |some v=>
  cases v with
  |bool q=>show Bool.rec (wV t b .val) (wV t a .val) q=if q then oN (ρ t a) .val else oN (ρ t b) .val;rw[bv,bv];cases q<;>rfl
  |_=>rfl
theorem xw {a b:Option NV}:sH (.bool true) a b=oN a .val:=_root_.id rfl
theorem yN {a b:Option NV}:sH (.bool false) a b=oN b .val:=_root_.id rfl
theorem yh {q p r:Bool}:sH (.bool q) (some (.bool p)) (some (.bool r))= .val (.bool (if q then p else r)):=by cases q<;>rfl
theorem wn {mx:Bool} {l:List NOpd}:ae (.minmax mx l) t m=xo t l fun l=>oN (tq mx l) .val:=by
 show qG t l .fail (fun l=>aC (tq mx l) .val)=_
 rw[mF]
 congr 1
 funext l
 cases tq mx l<;>rfl
theorem Ge :tq true [.int k (.lit a),.int k (.lit b)]=some (.int k (.lit (max a b))):=by
 show Option.rec (motive:=fun _=>Option NV) none some (cond (cond true (pe a b) (pe b a)) (some (NV.int k (.lit b))) (some (.int k (.lit a))))=_
 rw[fa]
 by_cases h:a<b
 ·simp[h,Int.max_def,show a<=b by omega]
 ·simp[h,Int.max_def];omega
theorem Hf :tq false [.int k (.lit a),.int k (.lit b)]=some (.int k (.lit (min a b))):=by
 show Option.rec (motive:=fun _=>Option NV) none some (cond (cond false (pe a b) (pe b a)) (some (NV.int k (.lit b))) (some (.int k (.lit a))))=_
 rw[fa a b,fa b a]
 by_cases h:b<a
 ·rw[IQ h,Int.min_eq_right (by omega)];rfl
 ·rw[IP h,Int.min_eq_left (by omega)];rfl
noncomputable def uL (z:List NV) (n bytes:Nat) (m:NH) (l c:Nat):NR:=cond (Nat.ble l c) (cond (room c bytes) (.mem (.slc m.next 0 l n c) (m.add (.cells true (rep c z)))) .fail) .fail
theorem te  {ty:Nat} {l c:NOpd}:ae (.mkSlice z n bytes ty l c) t m=oN (ρ t l) fun l=>aC (bO l) fun l=>oN (ρ t c) fun c=>aC (bO c) fun c=>uL z n bytes m l c:=by
 show cJ t l (fun l=>cJ t c fun c=>cond (Nat.ble l c) (cond (room c bytes) (nB c z fun cs=>m.new (.cells true cs) fun id h=> .mem (.slc id 0 l n c) h) .fail) .fail)=_
 unfold cJ
 rw[bv]
 congr 1
 funext lv
 congr 1
 funext i
 rw[bv]
 congr 1
 funext cv
 congr 1
 funext j
 rw[dD,NH.new_eq]
 rfl
theorem BQ  {K:Nat->NR} (h:0<=a):aC (bO (.int k (.lit a))) K=K a.toNat:=by
 obtain ⟨i,rfl⟩:=IU h
 rfl
theorem Eg  {i:Nat} (h1:i*bytes<=1099511627776) (h2:i<=1099511627776):uL z n bytes m i i= .mem (.slc m.next 0 i n i) (m.add (.cells true (rep i z))):=by
 unfold uL
 rw[Nat.ble_eq_true_of_le (Nat.le_refl i)]
 have e:room i bytes=true:=by
  unfold room
  rw[show Nat.ble (Nat.mul i bytes) 1099511627776=true from Nat.ble_eq_true_of_le h1,show Nat.ble i 1099511627776=true from Nat.ble_eq_true_of_le h2]
  rfl
 rw[e];rfl
noncomputable def oB (n bytes:Nat) (m:NH) (s x:NV):NR:=eo n m x fun k new=>cP n bytes m s k new
theorem wj  {ty:Nat} {s x:NOpd}:ae (.append n bytes ty s x) t m=oN (ρ t s) fun s=>oN (ρ t x) fun x=>oB n bytes m s x:=by
 show wV t s (fun s=>wV t x fun x=>eo n m x fun k new=>cP n bytes m s k new)=_
 rw[bv];congr 1;funext s;rw[bv];rfl
noncomputable def IE (o:Option (List NV)):NR:=match o with|some l=> .val (.agg l)|none=> .fail
theorem xN :ae (.build z ps) t m=IE (bP t ps z):=by
 show aC (bP t ps z) (fun l=> .val (.agg l))=_
 cases bP t ps z<;>rfl
theorem HD :IE (some l)= .val (.agg l):=_root_.id rfl
theorem Hb :bP t [] l=some l:=_root_.id rfl
noncomputable def Hn (t:Tm) (ps:List (Nat×Nat×NOpd)) (off k:Nat) (l:List NV) (o:Option (List NV)):Option (List NV):=match o with
 |some cs=>if cs.length=k then (match b8 cs off l with|some l=>bP t ps l|none=>none) else none
 |none=>none
theorem Hw  {off k:Nat} {x:NOpd}:bP t ((off,k,x)::ps) l=oO (ρ t x) fun v=>Hn t ps off k l (cellsOf v):=by
 show Option.rec (motive:=fun _=>Option (List NV)) none (fun v:NV=>Option.rec (motive:=fun _=>Option (List NV)) none (fun cs=>cG cs fun j=>cond (Nat.beq j k) (Option.rec (motive:=fun _=>Option (List NV)) none (bP t ps) (b8 cs off l)) none) (cellsOf v)) (ρ t x)=_
 cases ρ t x with
 |none=>rfl
 |some v=>
  show Option.rec (motive:=fun _=>Option (List NV)) none (fun cs=>cG cs fun j=>cond (Nat.beq j k) (Option.rec (motive:=fun _=>Option (List NV)) none (bP t ps) (b8 cs off l)) none) (cellsOf v)=Hn t ps off k l (cellsOf v)
  cases cellsOf v with
  |none=>rfl
  |some cs=>
   show cG cs (fun j=>cond (Nat.beq j k) (Option.rec (motive:=fun _=>Option (List NV)) none (bP t ps) (b8 cs off l)) none)=if cs.length=k then _ else _
   rw[bu]
   cases hb:Nat.beq cs.length k with
   |false=>rw[IM (Nat.ne_of_beq_eq_false hb)];rfl
   |true=>rw[IN (IT hb)];cases b8 cs off l<;>rfl
theorem E7  {off:Nat} {x:NV} (h:off<l.length):Hn t ps off 1 l (some [x])=bP t ps (l.set off x):=by
 show (if [x].length=1 then (match b8 [x] off l with|some l=>bP t ps l|none=>none) else none)=_
 rw[IN (show [x].length=1 from rfl),cT,IN (by show off+1<=_;omega)]
 show bP t ps (l.take off++ [x]++l.drop (off+1))=_
 rw[gh h]
theorem DS  {off k:Nat} (h:cs.length=k) (h':off+k<=l.length):Hn t ps off k l (some cs)=bP t ps (l.take off++cs++l.drop (off+k)):=by
 subst h
 show (if cs.length=cs.length then (match b8 cs off l with|some l=>bP t ps l|none=>none) else none)=_
 rw[IN rfl,cT,IN h']
theorem GI  {off k:Nat} (h:cs.length=k+2) (h':off+(k+2)<=l.length):Hn t ps off (k+2) l (some cs)=bP t ps (l.take off++cs++l.drop (off+(k+2))):=DS h h'
end
end Nm
namespace Nm
open Go Go.RowKit
variable {n d:Nat} {K:Nat->NR} {lo hi:Option NOpd}
section
variable {t:Tm} {m:NH}
noncomputable def gC (t:Tm) (x:Option NOpd) (d:Nat) (K:Nat->NR):NR:=match x with|none=>K d|some x=>oN (ρ t x) fun v=>aC (bO v) K
theorem fV {x:Option NOpd}:cS t x d K=gC t x d K:=by
 cases x with
 |none=>rfl
 |some x=>show wV t x _=_;rw[bv];rfl
noncomputable def pL (n:Nat) (id:D4) (off len e kc a b:Nat):NR:=cond (Nat.ble a b) (cond (Nat.ble b (Bool.rec kc len (Nat.ble kc len))) (cond (Nat.beq e n) (.val (.slc id (off+a*n) (b - a) n (kc - a))) .fail) .fail) .fail
noncomputable def qm (n:Nat) (t:Tm) (lo hi:Option NOpd) (v:NV):NR:=match v with
 | .slc id off len e kc=>gC t hi len fun b=>gC t lo 0 fun a=>pL n id off len e kc a b
 | .nils=>gC t hi 0 fun b=>gC t lo 0 fun a=>cond (Nat.beq a 0) (cond (Nat.beq b 0) (.val .nils) .fail) .fail
 |_=> .fail
theorem ER  {x:NOpd}:ae (.sliceSlc n x lo hi) t m=oN (ρ t x) (qm n t lo hi):=by
 show wV t x (fun v=>match v with
  | .slc id off len e kc=>cS t hi len fun b=>cS t lo 0 fun a=>cond (Nat.ble a b) (cond (Nat.ble b (Bool.rec kc len (Nat.ble kc len))) (cond (Nat.beq e n)
   (an (Nat.add off (Nat.mul a n)) fun o=>an (Nat.sub b a) fun m=>an (Nat.sub kc a) fun k=> .val (.slc id o m n k)) .fail) .fail) .fail
  | .nils=>cS t hi 0 fun b=>cS t lo 0 fun a=>cond (Nat.beq a 0) (cond (Nat.beq b 0) (.val .nils) .fail) .fail
  |_=> .fail)=_
 rw[bv]
 congr 1
 funext v
 cases v with
 |slc id off len e kc=>
  dsimp only[qm]
  rw[fV]
  congr 1
  funext b
  rw[fV]
  congr 1
  funext a
  simp only[aa]
  rfl
 |nils=>
  dsimp only[qm]
  rw[fV]
  congr 1
  funext b
  rw[fV]
 |_=>rfl
theorem CA :gC t none d K=K d:=_root_.id rfl
theorem Hd {x:NOpd}:gC t (some x) d K=oN (ρ t x) fun v=>aC (bO v) K:=_root_.id rfl
theorem qy  {off len e kc:Nat} {id:D4}:qm n t lo hi (.slc id off len e kc)=gC t hi len fun b=>gC t lo 0 fun a=>pL n id off len e kc a b:=_root_.id rfl
theorem xk :qm n t lo hi .nils=gC t hi 0 fun b=>gC t lo 0 fun a=>cond (Nat.beq a 0) (cond (Nat.beq b 0) (.val .nils) .fail) .fail:=_root_.id rfl
theorem vZ  {a b off len kc:Nat} {id:D4} (h:a<=b) (h':b<=len):pL n id off len n kc a b= .val (.slc id (off+a*n) (b - a) n (kc - a)):=by
 unfold pL
 rw[Nat.ble_eq_true_of_le h,Nat.beq_refl,show Nat.ble b (Bool.rec kc len (Nat.ble kc len))=true from Nat.ble_eq_true_of_le (by
  cases hb:Nat.ble kc len with
  |true=>exact h'
  |false=>
   have:¬kc<=len:=fun q=>by rw[Nat.ble_eq_true_of_le q] at hb;cases hb
   show b<=kc
   omega)]
 rfl
end
end Nm
namespace Nm
open Go Go.RowKit
variable {B m:NH} {n bytes:Nat} {C D:List (List NV)}
def ids:NV->List D4
 | .slc id _ _ _ _=> [id]
 |_=> []
def Sl (m:NH) (v:NV) (e:Nat) (C:List (List NV)):Prop:=(∀x∈C,x.length=e)/\((v= .nils/\C= [])∨
 ∃id off kc w c,v= .slc id off C.length e kc/\m.get id=some (.cells w c)/\aP m id/\off+C.length*e<=c.length/\(c.drop off).take (C.length*e)=C.flatten)
def bC (B m:NH) (v:NV) (e:Nat) (C:List (List NV)):Prop:=(∀x∈C,x.length=e)/\((v= .nils/\C= [])∨
 ∃id off kc c,v= .slc id off C.length e kc/\¬aP B id/\m.get id=some (.cells true c)/\aP m id/\off+C.length*e<=c.length/\off+kc*e<=c.length/\(c.drop off).take (C.length*e)=C.flatten)
theorem cU {e:Nat} (h:∀x∈C,x.length=e):C.flatten.length=C.length*e:=by
 induction C with
 |nil=>simp
 |cons a C ih=>
  rw[List.flatten_cons,List.length_append,h a (List.mem_cons_self ..),ih fun x hx=>h x (List.mem_cons_of_mem _ hx),List.length_cons,Nat.succ_mul]
  omega
theorem tk {e:Nat}:∀{C:List (List NV)} (_:∀x∈C,x.length=e) (i:Nat) (hi:i<C.length),(C.flatten.drop (i*e)).take e=C[i]:=by
 intro C
 induction C with
 |nil=>intro _ i hi;simp at hi
 |cons a C ih=>
  intro h i hi
  have ha:=h a (List.mem_cons_self ..)
  cases i with
  |zero=>
   rw[Nat.zero_mul,List.drop_zero,List.flatten_cons,List.take_append,ha,Nat.sub_self,List.take_zero,List.append_nil,←ha]
   simp
  |succ i=>
   rw[List.flatten_cons,List.drop_append,Nat.succ_mul,List.drop_eq_nil_of_le (by omega),List.nil_append,ha,Nat.add_sub_cancel]
   exact ih (fun x hx=>h x (List.mem_cons_of_mem _ hx)) i (by simpa using hi)
theorem bC.sl  {v:NV} {e:Nat} (h:bC B m v e C):Sl m v e C:=by
 obtain ⟨h0,h|⟨id,off,kc,c,h1,_,h2,h3,h4,_,h5⟩⟩:=h
 ·exact ⟨h0,Or.inl h⟩
 ·exact ⟨h0,Or.inr ⟨id,off,kc,true,c,h1,h2,h3,h4,h5⟩⟩
section
variable {m:NH} {v:NV} {e:Nat} {C:List (List NV)}
theorem Sl.len (h:Sl m v e C):o9 v= .val (.int .i64 (.lit (C.length:Int))):=by
 obtain ⟨_,⟨rfl,rfl⟩|⟨id,off,kc,w,c,rfl,_⟩⟩:=h<;>rfl
theorem Sl.one (h:Sl m v e C):cellsOf v=some [v]:=by
 obtain ⟨_,⟨rfl,rfl⟩|⟨id,off,kc,w,c,rfl,_⟩⟩:=h<;>rfl
theorem rV {c:List NV} {off e:Nat} (h:∀x∈C,x.length=e) (hn:C.length=n) (hc:off+n*e<=c.length) (hf:(c.drop off).take (n*e)=C.flatten) (i:Nat) (hi:i<C.length):
 off+i*e+e<=c.length/\(c.drop (off+i*e)).take e=C[i]:=by
 subst hn
 have h1:i*e+e<=C.length*e:=by rw[←Nat.succ_mul];exact Nat.mul_le_mul_right e hi
 refine ⟨by omega, ?_⟩
 rw[←tk h i hi,←hf,List.drop_take,List.take_take,List.drop_drop,Nat.min_eq_left (by omega)]
theorem Sl.at (h:Sl m v e C) (i:Nat) (hi:i<C.length):∃id off w c,iy e v (.int .i64 (.lit (i:Int)))= .val (.ptr id off)/\m.get id=some (.cells w c)/\aP m id/\off+e<=c.length/\(c.drop off).take e=C[i]:=by
 obtain ⟨h0,⟨rfl,rfl⟩|⟨id,off,kc,w,c,rfl,h1,h2,h3,h4⟩⟩:=h
 ·simp at hi
 ·obtain ⟨h5,h6⟩:=rV h0 rfl h3 h4 i hi
  exact ⟨id,off+i*e,w,c,uP (by omega) (by omega),h1,h2,h5,h6⟩
theorem Sl.chg {T:List D4} {m':NH} (h:Sl m v e C) (hc:Chg T m m') (ht:∀id∈ids v,id∉T):Sl m' v e C:=by
 obtain ⟨h0,⟨rfl,rfl⟩|⟨id,off,kc,w,c,rfl,h1,h2,h3,h4⟩⟩:=h
 ·exact ⟨h0,Or.inl ⟨rfl,rfl⟩⟩
 ·exact ⟨h0,Or.inr ⟨id,off,kc,w,c,rfl,(hc.get h2 (ht id (List.mem_cons_self ..))).trans h1,hc.old h2,h3,h4⟩⟩
theorem Sl.grew {m':NH} (h:Sl m v e C) (hc:Chg [] m m'):Sl m' v e C:=h.chg hc fun _ _=>IR
theorem Sl.old (h:Sl m v e C):∀id∈ids v,aP m id:=by
 obtain ⟨h0,⟨rfl,rfl⟩|⟨id,off,kc,w,c,rfl,h1,h2,h3,h4⟩⟩:=h
 ·intro id hid;simp[ids] at hid
 ·intro i hi;simp[ids] at hi;rw[hi];exact h2
theorem bC.chg  {T:List D4} {m':NH} (h:bC B m v e C) (hc:Chg T m m') (ht:∀id∈ids v,id∉T):bC B m' v e C:=by
 obtain ⟨h0,⟨rfl,rfl⟩|⟨id,off,kc,c,rfl,hb,h1,h2,h3,h4⟩⟩:=h
 ·exact ⟨h0,Or.inl ⟨rfl,rfl⟩⟩
 ·exact ⟨h0,Or.inr ⟨id,off,kc,c,rfl,hb,(hc.get h2 (ht id (List.mem_cons_self ..))).trans h1,hc.old h2,h3,h4⟩⟩
theorem bC.new  (h:bC B m v e C):∀id∈ids v,¬aP B id:=by
 obtain ⟨h0,⟨rfl,rfl⟩|⟨id,off,kc,c,rfl,hb,h1,h2,h3,h4⟩⟩:=h
 ·intro id hid;simp[ids] at hid
 ·intro i hi;simp[ids] at hi;rw[hi];exact hb
theorem bC.nil :bC B m .nils e []:=⟨fun x hx=>by simp at hx,Or.inl ⟨rfl,rfl⟩⟩
theorem Sl.nil:Sl m .nils e []:=⟨fun x hx=>by simp at hx,Or.inl ⟨rfl,rfl⟩⟩
theorem bC.of  {id:D4} {k:Nat} {c:List NV} (h:∀x∈C,x.length=e) (hb:¬aP B id) (hg:m.get id=some (.cells true c)) (ho:aP m id) (hc:c=C.flatten) (hn:n=C.length) (hk:k=C.length):bC B m (.slc id 0 n e k) e C:=by
 subst hn hk hc
 have hl:=cU h
 exact ⟨h,Or.inr ⟨id,0,_,_,rfl,hb,hg,ho,by omega,by omega,by rw[List.drop_zero,←hl,List.take_length]⟩⟩
theorem bC.back  {B':NH} (h:bC B m v e C) (hb:∀id,aP B' id->aP B id):bC B' m v e C:=by
 obtain ⟨h0,⟨rfl,rfl⟩|⟨id,off,kc,c,rfl,hb',h1,h2,h3,h4⟩⟩:=h
 ·exact ⟨h0,Or.inl ⟨rfl,rfl⟩⟩
 ·exact ⟨h0,Or.inr ⟨id,off,kc,c,rfl,fun q=>hb' (hb _ q),h1,h2,h3,h4⟩⟩
theorem eF  {x:NV} (h:Sl m x n D) {K:Nat->List NV->NR}:eo n m x K=K D.length D.flatten:=by
 obtain ⟨h0,⟨rfl,rfl⟩|⟨id,off,kc,w,c,rfl,h1,h2,h3,h4⟩⟩:=h
 ·rfl
 ·show cond (Nat.beq n n) (bm m id fun c=>aC (dz c off (Nat.mul D.length n)) fun l=>K D.length l) .fail=_
  rw[Nat.beq_refl]
  show bm m id (fun c=>aC (dz c off (Nat.mul D.length n)) fun l=>K D.length l)=_
  unfold bm
  rw[h1]
  show aC (dz c off (D.length*n)) (fun l=>K D.length l)=_
  rw[eD,IN h3,h4];rfl
theorem Chg.put (m:NH) (id:D4) (o:NO):Chg [id] m (m.put id o):=
 ⟨Nat.le_refl _,fun {i} _ hn=>NH.get_put_ne m o (by simpa using hn)⟩
theorem aP.next_ne  {i:D4} (h:aP m i):i≠m.next:=by
 intro e;rw[e] at h;exact Nat.lt_irrefl _ h
theorem Chg.add (m:NH) (o:NO):Chg [] m (m.add o):=
 ⟨by show m.next.toNat<=m.next.nxt.toNat;rw[D4.toNat_nxt];omega,fun {i} ho _=>NH.get_add_ne m o ho.next_ne⟩
theorem iI (m:NH) (o:NO):aP (m.add o) m.next:=by
 show m.next.toNat<m.next.nxt.toNat;rw[D4.toNat_nxt];omega
theorem sT  (h:n*bytes<=1099511627776) (h':n<=1099511627776):room n bytes=true:=by
 unfold room
 rw[show Nat.ble (Nat.mul n bytes) 1099511627776=true from Nat.ble_eq_true_of_le h,show Nat.ble n 1099511627776=true from Nat.ble_eq_true_of_le h']
 rfl
theorem bC.app  {x:NV} (hv:bC B m v e C) (hx:Sl m x e D) (hD:D≠ []) (hB:∀id,aP B id->aP m id) (hr:(C.length+D.length)*bytes<=1099511627776) (hr':C.length+D.length<=1099511627776):
 ∃v' m',oB e bytes m v x= .mem v' m'/\bC B m' v' e (C++D)/\Chg (ids v) m m':=by
 unfold oB
 rw[eF hx]
 have hDl:∀y∈D,y.length=e:=hx.1
 have hDp:0<D.length:=List.length_pos_iff.mpr hD
 obtain ⟨k,hk⟩:∃k,D.length=k+1:=⟨D.length - 1,by omega⟩
 have hall:∀y∈C++D,y.length=e:=fun y hy=>(List.mem_append.mp hy).elim (hv.1 y) (hDl y)
 have hnext:¬aP B m.next:=fun q=>Nat.lt_irrefl _ (hB _ q)
 obtain ⟨h0,⟨rfl,rfl⟩|⟨id,off,kc,c,rfl,hb,h1,h2,h3,h3',h4⟩⟩:=hv
 ·refine ⟨.slc m.next 0 D.length e D.length,m.add (.cells true D.flatten), ?_, ?_,Chg.add m _⟩
  ·show Nat.rec (motive:=fun _=>NR) (.val .nils) (fun _ _=>cond (room D.length bytes) (m.new (.cells true D.flatten) fun id h=> .mem (.slc id 0 D.length e D.length) h) .fail) D.length=_
   rw[sT (by simpa using hr) (by simpa using hr'),NH.new_eq,hk];rfl
  ·exact bC.of hall hnext (NH.get_add_same m _) (iI m _) (by simp) (by simp) (by simp)
 ·have e1:cP e bytes m (.slc id off C.length e kc) D.length D.flatten=(cond (Nat.ble (C.length+D.length) kc)
   (aC (b8 D.flatten (off+C.length*e) c) fun c=>m.set id (.cells true c) fun h=> .mem (.slc id off (C.length+D.length) e kc) h)
   (aC (cR off c) fun c=>aC (dY (C.length*e) c) fun old=>cond (room (C.length+D.length) bytes)
    (eZ old D.flatten fun l=>m.set id .dead fun h=>h.new (.cells true l) fun id h=> .mem (.slc id 0 (C.length+D.length) e (C.length+D.length)) h) .fail)):=by
   show cond (Nat.beq e e) (Nat.rec (motive:=fun _=>NR) (.val (.slc id off C.length e kc)) (fun _ _=>cE m id fun c=>an (Nat.add C.length D.length) fun n=>cond (Nat.ble n kc)
    (aC (b8 D.flatten (Nat.add off (Nat.mul C.length e)) c) fun c=>m.set id (.cells true c) fun h=> .mem (.slc id off n e kc) h)
    (aC (cR off c) fun c=>aC (dY (Nat.mul C.length e) c) fun old=>cond (room n bytes)
     (eZ old D.flatten fun l=>m.set id .dead fun h=>h.new (.cells true l) fun id h=> .mem (.slc id 0 n e n) h) .fail)) D.length) .fail=_
   rw[Nat.beq_refl,hk]
   show cE m id _=_
   unfold cE
   rw[h1]
   show an (C.length+(k+1)) _=_
   rw[aa]
   rfl
  rw[e1]
  have fl:=cU hDl
  have fc:=cU h0
  cases hle:Nat.ble (C.length+D.length) kc with
  |true=>
   have hle:=Nat.le_of_ble_eq_true hle
   have hm:C.length*e+D.length*e<=kc*e:=by rw[←Nat.add_mul];exact Nat.mul_le_mul_right e hle
   refine ⟨.slc id off (C.length+D.length) e kc,m.put id (.cells true (c.take (off+C.length*e)++D.flatten++c.drop (off+C.length*e+D.flatten.length))), ?_, ?_,Chg.put m id _⟩
   ·show aC (b8 D.flatten (off+C.length*e) c) _=_
    rw[cT,IN (by omega)]
    show m.set id _ _=_
    rw[NH.set_eq]
   ·refine ⟨hall,Or.inr ⟨id,off,kc,_,by rw[List.length_append],hb,NH.get_put_same m id _,h2, ?_, ?_, ?_⟩⟩
    ·simp only[List.length_append,List.length_take,List.length_drop,Nat.add_mul];omega
    ·simp only[List.length_append,List.length_take,List.length_drop];omega
    ·have e3:c.take (off+C.length*e)=c.take off++C.flatten:=by rw[List.take_add,h4]
     have e4:(c.take off).length=off:=by rw[List.length_take];omega
     have e5:(c.take off++C.flatten++D.flatten++c.drop (off+C.length*e+D.flatten.length)).drop off=C.flatten++D.flatten++c.drop (off+C.length*e+D.flatten.length):=by
      rw[List.append_assoc,List.append_assoc]
      have:=List.drop_left (l₁:=c.take off) (l₂:=C.flatten++(D.flatten++c.drop (off+C.length*e+D.flatten.length)))
      rw[e4] at this
      rw[this,List.append_assoc]
     rw[e3,e5,List.flatten_append,List.length_append,Nat.add_mul]
     rw[show C.length*e+D.length*e=(C.flatten++D.flatten).length by rw[List.length_append,fl,fc]]
     exact List.take_left
  |false=>
   refine ⟨.slc m.next 0 (C.length+D.length) e (C.length+D.length),(m.put id .dead).add (.cells true (C.flatten++D.flatten)), ?_, ?_, ?_⟩
   ·show aC (cR off c) _=_
    rw[eI,IN (by omega)]
    show aC (dY (C.length*e) (c.drop off)) _=_
    rw[eC,IN (by rw[List.length_drop];omega),h4]
    show cond (room (C.length+D.length) bytes) _ _=_
    rw[sT hr hr']
    show eZ C.flatten D.flatten _=_
    rw[de,NH.set_eq,NH.new_eq];rfl
   ·exact bC.of hall hnext (NH.get_add_same (m.put id .dead) _) (iI (m.put id .dead) _) (by simp) (by simp) (by simp)
   ·exact (Chg.put m id .dead).trans (Chg.add _ _) fun i hi _=>by simp at hi
theorem Sl.appNil {x:NV} (hv:Sl m v e C) (hx:Sl m x e []):oB e bytes m v x= .val v:=by
 unfold oB
 rw[eF hx]
 obtain ⟨h0,⟨rfl,rfl⟩|⟨id,off,kc,w,c,rfl,h1,h2,h3,h4⟩⟩:=hv
 ·rfl
 ·show cond (Nat.beq e e) _ _=_
  rw[Nat.beq_refl];rfl
def jY (off:Nat):List (Nat×NV)->List NV->List NV
 | [],c=>c
 |(k,x)::us,c=>jY off us (c.set (off+k) x)
theorem lu {off:Nat}:∀(us:List (Nat×NV)) (c:List NV),(jY off us c).length=c.length:=by
 intro us
 induction us with
 |nil=>intro c;rfl
 |cons u us ih=>intro c;obtain ⟨k,x⟩:=u;show (jY off us (c.set (off+k) x)).length=_;rw[ih,List.length_set]
theorem bC.at  (h:bC B m v e C) (i:Nat) (hi:i<C.length):∃id off c,iy e v (.int .i64 (.lit (i:Int)))= .val (.ptr id off)/\ids v= [id]/\¬aP B id/\m.get id=some (.cells true c)/\aP m id/\off+e<=c.length/\(c.drop off).take e=C[i]/\
 ∀(us:List (Nat×NV)) (M:NH),(∀u∈us,u.1<e)->M.get id=some (.cells true (jY off us c))->aP M id->bC B M v e (C.set i (jY 0 us C[i])):=by
 obtain ⟨h0,⟨rfl,rfl⟩|⟨id,off,kc,c,rfl,hb,h1,h2,h3,h3',h4⟩⟩:=h
 ·simp at hi
 ·obtain ⟨h5,h6⟩:=rV h0 rfl h3 h4 i hi
  refine ⟨id,off+i*e,c,uP (by omega) (by omega),rfl,hb,h1,h2,h5,h6,fun us M hk hM hMo=> ?_⟩
  have hlen:∀y∈C.set i (jY 0 us C[i]),y.length=e:=by
   intro y hy
   rcases List.mem_or_eq_of_mem_set hy with hy|hy
   ·exact h0 y hy
   ·rw[hy,lu];exact h0 _ (List.getElem_mem hi)
  refine ⟨hlen,Or.inr ⟨id,off,kc,_,by rw[List.length_set],hb,hM,hMo,by rw[lu,List.length_set];exact h3,by rw[lu];exact h3', ?_⟩⟩
  rw[List.length_set]
  have hone:∀(k:Nat) (x:NV) (_:k<e) (C:List (List NV)) (_:∀x∈C,x.length=e) (i:Nat) (hi:i<C.length),(C.set i (C[i].set k x)).flatten=C.flatten.set (i*e+k) x:=by
   intro k x hk C
   induction C with
   |nil=>intro _ i hi;simp at hi
   |cons a C ih=>
    intro h i hi
    have ha:=h a (List.mem_cons_self ..)
    cases i with
    |zero=>simp only[List.set_cons_zero,List.flatten_cons,List.getElem_cons_zero,Nat.zero_mul,Nat.zero_add];rw[List.set_append_left _ _ (by omega)]
    |succ i=>
     simp only[List.set_cons_succ,List.flatten_cons,List.getElem_cons_succ]
     rw[ih (fun x hx=>h x (List.mem_cons_of_mem _ hx)) i (by simpa using hi),List.set_append_right _ _ (by rw[ha,Nat.succ_mul];omega),ha,Nat.succ_mul]
     congr 2;omega
  have hall:∀(us:List (Nat×NV)) (_:∀u∈us,u.1<e) (c:List NV) (C:List (List NV)) (_:∀x∈C,x.length=e) (hi:i<C.length),(c.drop off).take (C.length*e)=C.flatten->
   ((jY (off+i*e) us c).drop off).take (C.length*e)=(C.set i (jY 0 us C[i])).flatten:=by
   intro us
   induction us with
   |nil=>intro _ c C _ hi hf;simp[jY];exact hf
   |cons u us ih=>
    obtain ⟨k,x⟩:=u
    intro hk c C hC hi hf
    have hk0:k<e:=hk (k,x) (List.mem_cons_self ..)
    have:=ih (fun u hu=>hk u (List.mem_cons_of_mem _ hu)) (c.set (off+i*e+k) x) (C.set i (C[i].set k x))
     (fun y hy=>by
      rcases List.mem_or_eq_of_mem_set hy with hy|hy
      ·exact hC y hy
      ·rw[hy,List.length_set];exact hC _ (List.getElem_mem hi))
     (by rw[List.length_set];exact hi)
     (by rw[List.length_set,hone k x hk0 C hC i hi,←hf,List.drop_set,IM (by omega),List.take_set];congr 1;omega)
    rw[List.getElem_set_self,List.set_set] at this
    simp only[List.length_set] at this
    show ((jY (off+i*e) us (c.set (off+i*e+k) x)).drop off).take (C.length*e)=(C.set i (jY 0 us (C[i].set (0+k) x))).flatten
    rw[Nat.zero_add];exact this
  exact hall us hk c C h0 hi h4
theorem Sl.flat (h:Sl m v e C):si v:=by
 obtain ⟨_,⟨rfl,rfl⟩|⟨id,off,kc,w,c,rfl,_⟩⟩:=h<;>trivial
theorem Sl.same (h:Sl m v e C):bo (n+1) v v=true:=gd h.flat
theorem Sl.ssl (h:Sl m v e C) {t:Tm} {lo hi:Option NOpd} {a b:Nat} (hab:a<=b) (hb:b<=C.length) (hlo:∀K:Nat->NR,gC t lo 0 K=K a) (hhi:∀(d:Nat) (K:Nat->NR),d=C.length->gC t hi d K=K b):
 ∃v',qm e t lo hi v= .val v'/\Sl m v' e ((C.drop a).take (b - a))/\(∀i∈ids v',i∈ids v):=by
 obtain ⟨h0,⟨rfl,rfl⟩|⟨id,off,kc,w,c,rfl,h1,h2,h3,h4⟩⟩:=h
 ·simp at hb
  subst hb
  have ha:a=0:=by omega
  subst ha
  refine ⟨.nils, ?_,⟨by simp,Or.inl ⟨rfl,by simp⟩⟩,fun _ h=>h⟩
  rw[xk,hhi 0 _ rfl,hlo];rfl
 ·have hlen:((C.drop a).take (b - a)).length=b - a:=by rw[List.length_take,List.length_drop];omega
  have hall:∀x∈(C.drop a).take (b - a),x.length=e:=fun x hx=>h0 x (List.mem_of_mem_drop (List.mem_of_mem_take hx))
  have hmul:a*e+(b - a)*e<=C.length*e:=by rw[←Nat.add_mul];exact Nat.mul_le_mul_right e (by omega)
  refine ⟨.slc id (off+a*e) (b - a) e (kc - a), ?_,⟨hall,Or.inr ⟨id,off+a*e,kc - a,w,c,by rw[hlen],h1,h2,by rw[hlen];omega, ?_⟩⟩,fun _ h=>h⟩
  ·rw[qy,hhi _ _ rfl,hlo,vZ hab hb]
  ·rw[hlen]
   have e1:(c.drop (off+a*e)).take ((b - a)*e)=(((c.drop off).take (C.length*e)).drop (a*e)).take ((b - a)*e):=by
    rw[List.drop_take,List.take_take,List.drop_drop,Nat.min_eq_left (by omega)]
   rw[e1,h4]
   have e2:C.flatten=(C.take a).flatten++(((C.drop a).take (b - a)).flatten++((C.drop a).drop (b - a)).flatten):=by
    rw[←List.flatten_append,List.take_append_drop,←List.flatten_append,List.take_append_drop]
   have e3:((C.take a).flatten).length=a*e:=by
    rw[cU fun x hx=>h0 x (List.mem_of_mem_take hx),List.length_take,Nat.min_eq_left (by omega)]
   have e4:(((C.drop a).take (b - a)).flatten).length=(b - a)*e:=by rw[cU hall,hlen]
   rw[e2,←e3,List.drop_left,←e4,List.take_left]
theorem pI {α:Type} (n:Nat) (z:List α):Nm.rep n z=(List.replicate n z).flatten:=by
 induction n with
 |zero=>rfl
 |succ n ih=>show z++Nm.rep n z=_;rw[ih,List.replicate_succ,List.flatten_cons]
theorem fW {c cs:List NV} {off e:Nat} (h:(c.drop off).take e=cs) (k:Nat) (hk:k<e):c[off+k]? =cs[k]? :=by
 rw[←h,List.getElem?_take_of_lt hk,List.getElem?_drop]
end
end Nm
namespace Nm
open Go Go.RowKit
variable {m:NH} {l cs:List NV} {t:Tm} {k cur:Nat} {ps:List (Nat×Nat×NOpd)} {S:Nat->List NV->Option NV} {C:List (List NV)}
section
variable {L:List (D4×NV)} {t:Tm} {ctx:Option NV} {m:NH} {K:NV->NH->Prop}
theorem BL {q:Bool}:(q==true)=q:=by cases q<;>rfl
theorem Dc {q:Bool}:(q==false)= !q:=by cases q<;>rfl
theorem dC {l:List (AK×NO)} {S:List D4} (h:pT l=S):Chg S m (hp l k m):=h▸uS l k m
def xA (f:List NV->List NV) (o:Option (List NV)):Option (List NV):=match o with|some l=>some (f l)|none=>none
theorem BW {f:List NV->List NV}:xA f (some l)=some (f l):=_root_.id rfl
noncomputable def HW (t:Tm) (ps:List (Nat×Nat×NOpd)) (off k cur:Nat) (l:List NV) (o:Option (List NV)):Option (List NV):=match o with
 |some cs=>if cs.length=k/\cur<=off/\off - cur+k<=l.length then xA (fun r=>l.take (off - cur)++(cs++r)) (bM t ps (off+k) (l.drop (off - cur+k))) else none
 |none=>none
theorem Fd :bM t [] cur l=some l:=_root_.id rfl
theorem uN {α:Type} (K:List α->Option (List α)):∀(k:Nat) (l:List α),ei k K l=if k<=l.length then (match K (l.drop k) with|some r=>some (l.take k++r)|none=>none) else none:=by
 intro k
 induction k with
 |zero=>intro l;show K l=_;simp;cases K l<;>rfl
 |succ k ih=>
  intro l
  cases l with
  |nil=>simp;rfl
  |cons a l=>
   show Option.rec (motive:=fun _=>Option (List α)) none (fun t'=>some (a::t')) (ei k K l)=_
   rw[ih]
   by_cases h:k<=l.length
   ·rw[IN h,IN (by simpa using h),List.drop_succ_cons]
    cases K (l.drop k)<;>rfl
   ·rw[IM h,IM (by simpa using h)]
theorem HL  {off:Nat} {x:NOpd}:bM t ((off,k,x)::ps) cur l=oO (ρ t x) fun v=>HW t ps off k cur l (cellsOf v):=by
 show Option.rec (motive:=fun _=>Option (List NV)) none (fun v:NV=>Option.rec (motive:=fun _=>Option (List NV)) none (fun cs=>cG cs fun j=>cond (Nat.beq j k) (cond (Nat.ble cur off)
  (ei (Nat.sub off cur) (fun l=>Option.rec (motive:=fun _=>Option (List NV)) none (fun l=>Option.rec (motive:=fun _=>Option (List NV)) none (fun l=>eZ cs l some) (bM t ps (Nat.add off j) l)) (cR j l)) l) none) none) (cellsOf v)) (ρ t x)=_
 cases ρ t x with
 |none=>rfl
 |some v=>
  show Option.rec (motive:=fun _=>Option (List NV)) none (fun cs=>cG cs fun j=>cond (Nat.beq j k) (cond (Nat.ble cur off)
   (ei (Nat.sub off cur) (fun l=>Option.rec (motive:=fun _=>Option (List NV)) none (fun l=>Option.rec (motive:=fun _=>Option (List NV)) none (fun l=>eZ cs l some) (bM t ps (Nat.add off j) l)) (cR j l)) l) none) none) (cellsOf v)=HW t ps off k cur l (cellsOf v)
  cases cellsOf v with
  |none=>rfl
  |some cs=>
   show cG cs (fun j=>cond (Nat.beq j k) (cond (Nat.ble cur off)
    (ei (Nat.sub off cur) (fun l=>Option.rec (motive:=fun _=>Option (List NV)) none (fun l=>Option.rec (motive:=fun _=>Option (List NV)) none (fun l=>eZ cs l some) (bM t ps (Nat.add off j) l)) (cR j l)) l) none) none)=if cs.length=k/\cur<=off/\off - cur+k<=l.length then _ else _
   rw[bu]
   cases hb:Nat.beq cs.length k with
   |false=>rw[IM (fun h=>Nat.ne_of_beq_eq_false hb h.1)];rfl
   |true=>
    have hk:=IT hb
    subst hk
    cases hle:Nat.ble cur off with
    |false=>rw[IM (fun h=>by rw[Nat.ble_eq_true_of_le h.2.1] at hle;cases hle)];rfl
    |true=>
     have hle:=Nat.le_of_ble_eq_true hle
     show ei (off - cur) (fun l=>Option.rec (motive:=fun _=>Option (List NV)) none (fun l=>Option.rec (motive:=fun _=>Option (List NV)) none (fun l=>eZ cs l some) (bM t ps (off+cs.length) l)) (cR cs.length l)) l=_
     rw[uN]
     by_cases h1:off - cur<=l.length
     ·rw[IN h1,eI,List.length_drop]
      by_cases h2:cs.length<=l.length - (off - cur)
      ·rw[IN h2,IN ⟨rfl,hle,by omega⟩,List.drop_drop]
       dsimp only
       cases bM t ps (off+cs.length) (l.drop (off - cur+cs.length)) with
       |none=>rfl
       |some r=>dsimp only[xA];rw[de]
      ·rw[IM h2,IM (fun h=>h2 (by omega))]
     ·rw[IM h1,IM (fun h=>h1 (by omega))]
theorem EU  {off:Nat} (h1:cs.length=k) (h2:cur<=off) (h3:off - cur+k<=l.length):
 HW t ps off k cur l (some cs)=xA (fun r=>l.take (off - cur)++(cs++r)) (bM t ps (off+k) (l.drop (off - cur+k))):=IN ⟨h1,h2,h3⟩
theorem nG.wf' {P:Program} {f:Nat} {args:List NV} {m':NH} {v:NV} (h:nG P S f args m v m') {K:NV->NH->Prop}:WF P S f args m K=K v m':=by
 rw[h.wf,am]
theorem xe (m:NH) (o:NO):hp [(.n 0,o)] 1 m=m.add o:=by
 have:=wv (m:=m) (l:= []) (k:=0) (o:=o)
 rw[am] at this
 exact this.symm
theorem bC.app1  {B:NH} {v:NV} {e:Nat} {x:D4} {w:Bool} {kc bytes:Nat} (hv:bC B m v e C) (hx:m.get x=some (.cells w cs)) (hox:aP m x) (hl:cs.length=e) (hB:∀id,aP B id->aP m id)
 (hr:(C.length+1)*bytes<=1099511627776) (hr':C.length+1<=1099511627776):∃v' m',oB e bytes m v (.slc x 0 1 e kc)= .mem v' m'/\bC B m' v' e (C++ [cs])/\Chg (ids v) m m':=
 hv.app (D:= [cs]) ⟨fun y hy=>by simp at hy;rw[hy];exact hl,Or.inr ⟨x,0,kc,w,cs,rfl,hx,hox,by subst hl;simp,by subst hl;simp⟩⟩ (by simp) hB hr hr'
theorem xR {P:Program} {dst:D4} {L:List (D4×NV)} {dfs:List Dfr} {ctx:Option NV} {K:Dyn->Prop} {B:NH} {v:NV} {e:Nat} {x:D4} {w:Bool} {kc bytes:Nat} (hv:bC B m v e C) (hx:m.get x=some (.cells w cs)) (hox:aP m x) (hl:cs.length=e) (hB:∀id,aP B id->aP m id)
 (hr:(C.length+1)*bytes<=1099511627776) (hr':C.length+1<=1099511627776) (h:∀v' m',bC B m' v' e (C++ [cs])->Chg (ids v) m m'->K ⟨aw ((dst,v')::L) t,dfs,ctx,hp [] 0 m'⟩):
 wN P S (some dst) (aw L t) dfs ctx m (oB e bytes m v (.slc x 0 1 e kc)) K:=by
 obtain ⟨v',m',h1,h2,h3⟩:=hv.app1 (bytes:=bytes) (kc:=kc) hx hox hl hB hr hr'
 have:=h v' m' h2 h3
 rw[am] at this
 rw[h1];exact this
theorem Ea {b:Bool}:cellsOf (.bool b)=some [.bool b]:=_root_.id rfl
theorem Gj {k:IntKind} {x:SI}:cellsOf (.int k x)=some [.int k x]:=_root_.id rfl
theorem Gm {i:D4} {o:Nat}:cellsOf (.ptr i o)=some [.ptr i o]:=_root_.id rfl
theorem Dg:cellsOf (.nils)=some [.nils]:=_root_.id rfl
theorem EV {i:D4} {o n e:Nat}:cellsOf (.slc i o n e k)=some [.slc i o n e k]:=_root_.id rfl
theorem Hm {i:D4}:cellsOf (.map i)=some [.map i]:=_root_.id rfl
theorem Ie {f:Nat}:cellsOf (.fn f l)=some [.fn f l]:=_root_.id rfl
theorem GK :cellsOf (.agg l)=some l:=_root_.id rfl
noncomputable def FG (m:NH) (o:Option (List NV)):NR:=match o with|some cs=> .mem (.ptr m.next 0) (m.add (.cells true cs))|none=> .fail
theorem FC  {x:NOpd} {ty:Nat}:ae (.box x ty) t m=oN (ρ t x) fun v=>FG m (cellsOf v):=EE
theorem FV :FG m (some cs)= .mem (.ptr m.next 0) (m.add (.cells true cs)):=_root_.id rfl
abbrev ii (z:Int):NV:= .int .i64 (.lit z)
end
end Nm
namespace Nm
open Go Go.RowKit
variable {K Φ:NV->NH->Prop} {t:Tm} {dfs:List Dfr} {ps:List D4} {o:Out} {rs:List NRes} {Q:Out->Dyn->Prop}
def lq (P:Program) (S:Nat->List NV->Option NV) (q:D4) (args:List NV) (m:NH) (v:NV) (m':NH):Prop:=∃c,sZ P S q args m (.val v c m')
def WY (P:Program) (S:Nat->List NV->Option NV) (q:D4) (args:List NV) (m:NH) (K:NV->NH->Prop):Prop:=∃v c m',sZ P S q args m (.val v c m')/\K v m'
section
variable {P:Program} {S:Nat->List NV->Option NV} {f:Nat} {q:D4} {args:List NV} {m:NH}
theorem sZ.det {x y:CR} (h:sZ P S q args m x) (h':sZ P S q args m y):x=y:=by
 obtain ⟨hn,n,e⟩:=h
 obtain ⟨hn',k,e'⟩:=h'
 rw[←dZ (bB (Nat.le_max_left n k)) e hn,dZ (bB (Nat.le_max_right n k)) e' hn']
theorem lq.wy {v:NV} {m':NH} (h:lq P S q args m v m'):WY P S q args m K=K v (hp [] 0 m'):=by
 rw[am]
 apply propext
 constructor
 ·rintro ⟨u,c,n,hc,hk⟩
  obtain ⟨c',h'⟩:=h
  have:=sZ.det hc h'
  injection this with a _ b
  rw[←a,←b];exact hk
 ·intro hk
  obtain ⟨c,h⟩:=h
  exact ⟨v,c,m',h,hk⟩
def Di (q:D4) (K:NV->NH->Prop) (o:Out) (d:Dyn):Prop:=match d.h.get q with
 |some (.loop _ _ tm ps a b)=>(match o with
  | .norm=>K (.bool true) (d.h.put q (.loop 0 .none tm ps a b))
  | .ret=>K (.bool false) (d.h.put q (.loop 2 .ret tm ps a b))
  | .exit i=>K (.bool false) (d.h.put q (.loop 2 (.exit i) tm ps a b))
  | .pan _=>False)
 |_=>False
theorem WY.of_wp {p:Jump} {tm:NT NV} {a b A B:NC} (hm:m.get q=some (.loop 0 p tm ps a b)) (hlen:args.length=ps.length) (ea:a=A) (eb:b=B)
 (h:wp P S (some q) A ⟨lz ps args tm, [],none,hp [] 0 m⟩ (fun o d=>o= .norm/\d.dfs= []/\d.h.get q=some (.loop 0 p tm ps a b)/\wp P S (some q) B ⟨d.t, [],none,d.h.put q (.loop 1 p tm ps a b)⟩ (Di q K))):WY P S q args m K:=by
 subst ea eb
 rw[am] at h
 obtain ⟨o,d1,h1,rfl,hd,hq,h2⟩:=bz _ _ _ h
 obtain ⟨o,d2,h3,h4⟩:=bz _ _ _ h2
 unfold Di at h4
 cases hg:d2.h.get q with
 |none=>rw[hg] at h4;exact h4.elim
 |some w=>
  rw[hg] at h4
  cases w with
  |loop st p2 tm2 ps2 a2 b2=>
   cases o with
   |norm=>exact ⟨_,none,_,sZ.of hm hlen h1 hd hq h3 (by simp) (by unfold cV;rw[hg];exact NH.set_eq _ _ _ _) (by simp),h4⟩
   |ret=>exact ⟨_,none,_,sZ.of hm hlen h1 hd hq h3 (by simp) (by unfold cV;rw[hg];exact NH.set_eq _ _ _ _) (by simp),h4⟩
   |exit i=>exact ⟨_,none,_,sZ.of hm hlen h1 hd hq h3 (by simp) (by unfold cV;rw[hg];exact NH.set_eq _ _ _ _) (by simp),h4⟩
   |pan v=>exact h4.elim
  |_=>exact h4.elim
noncomputable def H8 (q:D4) (K:NV->NH->Prop) (o:Out) (m:NH) (x:Option NO):Prop:=match x with
 |some (.loop _ _ tm ps a b)=>(match o with
  | .norm=>K (.bool true) (m.put q (.loop 0 .none tm ps a b))
  | .ret=>K (.bool false) (m.put q (.loop 2 .ret tm ps a b))
  | .exit i=>K (.bool false) (m.put q (.loop 2 (.exit i) tm ps a b))
  | .pan _=>False)
 |_=>False
theorem AV  {ctx:Option NV}:Di q K o ⟨t,dfs,ctx,m⟩=H8 q K o m (m.get q):=_root_.id rfl
section
variable {K:NV->NH->Prop} {st:Nat} {p:Jump} {tm:NT NV} {ps:List D4} {a b:NC} {i:Nat}
theorem FM:H8 q K .norm m (some (.loop st p tm ps a b))=K (.bool true) (m.put q (.loop 0 .none tm ps a b)):=_root_.id rfl
theorem Fx:H8 q K .ret m (some (.loop st p tm ps a b))=K (.bool false) (m.put q (.loop 2 .ret tm ps a b)):=_root_.id rfl
end
theorem WY.ret  (h:WY P S q args m K):∃v m',lq P S q args m v m'/\K v m':=by
 obtain ⟨v,c,m',hc,hk⟩:=h;exact ⟨v,m',⟨c,hc⟩,hk⟩
theorem WY.ex  (h:∀K:NV->NH->Prop,(∀v m',Φ v m'->K v m')->WY P S q args m K):∃v m',lq P S q args m v m'/\Φ v m':=(h Φ fun _ _ h=>h).ret
theorem WF.ex  (h:∀K:NV->NH->Prop,(∀v m',Φ v m'->K v m')->WF P S f args m K):∃v m',nG P S f args m v m'/\Φ v m':=(h Φ fun _ _ h=>h).ret
def oW (ks:List D4) (t t':Tm):Prop:=∀k,k∉ks->NT.get k t'=NT.get k t
theorem oW.refl (ks:List D4) (t:Tm):oW ks t t:=fun _ _=>rfl
theorem oW.get {ks:List D4} {t':Tm} (h:oW ks t t') {k:D4} {v:Option NV} (g:NT.get k t=v) (hk:k∉ks):NT.get k t'=v:=(h k hk).trans g
theorem oW.trans {ks ls:List D4} {a b c:Tm} (h:oW ks a b) (h':oW ls b c) (hs:∀k∈ls,k∈ks):oW ks a c:=fun k hk=>(h' k fun q=>hk (hs k q)).trans (h k hk)
noncomputable def tN:List Dfr->NH->Option NH
 | [],m=>some m
 | .mark id::l,m=>(match m.get id with|some (.defd true)=>tN l (m.put id (.defd false))|_=>none)
 | .call ..::_,_=>none
def wW (rs:List NRes) (K:NV->NH->Prop) (o:Out) (d:Dyn):Prop:=(o= .norm∨o= .ret)/\∃m',tN d.dfs d.h=some m'/\∃v,bK m' d.t rs .fail (fun l=> .val (fh l) d.ctx m')= .val v d.ctx m'/\K v m'
theorem kO {F:Nat->List NV->Option NV->NH->CR} {K:Option NV->NH->CR}:∀(l:List Dfr) (m m':NH) (p:Option NV),tN l m=some m'->unwind F K l p m=K p m':=by
 intro l
 induction l with
 |nil=>intro m m' p h;injection h with h;rw[←h];rfl
 |cons c l ih=>
  intro m m' p h
  cases c with
  |call f cap=>cases h
  |mark id=>
   show (match m.get id with
    |some (.defd true)=>m.set id (.defd false) fun h=>unwind F K l p h
    |_=>CR.fail)=_
   change (match m.get id with|some (.defd true)=>tN l (m.put id (.defd false))|_=>none)=some m' at h
   cases hg:m.get id with
   |none=>rw[hg] at h;cases h
   |some o=>
    rw[hg] at h
    cases o with
    |defd b=>cases b with
     |true=>dsimp only at h ⊢;rw[NH.set_eq];exact ih _ _ _ h
     |false=>cases h
    |_=>cases h
theorem Call.of_runM {nf:NFun} (hs:∀l,S f l=none) (hf:ai P f=some (.code nf)) {d:Dyn} {m':NH} (ho:o= .norm∨o= .ret) (h:du P S none nf.body ⟨cO args 0 .leaf, [],none,m⟩ o d)
 (hd:tN d.dfs d.h=some m') {v:NV} (hv:bK m' d.t nf.results .fail (fun l=> .val (fh l) d.ctx m')= .val v d.ctx m'):Call P S f args m (.val v d.ctx m'):=by
 obtain ⟨n,hn⟩:=h
 refine ⟨by simp,n, ?_⟩
 unfold bJ
 rw[hs args]
 dsimp only
 rw[hf]
 show bW P (ev P S n) 3 f args none m=_
 rw[dS,hf]
 dsimp only
 rw[hn]
 rcases ho with rfl|rfl
 ·show unwind _ (finish nf.results d) d.dfs none d.h=_
  rw[kO _ _ _ _ hd];exact hv
 ·show unwind _ (finish nf.results d) d.dfs none d.h=_
  rw[kO _ _ _ _ hd];exact hv
theorem WF.of_wpM {nf:NFun} (hs:∀l,S f l=none) (hf:ai P f=some (.code nf)) {L:List (D4×NV)} (hL:cO args 0 .leaf=aw L .leaf)
 (h:wp P S none nf.body ⟨aw L .leaf, [],none,hp [] 0 m⟩ (wW nf.results K)):WF P S f args m K:=by
 rw[am] at h
 obtain ⟨o,d,h1,ho,m',hd,v,hv,hK⟩:=bz _ _ _ h
 rw[←hL] at h1
 exact ⟨v,d.ctx,m',Call.of_runM hs hf ho h1 hd hv,hK⟩
noncomputable def HK (rs:List NRes) (K:NV->NH->Prop) (t:Tm) (ctx:Option NV) (o:Option NH):Prop:=match o with|some m'=>ur rs K .ret ⟨t, [],ctx,m'⟩|none=>False
theorem yF  {ctx:Option NV} (ho:o= .norm∨o= .ret):wW rs K o ⟨t,dfs,ctx,m⟩=HK rs K t ctx (tN dfs m):=by
 apply propext
 constructor
 ·rintro ⟨_,m',h1,v,h2,h3⟩
  change tN dfs m=some m' at h1
  rw[h1]
  exact ⟨Or.inr rfl,rfl,v,h2,h3⟩
 ·intro h
  cases hu:tN dfs m with
  |none=>rw[hu] at h;exact h.elim
  |some m'=>
   rw[hu] at h
   obtain ⟨_,_,v,h2,h3⟩:=h
   exact ⟨ho,m',hu,v,h2,h3⟩
theorem Dj  {ctx:Option NV}:wW rs K .ret ⟨t,dfs,ctx,m⟩=HK rs K t ctx (tN dfs m):=yF (.inr rfl)
theorem Gp  {ctx:Option NV}:HK rs K t ctx (some m)=ur rs K .ret ⟨t, [],ctx,m⟩:=_root_.id rfl
theorem zf {r:Option D4} {g:NOpd} {a b:NC} {d:Dyn}:wp P S r (.rangeFunc g ps a b) d Q=W P S r (.rangeFunc g ps a b) d Q:=_root_.id rfl
theorem Ey:tN [] m=some m:=_root_.id rfl
noncomputable def Gl (l:List Dfr) (i:D4) (m:NH) (o:Option NO):Option NH:=match o with|some (.defd true)=>tN l (m.put i (.defd false))|_=>none
theorem Gf {l:List Dfr} {i:D4}:tN (.mark i::l) m=Gl l i m (m.get i):=_root_.id rfl
theorem En {l:List Dfr} {i:D4}:Gl l i m (some (.defd true))=tN l (m.put i (.defd false)):=_root_.id rfl
theorem W.range {cap:List NV} {fx:NOpd} {a b:NC} {ctx:Option NV} {M m':NH} {v:NV}
 (hf:ρ t fx=some (.fn f cap)) {x:D4} (hx:m.next=x) {y:D4} (hy:(m.add (.defd true)).next=y) (hM:(m.add (.defd true)).add (.loop 0 .none t ps a b)=M) (hc:nG P S f (.yld y::cap) M v m')
 {tm:NT NV} {ps':List D4} {a' b':NC} (hl:m'.get y=some (.loop 0 .none tm ps' a' b')) (hQ:Q .norm ⟨t,.mark x::dfs,ctx,hp [] 0 (m'.put y (.loop 3 .none tm ps' a' b'))⟩):
 W P S none (.rangeFunc fx ps a b) ⟨t,dfs,ctx,m⟩ Q:=by
 subst hx hy hM
 rw[am] at hQ
 obtain ⟨c,hc⟩:=hc
 refine ⟨_,_,du.range hf hc ?_,hQ⟩
 unfold dk
 rw[hl]
 dsimp only
 rw[show Nat.beq 0 1=false from rfl,cond_false,NH.set_eq]
end
end Nm
namespace Nm
open Go Go.RowKit
variable {args:List NV} {C:List (List NV)}
section
variable (P:Program) (S:Nat->List NV->Option NV) (r:Option D4)
def EP (c:NC) (Q:Out->Dyn->Prop) (d:Dyn):Prop:=wp P S r c d Q
def xm (dst:Option D4) (t:Tm) (dfs:List Dfr) (ctx:Option NV) (m:NH) (x:NR) (l:List NOper) (K:Dyn->Prop):Prop:=wN P S dst t dfs ctx m x fun d=>wO P S l d K
def vF (dst:Option D4) (t:Tm) (dfs:List Dfr) (ctx:Option NV) (l:List NOper) (K:Dyn->Prop) (v:NV) (m:NH):Prop:=wO P S l ⟨aE dst v t,dfs,ctx,m⟩ K
def gA (dst:Option D4) (op:NOp) (l:List NOper) (K:Dyn->Prop) (d:Dyn):Prop:=xm P S dst d.t d.dfs d.ctx d.h (ae op d.t d.h) l K
def gB (dst:Option D4) (l:List NOper) (K:Dyn->Prop) (d:Dyn):Prop:=wO P S l ⟨aE dst aA d.t,d.dfs,d.ctx,d.h⟩ K
def dA (dst:Option D4) (op:NOp) (pre idx:Nat) (l:List NOper) (hs:List (Nat×NH)) (rs:List (Nat×(NH->NR)×NV)) (K:Dyn->Prop) (d:Dyn):Prop:=wX (aq op) (ae op d.t d.h) P S (ae op d.t) dst pre idx l hs rs d K
def dB (dst:Option D4) (l:List NOper) (hs:List (Nat×NH)) (rs:List (Nat×(NH->NR)×NV)) (K:Dyn->Prop) (d:Dyn):Prop:=wD P S l hs rs ⟨aE dst aA d.t,d.dfs,d.ctx,d.h⟩ K
def G8 (pre idx:Nat) (m:NH) (l:List NOper) (hs:List (Nat×NH)) (rs:List (Nat×(NH->NR)×NV)) (K:Dyn->Prop) (d:Dyn):Prop:=aU pre d.h rs=true/\wD P S l ((idx,m)::hs) rs d K
def zL (dst:Option D4) (t:Tm) (dfs:List Dfr) (ctx:Option NV) (K:Dyn->Prop) (v:NV) (m:NH):Prop:=K ⟨aE dst v t,dfs,ctx,m⟩
end
section
variable {P:Program} {S:Nat->List NV->Option NV} {r:Option D4} {dst:Option D4} {op:NOp} {pre idx:Nat} {l:List NOper} {hs:List (Nat×NH)} {rs:List (Nat×(NH->NR)×NV)}
 {L:List (D4×NV)} {t:Tm} {dfs:List Dfr} {ctx:Option NV} {m m':NH} {v:NV} {k g:D4} {d:Dyn} {Q:Out->Dyn->Prop} {K:Dyn->Prop} {b:Bool}
theorem Fa {x y:NC}:wp P S r (.seq x y) d Q=wp P S r x d (fu (EP P S r y Q) Q):=_root_.id rfl
theorem Fg {c:NC}:EP P S r c Q d=wp P S r c d Q:=_root_.id rfl
theorem DU {g:NOpd} {x y:NC}:wp P S r (.cond g x y) ⟨aw L t,dfs,ctx,m⟩ Q=wC (ρ (aw L t) g) (EP P S r x Q) (EP P S r y Q) ⟨aw L t,dfs,ctx,m⟩:=_root_.id rfl
theorem CD:wO P S (⟨dst,op,none,pre,idx⟩::l) ⟨aw L t,dfs,ctx,m⟩ K=xm P S dst (aw L t) dfs ctx m (ae op (aw L t) m) l K:=_root_.id rfl
theorem E5:xm P S (some k) (aw L t) dfs ctx m (.val v) l K=wO P S l ⟨aw ((k,v)::L) t,dfs,ctx,m⟩ K:=_root_.id rfl
theorem Fm:xm P S (some k) (aw L t) dfs ctx m (.mem v m') l K=wO P S l ⟨aw ((k,v)::L) t,dfs,ctx,m'⟩ K:=_root_.id rfl
theorem CF:xm P S none (aw L t) dfs ctx m (.mem v m') l K=wO P S l ⟨aw L t,dfs,ctx,m'⟩ K:=_root_.id rfl
theorem Ew {f:Nat}:xm P S dst t dfs ctx m (.call f args) l K=WF P S f args m (vF P S dst t dfs ctx l K):=_root_.id rfl
theorem G3 {q:D4}:xm P S dst t dfs ctx m (.yld q args) l K=WY P S q args m (vF P S dst t dfs ctx l K):=_root_.id rfl
theorem xJ:vF P S (some k) (aw L t) dfs ctx l K v m=wO P S l ⟨aw ((k,v)::L) t,dfs,ctx,m⟩ K:=_root_.id rfl
theorem zl:wO P S (⟨dst,op,some (g,b),pre,idx⟩::l) ⟨aw L t,dfs,ctx,m⟩ K=wG (dt g L (NT.get g t)) b (gA P S dst op l K) (gB P S dst l K) ⟨aw L t,dfs,ctx,m⟩:=yE
theorem HN:gA P S dst op l K ⟨aw L t,dfs,ctx,m⟩=xm P S dst (aw L t) dfs ctx m (ae op (aw L t) m) l K:=_root_.id rfl
theorem HU:gB P S (some k) l K ⟨aw L t,dfs,ctx,m⟩=wO P S l ⟨aw ((k,aA)::L) t,dfs,ctx,m⟩ K:=_root_.id rfl
theorem wA:wD P S (⟨dst,op,some (g,b),pre,idx⟩::l) hs rs ⟨aw L t,dfs,ctx,m⟩ K=wG (dt g L (NT.get g t)) b (dA P S dst op pre idx l hs rs K) (dB P S dst l hs rs K) ⟨aw L t,dfs,ctx,m⟩:=vI
theorem Ic:dA P S dst op pre idx l hs rs K ⟨aw L t,dfs,ctx,m⟩=wX (aq op) (ae op (aw L t) m) P S (ae op (aw L t)) dst pre idx l hs rs ⟨aw L t,dfs,ctx,m⟩ K:=_root_.id rfl
theorem HB:dB P S (some k) l hs rs K ⟨aw L t,dfs,ctx,m⟩=wD P S l hs rs ⟨aw ((k,aA)::L) t,dfs,ctx,m⟩ K:=_root_.id rfl
def G6 (P:Program) (S:Nat->List NV->Option NV) (dst:Option D4) (t:Tm) (dfs:List Dfr) (ctx:Option NV) (m:NH) (x:NR) (K:Dyn->Prop):Prop:=wN P S dst t dfs ctx m x K
section
variable {f:NH->NR}
theorem AH {x:NR}:wX .eff x P S f dst pre idx l hs rs ⟨t,dfs,ctx,m⟩ K=(ahead pre hs=true/\G6 P S dst t dfs ctx m x (G8 P S pre idx m l hs rs K)):=_root_.id rfl
end
theorem Da:G6 P S (some k) (aw L t) dfs ctx m (.val v) K=K ⟨aw ((k,v)::L) t,dfs,ctx,m⟩:=_root_.id rfl
theorem DD:G6 P S (some k) (aw L t) dfs ctx m (.mem v m') K=K ⟨aw ((k,v)::L) t,dfs,ctx,m'⟩:=_root_.id rfl
theorem xL:G6 P S none (aw L t) dfs ctx m (.mem v m') K=K ⟨aw L t,dfs,ctx,m'⟩:=_root_.id rfl
theorem yd {f:Nat}:G6 P S dst t dfs ctx m (.call f args) K=WF P S f args m (zL dst t dfs ctx K):=_root_.id rfl
theorem zx:zL (some k) (aw L t) dfs ctx K v m=K ⟨aw ((k,v)::L) t,dfs,ctx,m⟩:=_root_.id rfl
theorem BJ {m0:NH}:G8 P S pre idx m0 l hs rs K ⟨t,dfs,ctx,m⟩=(aU pre m rs=true/\wD P S l ((idx,m0)::hs) rs ⟨t,dfs,ctx,m⟩ K):=_root_.id rfl
theorem wY {B:NH} {e:Nat} {x:D4} {w:Bool} {cs:List NV} {kc bytes:Nat} (hv:bC B m v e C) (hx:m.get x=some (.cells w cs)) (hox:aP m x) (hl:cs.length=e) (hB:∀id,aP B id->aP m id)
 (hr:(C.length+1)*bytes<=1099511627776) (hr':C.length+1<=1099511627776) (h:∀v' m',bC B m' v' e (C++ [cs])->Chg (ids v) m m'->wO P S l ⟨aw ((k,v')::L) t,dfs,ctx,hp [] 0 m'⟩ K):
 xm P S (some k) (aw L t) dfs ctx m (oB e bytes m v (.slc x 0 1 e kc)) l K:=xR hv hx hox hl hB hr hr' h
theorem xS {e a b:Nat} {lo hi:Option NOpd} (h:Sl m v e C) (hab:a<=b) (hb:b<=C.length) (hlo:∀K:Nat->NR,gC (aw L t) lo 0 K=K a) (hhi:∀(d:Nat) (K:Nat->NR),d=C.length->gC (aw L t) hi d K=K b)
 (hK:∀v',Sl m v' e ((C.drop a).take (b - a))->(∀i∈ids v',i∈ids v)->wO P S l ⟨aw ((k,v')::L) t,dfs,ctx,m⟩ K):xm P S (some k) (aw L t) dfs ctx m (qm e (aw L t) lo hi v) l K:=by
 obtain ⟨v',h1,h2,h3⟩:=h.ssl hab hb hlo hhi
 rw[h1];exact hK v' h2 h3
end
end Nm
namespace Nm
open Go Go.RowKit
variable {K:NV->NH->Prop} {n:Int} {k:IntKind} {rs l:List NRes}
section
variable {t:Tm} {m:NH}
theorem wrap_u64 :bp .u64 n=n % 18446744073709551616:=by rw[bG];rfl
theorem Ej {a b:Int}:cz .num .add (.int .u64 (.lit a)) (.int .u64 (.lit b))=some (.int .u64 (.lit ((a+b) % 18446744073709551616))):=by
 refine (gU rfl).trans ?_
 show bD .u64 (bp .u64 (qo a b))=_
 rw[m9,wrap_u64,aH]
theorem EA {a b:Int}:cz .num .mul (.int .u64 (.lit a)) (.int .u64 (.lit b))=some (.int .u64 (.lit ((a*b) % 18446744073709551616))):=by
 refine (gU rfl).trans ?_
 show bD .u64 (bp .u64 (mR a b))=_
 rw[eQ,wrap_u64,aH]
noncomputable def AL (k:IntKind) (v:NV):NR:=match v with| .int _ (.lit n)=> .val (.int k (.lit (bp k n)))|_=> .fail
theorem F7  {x:NOpd}:ae (.toInt k x) t m=oN (ρ t x) (AL k):=by
 show wV t x (fun v=>match v with| .int _ (.lit n)=>vr (bD k (bp k n))|_=> .fail)=_
 rw[bv]
 congr 1
 funext v
 cases v with
 |int k' x=>cases x with
  |lit n=>show vr (bD k (bp k n))=_;rw[aH];rfl
 |_=>rfl
theorem Dv :AL .u64 (.int k (.lit n))= .val (.int .u64 (.lit (n % 18446744073709551616))):=by show NR.val (.int .u64 (.lit (bp .u64 n)))=_;rw[wrap_u64]
theorem DJ  (h:-9223372036854775808<=n) (h':n<9223372036854775808):AL .i64 (.int k (.lit n))= .val (.int .i64 (.lit n)):=by show NR.val (.int .i64 (.lit (bp .i64 n)))=_;rw[wrap_small h h']
noncomputable def zY (v:NV):NR:=match v with| .ptr i o=> .val (.ptr i o)| .fn f c=> .val (.fn f c)| .yld l=> .val (.yld l)|_=> .fail
theorem El {x:NOpd}:ae (.nilCheck x) t m=oN (ρ t x) zY:=by
 show wV t x _=_
 rw[bv]
 cases ρ t x with
 |none=>rfl
 |some v=>cases v<;>rfl
theorem zu {i:D4} {o:Nat}:zY (.ptr i o)= .val (.ptr i o):=_root_.id rfl
noncomputable def rR (x:NR) (K:NV->Prop):Prop:=match x with| .val v=>K v|_=>False
noncomputable def mg (t:Tm) (m:NH):List NRes->(List NV->Prop)->Prop
 | [],K=>K []
 | .tmp k::l,K=>rK (NT.get k t) fun v=>mg t m l fun vs=>K (v::vs)
 | .cell1 k::l,K=>rR (ae (.load1 (.tmp k)) t m) fun v=>mg t m l fun vs=>K (v::vs)
 | .cellN k n::l,K=>rR (ae (.loadN n (.tmp k)) t m) fun v=>mg t m l fun vs=>K (v::vs)
theorem vU:∀(rs:List NRes) (K:List NV->Prop) (G:List NV->CR),mg t m rs K->∃l,bK m t rs .fail G=G l/\K l:=by
 intro rs
 induction rs with
 |nil=>intro K G h;exact ⟨[],rfl,h⟩
 |cons r rs ih=>
  intro K G h
  cases r with
  |tmp k=>
   cases hv:NT.get k t with
   |none=>unfold mg at h;rw[hv] at h;exact h.elim
   |some v=>
    unfold mg at h;rw[hv] at h
    obtain ⟨l,h1,h2⟩:=ih (fun vs=>K (v::vs)) (fun l=>G (v::l)) h
    refine ⟨v::l, ?_,h2⟩
    show (match (match NT.get k t with|some v=>NR.val v|none=> .fail) with| .val v=>bK m t rs .fail (fun l=>G (v::l))|_=> .fail)=_
    rw[hv];exact h1
  |cell1 k=>
   cases hv:ae (.load1 (.tmp k)) t m with
   |val v=>
    unfold mg at h;rw[hv] at h
    obtain ⟨l,h1,h2⟩:=ih (fun vs=>K (v::vs)) (fun l=>G (v::l)) h
    refine ⟨v::l, ?_,h2⟩
    change eh (.tmp k) t m= .val v at hv
    show (match eh (.tmp k) t m with| .val v=>bK m t rs .fail (fun l=>G (v::l))|_=> .fail)=_
    rw[hv];exact h1
   |_=>unfold mg at h;rw[hv] at h;exact h.elim
  |cellN k n=>
   cases hv:ae (.loadN n (.tmp k)) t m with
   |val v=>
    unfold mg at h;rw[hv] at h
    obtain ⟨l,h1,h2⟩:=ih (fun vs=>K (v::vs)) (fun l=>G (v::l)) h
    refine ⟨v::l, ?_,h2⟩
    change ed n (.tmp k) t m= .val v at hv
    show (match ed n (.tmp k) t m with| .val v=>bK m t rs .fail (fun l=>G (v::l))|_=> .fail)=_
    rw[hv];exact h1
   |_=>unfold mg at h;rw[hv] at h;exact h.elim
def zF (rs:List NRes) (K:NV->NH->Prop) (o:Out) (d:Dyn):Prop:=(o= .norm∨o= .ret)/\d.dfs= []/\mg d.t d.h rs fun l=>K (fh l) d.h
theorem lr  {o:Out} {d:Dyn} (h:zF rs K o d):ur rs K o d:=by
 obtain ⟨h1,h2,h3⟩:=h
 obtain ⟨l,h4,h5⟩:=vU rs _ (fun l=> .val (fh l) d.ctx d.h) h3
 exact ⟨h1,h2,fh l,h4,h5⟩
theorem kK  {ctx:Option NV}:zF rs K .ret ⟨t, [],ctx,m⟩=mg t m rs (fun l=>K (fh l) m):=propext ⟨fun h=>h.2.2,fun h=>⟨.inr rfl,rfl,h⟩⟩
theorem yz  {ctx:Option NV}:zF rs K .norm ⟨t, [],ctx,m⟩=mg t m rs (fun l=>K (fh l) m):=propext ⟨fun h=>h.2.2,fun h=>⟨.inl rfl,rfl,h⟩⟩
theorem Fy {K:List NV->Prop}:mg t m [] K=K []:=_root_.id rfl
theorem FF {K:List NV->Prop} {k:D4}:mg t m (.tmp k::l) K=rK (NT.get k t) fun v=>mg t m l fun vs=>K (v::vs):=_root_.id rfl
theorem G2 {K:List NV->Prop} {k:D4}:mg t m (.cell1 k::l) K=rR (ae (.load1 (.tmp k)) t m) fun v=>mg t m l fun vs=>K (v::vs):=_root_.id rfl
theorem FD {K:List NV->Prop} {k:D4} {n:Nat}:mg t m (.cellN k n::l) K=rR (ae (.loadN n (.tmp k)) t m) fun v=>mg t m l fun vs=>K (v::vs):=_root_.id rfl
theorem H0 {v:NV} {K:NV->Prop}:rR (.val v) K=K v:=_root_.id rfl
theorem yT {v:NV}:fh [v]=v:=_root_.id rfl
theorem yZ {a b:NV} {l:List NV}:fh (a::b::l)= .tup (a::b::l):=_root_.id rfl
theorem WF.of_wpG {P:Program} {S:Nat->List NV->Option NV} {f:Nat} {args:List NV} {nf:NFun} (hs:∀l,S f l=none) (hf:ai P f=some (.code nf)) {L:List (D4×NV)} (hL:cO args 0 .leaf=aw L .leaf)
 (h:wp P S none nf.body ⟨aw L .leaf, [],none,hp [] 0 m⟩ (zF nf.results K)):WF P S f args m K:=by
 rw[am] at h
 obtain ⟨o,d,h1,h2⟩:=bz _ _ _ h
 obtain ⟨ho,hd,v,hv,hK⟩:=lr h2
 rw[←hL] at h1
 exact ⟨v,d.ctx,d.h,Call.of_run hs hf ho h1 hd hv (by simp),hK⟩
end
end Nm
namespace Nm
open Go Go.RowKit
section
variable {t:Tm} {m:NH}
theorem yW:ae .mkMap t m= .mem (.map m.next) (m.add (.map [])):=NH.new_eq m (.map []) (fun id h=>NR.mem (.map id) h)
end
end Nm
namespace Nm
open Go Go.RowKit
variable {v:NV} {m:NH}
theorem CC  {id:D4}:(hp [] 0 m).get id=m.get id:=by rw[am]
def ic:Jump->Out
 | .none=> .norm
 | .ret=> .ret
 | .exit i=> .exit i
section
variable {P:Program} {S:Nat->List NV->Option NV}
theorem W.rangeJ {cap:List NV} {fx:NOpd} {ps:List D4} {a b:NC} {t:Tm} {dfs:List Dfr} {ctx:Option NV} {Q:Out->Dyn->Prop} {m':NH} {f:Nat}
 (hf:ρ t fx=some (.fn f cap)) (hc:nG P S f (.yld (na m 1)::cap) (hp [(.n 1,.loop 0 .none t ps a b),(.n 0,.defd true)] 2 m) v m')
 {st:Nat} {p:Jump} {tm:NT NV} {ps':List D4} {a' b':NC} (hl:m'.get (na m 1)=some (.loop st p tm ps' a' b')) (hst:st≠1) (hQ:Q (ic p) ⟨t,.mark (na m 0)::dfs,ctx,hp [(.o (na m 1),.loop 3 p tm ps' a' b')] 0 m'⟩) (ho:aP m' (na m 1)):
 W P S none (.rangeFunc fx ps a b) ⟨t,dfs,ctx,m⟩ Q:=by
 have e1:(m.add (.defd true)).next=na m 1:=by rw[←xe];rfl
 have e0:m.next=na m 0:=(ry m).symm
 have e2:(m.add (.defd true)).add (.loop 0 .none t ps a b)=hp [(.n 1,.loop 0 .none t ps a b),(.n 0,.defd true)] 2 m:=by rw[←xe m (.defd true),wv]
 rw[←qO ho,am] at hQ
 rw[←e1] at hQ hl hc
 rw[←e2] at hc
 rw[←e0] at hQ
 obtain ⟨c,hc⟩:=hc
 refine ⟨_,_,du.range hf hc ?_,hQ⟩
 unfold dk
 rw[hl]
 dsimp only
 rw[show Nat.beq st 1=false from by cases h:Nat.beq st 1 with|false=>rfl|true=>exact IL (IT h) hst,cond_false,NH.set_eq]
 cases p<;>rfl
end
theorem qJ {e bytes:Nat} {m':NH} {x v':NV} (h:oB e bytes m v x= .mem v' m'):∀i∈ids v',i∈ids v∨¬aP m i:=by
 have hn:¬aP m m.next:=fun q=>Nat.lt_irrefl _ q
 have new:∀{a b c d:Nat},∀i∈ids (.slc m.next a b c d),i∈ids v∨¬aP m i:=by
  intro a b c d i hi
  rcases List.mem_cons.mp hi with rfl|hi
  ·exact Or.inr hn
  ·exact IL hi (by simp)
 have key:∀(k:Nat) (nw:List NV),cP e bytes m v k nw= .mem v' m'->∀i∈ids v',i∈ids v∨¬aP m i:=by
  intro k nw h
  cases v with
  |nils=>
   cases k with
   |zero=>cases h
   |succ k=>
    obtain ⟨-,h⟩:=ay (show cond (room (k+1) bytes) (m.new (.cells true nw) fun id h=>NR.mem (.slc id 0 (k+1) e (k+1)) h) .fail=_ from h) (by simp)
    rw[NH.new_eq] at h;cases h;exact new
  |slc id off len e' kc=>
   cases k with
   |zero=>
    obtain ⟨-,h⟩:=ay (show cond (Nat.beq e' e) (NR.val (.slc id off len e' kc)) .fail=_ from h) (by simp)
    cases h
   |succ k=>
    obtain ⟨-,h⟩:=ay (show cond (Nat.beq e' e) (cE m id fun c=>an (Nat.add len (k+1)) fun n=>cond (Nat.ble n kc)
     (aC (b8 nw (Nat.add off (Nat.mul len e)) c) fun c=>m.set id (.cells true c) fun h=>NR.mem (.slc id off n e kc) h)
     (aC (cR off c) fun c=>aC (dY (Nat.mul len e) c) fun old=>cond (room n bytes)
      (eZ old nw fun l=>m.set id .dead fun h=>h.new (.cells true l) fun id h=>NR.mem (.slc id 0 n e n) h) .fail)) .fail=_ from h) (by simp)
    obtain ⟨c,-,h⟩:=cL h (by simp)
    rw[aa] at h
    cases hb:Nat.ble (Nat.add len (k+1)) kc with
    |true=>
     rw[hb] at h
     obtain ⟨c',-,h⟩:=ax h (by simp)
     rw[NH.set_eq] at h
     cases h
     exact fun i hi=>Or.inl hi
    |false=>
     rw[hb] at h
     obtain ⟨c',-,h⟩:=ax h (by simp)
     obtain ⟨c'',-,h⟩:=ax h (by simp)
     obtain ⟨-,h⟩:=ay h (by simp)
     rw[de,NH.set_eq,NH.new_eq] at h
     cases h
     exact new
  |_=>cases h
 unfold oB at h
 cases x with
 |nils=>exact key 0 [] h
 |slc id off len esz kc=>
  obtain ⟨-,h⟩:=ay (show cond (Nat.beq esz e) (bm m id (fun c=>aC (dz c off (Nat.mul len e)) fun l=>cP e bytes m v len l)) .fail=_ from h) (by simp)
  unfold bm at h
  split at h
  ·obtain ⟨l,-,h⟩:=ax h (by simp)
   exact key _ _ h
  ·cases h
 |_=>cases h
theorem bC.app2  {B:NH} {e:Nat} {C:List (List NV)} {x:D4} {w:Bool} {cs:List NV} {kc bytes:Nat} (hv:bC B m v e C) (hx:m.get x=some (.cells w cs)) (hox:aP m x) (hl:cs.length=e) (hB:∀id,aP B id->aP m id)
 (hr:(C.length+1)*bytes<=1099511627776) (hr':C.length+1<=1099511627776):∃v' m',oB e bytes m v (.slc x 0 1 e kc)= .mem v' m'/\bC B m' v' e (C++ [cs])/\Chg (ids v) m m'/\∀i∈ids v',i∈ids v∨¬aP m i:=by
 obtain ⟨v',m',h1,h2,h3⟩:=hv.app1 (bytes:=bytes) (kc:=kc) hx hox hl hB hr hr'
 exact ⟨v',m',h1,h2,h3,qJ h1⟩
section
variable {P:Program} {S:Nat->List NV->Option NV} {dst:D4} {L:List (D4×NV)} {t:Tm} {dfs:List Dfr} {ctx:Option NV} {l:List NOper} {K:Dyn->Prop} {B m:NH} {v:NV} {e:Nat} {C:List (List NV)} {x:D4} {w:Bool} {cs:List NV} {kc bytes:Nat}
end
section
variable {P:Program} {S:Nat->List NV->Option NV} {f:Nat} {args:List NV} {m:NH} {K:NV->NH->Prop}
end
section
variable {P:Program} {S:Nat->List NV->Option NV} {r:Option D4} {a b:NC} {d:Dyn} {Q:Out->Dyn->Prop}
theorem H4 {c:NC} (Φ:Dyn->Prop) (h1:∀R:Dyn->Prop,(∀d',Φ d'->R d')->wp P S r a d (fu (EP P S r b (fu R Q)) Q)) (h2:∀d',Φ d'->wp P S r c d' Q):wp P S r (.seq a (.seq b c)) d Q:=h1 _ h2
end
section
variable {P:Program} {S:Nat->List NV->Option NV} {q:D4} {args:List NV} {m:NH} {K:NV->NH->Prop}
end
section
variable {P:Program} {S:Nat->List NV->Option NV} {f:Nat} {q:D4} {args:List NV} {m:NH}
theorem WF.ex1  {Φ:NH->Prop} (h:∀K:NV->NH->Prop,(∀m',Φ m'->K v m')->WF P S f args m K):∃m',nG P S f args m v m'/\Φ m':=by
 obtain ⟨w,m',h1,rfl,h2⟩:=WF.ret (h (fun w m'=>w=v/\Φ m') fun m' h=>⟨rfl,h⟩)
 exact ⟨m',h1,h2⟩
theorem WY.ex1  {Φ:NH->Prop} (h:∀K:NV->NH->Prop,(∀m',Φ m'->K v m')->WY P S q args m K):∃m',lq P S q args m v m'/\Φ m':=by
 obtain ⟨w,m',h1,rfl,h2⟩:=WY.ret (h (fun w m'=>w=v/\Φ m') fun m' h=>⟨rfl,h⟩)
 exact ⟨m',h1,h2⟩
end
end Nm
