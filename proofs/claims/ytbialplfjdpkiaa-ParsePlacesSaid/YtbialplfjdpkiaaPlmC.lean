/- A machine that runs the given program with memory and order of evaluation taken apart from the model's, the proof that what it answers is what the model answers, and rules to reason of its runs. Part 3 of 4. -/
import Derived.Below
import Derived.Test.YtbialplfjdpkiaaPlmB
set_option linter.unusedVariables false
namespace Nm
open Go
section
variable {P:Program} {S:Nat->List NV->Option NV}
theorem sX (hM:P.follows .mixedOrders=true) {n:Nat} (hO:fm P S n) (hC:CallsOK P S (ev P S n)):fm P S (n+1):=by
 intro c nc fn bl la hc hk rnd d o d' hrun st hst B b k ι a cs w hfn hT s hsz
 have self:∀{x:Code} {nx:NC} {bl la:List Nat},bL P x=some nx->CheckCode.code P fn bl la x= .ok ()->∀{d1:Dyn} {o1:Out} {d2:Dyn},ev P S n rnd nx d1= .mk o1 d2->∀{st:Item},uc st x->
  ∀{k:List Item} {ι:aH} {a:Act} {cs:List Frame} {w:World},TR ι d1.t a.tmps->Sd P ι B rnd d1.dfs d1.ctx d1.h b a.defers cs w->fn.ntmps<=a.tmps.size->
  ck P B rnd b k (lone (b.atR a (st::k)) cs w) ι d1.ctx d1.h a.tmps.size cs w o1 d2:=
  fun hx hkx _ _ _ hr _ hs _ _ _ _ _ hT s hsz=>hO _ _ fn _ _ hx hkx rnd _ _ _ hr _ hs B b _ _ _ _ _ hfn hT s hsz
 have hcode:(∀x,c≠.loop x)->st= .code c:=fun h=>by
  rcases hst with h1|⟨x,h1,_⟩
  ·exact h1
  ·exact Fy h1 (h x)
 cases c with
 |skip=>
  rw[hcode (by simp)]
  cases hc
  have hrun':(Res.mk .norm d)= .mk o d':=hrun
  cases hrun'
  exact ⟨ι,a,cs,w,.one stepR_skip,hT,Mv.refl s,rfl⟩
 |region id ops draw=>
  rw[hcode (by simp)]
  cases draw with
  |false=>
   have hc':(match cu P ops ops.toList 0 [] with|some l=>some (NC.reg l)|none=>none)=some nc:=hc
   split at hc'
   ·rename_i l hl
    cases hc'
    have hrun':bU P S (ev P S n) rnd l d= .mk o d':=hrun
    obtain ⟨t,dfs,ctx,h⟩:=d
    refine ck.of_steps (.one stepR_region) ?_
    have:=ta (k:=k) hC (iJ hk) ops.toList 0 l [] (fun j=>by simp) hl t dfs ctx h o d' hrun' ι a cs w hT s hsz
    rw[List.range_eq_range']
    simpa using this
   ·cases hc'
  |true=>
   obtain ⟨l,rfl,hL⟩:=yU hc
   have hrun':rq P S (ev P S n) l rnd d= .mk o d':=hrun
   have hs':Sd P ι B rnd d.dfs d.ctx d.h b a.defers cs w.drew:=⟨s.df,s.cx,s.rel.drew,s.base,s.rn⟩
   refine ck.undrew (ck.of_steps (.one stepR_region_draw) ?_)
   have hsch:Region.schedule (P.follows .mixedOrders) ops (w.tape w.drawn (.order b.fn id))=Region.linearise .any ops (w.tape w.drawn (.order b.fn id)):=by unfold Region.schedule;rw[hM];rfl
   rw[hsch]
   exact oP hC (iJ hk) hL hsz hrun' hs' hT rfl _
 |seq x y=>
  rw[hcode (by simp)]
  have hc':(match bL P x with|some a=>(match bL P y with|some b=>some (NC.seq a b)|none=>none)|none=>none)=some nc:=hc
  split at hc'
  ·rename_i nx hx
   split at hc'
   ·rename_i ny hy
    cases hc'
    obtain ⟨k1,k2⟩:=uU hk
    have hrun':(match ev P S n rnd nx d with
     | .mk o d=>(match o with
      | .norm=>ev P S n rnd ny d
      |o=> .mk o d)
     | .fail=> .fail)=Res.mk o d':=oY.symm.trans hrun
    refine ck.of_steps (.one stepR_seq) ?_
    cases he:ev P S n rnd nx d with
    |fail=>rw[he] at hrun';cases hrun'
    |mk o1 d1=>
     rw[he] at hrun'
     have g1:=self hx k1 he (.inl rfl) (k:= .code y::k) hT s hsz
     cases o1 with
     |norm=>
      exact g1.then fun ι' a' cs' w' hT' s' hz=>by
       have:=self hy k2 hrun' (.inl rfl) (k:=k) hT' s' (by rw[hz];exact hsz)
       rw[hz] at this;exact this
     |ret=>cases hrun';exact g1.out (by simp) (by simp)
     |exit id=>cases hrun';exact g1.out (fun _ _=>rfl) (by simp)
     |pan v=>cases hrun';exact g1.out (by simp) (by simp)
   ·cases hc'
  ·cases hc'
 |cond e x y=>
  rw[hcode (by simp)]
  have hc':(match am e with
   |some c=>(match bL P x with|some a=>(match bL P y with|some b=>some (NC.cond c a b)|none=>none)|none=>none)
   |none=>none)=some nc:=hc
  split at hc'
  ·rename_i ne hne
   split at hc'
   ·rename_i nx hx
    split at hc'
    ·rename_i ny hy
     cases hc'
     obtain ⟨k1,k2⟩:=rN hk
     have hrun':(match ρ d.t ne with
      |some (.bool c)=>Bool.rec (ev P S n rnd ny d) (ev P S n rnd nx d) c
      |_=> .fail)=Res.mk o d':=qw.symm.trans hrun
     cases hv:ρ d.t ne with
     |none=>rw[hv] at hrun';cases hrun'
     |some v=>
      rw[hv] at hrun'
      cases v with
      |bool q=>
       have hq:=iH hT e ne hne _ hv
       have hev:a.eval e= .bool q:=by generalize a.eval e=z at hq;cases hq;rfl
       refine ck.of_steps (.one (stepR_cond hev)) ?_
       cases q with
       |true=>exact self hx k1 hrun' (.inl rfl) hT s hsz
       |false=>exact self hy k2 hrun' (.inl rfl) hT s hsz
      |_=>cases hrun'
    ·cases hc'
   ·cases hc'
  ·cases hc'
 |block id x=>
  rw[hcode (by simp)]
  have hc':(match bL P x with|some a=>ak id fun id=>some (NC.block id a)|none=>none)=some nc:=hc
  split at hc'
  ·rename_i nx hx
   rw[af] at hc'
   cases hc'
   have k1:=oQ hk
   have hrun':(match ev P S n rnd nx d with
    | .mk o d=>(match o with
     | .exit i=>cond (Nat.beq i id) (.mk .norm d) (.mk (.exit i) d)
     |o=> .mk o d)
    | .fail=> .fail)=Res.mk o d':=mJ.symm.trans hrun
   refine ck.of_steps (.one stepR_block) ?_
   cases he:ev P S n rnd nx d with
   |fail=>rw[he] at hrun';cases hrun'
   |mk o1 d1=>
    rw[he] at hrun'
    have g1:=self hx k1 he (.inl rfl) (k:= .inBlock id::k) hT s hsz
    cases o1 with
    |norm=>
     cases hrun'
     obtain ⟨ι1,a1,cs1,w1,q1,q2⟩:=g1
     exact ⟨ι1,a1,cs1,w1,Steps.trans q1 (.one stepR_inBlock),q2⟩
    |ret=>cases hrun';exact g1.out (by simp) (by simp)
    |exit i=>
     dsimp only at hrun'
     cases hb:Nat.beq i id with
     |true=>
      rw[hb] at hrun'
      cases hrun'
      have:=FF hb
      subst this
      obtain ⟨ι1,a1,cs1,w1,⟨k0,q0,q1⟩,q2⟩:=g1
      refine ⟨ι1,a1,cs1,w1,Steps.trans q1 (.one (stepR_exit ?_)),q2⟩
      rw[q0];simp[exitTo]
     |false=>
      rw[hb] at hrun'
      cases hrun'
      have hne:=Nat.ne_of_beq_eq_false hb
      refine g1.out (fun i' hi'=> ?_) (by simp)
      cases hi'
      have:(id==i)=false:=by simpa using fun e=>hne e.symm
      simp[exitTo,this]
    |pan v=>cases hrun';exact g1.out (by simp) (by simp)
  ·cases hc'
 |loop x=>
  have hc':(match bL P x with|some a=>some (NC.loop a)|none=>none)=some nc:=hc
  split at hc'
  ·rename_i nx hx
   cases hc'
   have k1:=r7 hk
   have hrun':(match ev P S n rnd nx d with
    | .mk o d=>(match o with
     | .norm=>ev P S n rnd (.loop nx) d
     |o=> .mk o d)
    | .fail=> .fail)=Res.mk o d':=lH.symm.trans hrun
   have h1:Steps P (lone (b.atR a (st::k)) cs w) (lone (b.atR a (.code x:: .inLoop x::k)) cs w):=by
    rcases hst with rfl|⟨y,hy,rfl⟩
    ·exact .one stepR_loop
    ·cases hy;exact .one stepR_inLoop
   refine ck.of_steps h1 ?_
   cases he:ev P S n rnd nx d with
   |fail=>rw[he] at hrun';cases hrun'
   |mk o1 d1=>
    rw[he] at hrun'
    have g1:=self hx k1 he (.inl rfl) (k:= .inLoop x::k) hT s hsz
    cases o1 with
    |norm=>
     exact g1.then fun ι' a' cs' w' hT' s' hz=>by
      have:=self hc hk hrun' (.inr ⟨x,rfl,rfl⟩) (k:=k) hT' s' (by rw[hz];exact hsz)
      rw[hz] at this;exact this
    |ret=>cases hrun';exact g1.out (by simp) (by simp)
    |exit id=>cases hrun';exact g1.out (fun _ _=>rfl) (by simp)
    |pan v=>cases hrun';exact g1.out (by simp) (by simp)
  ·cases hc'
 |exit id=>
  rw[hcode (by simp)]
  have hc':(ak id fun id=>some (NC.exit id))=some nc:=hc
  rw[af] at hc'
  cases hc'
  have hrun':Res.mk (.exit id) d= .mk o d':=hrun
  cases hrun'
  exact ⟨ι,a,cs,w,⟨k,rfl,Steps.refl P _⟩,hT,Mv.refl s,rfl⟩
 |ret=>
  rw[hcode (by simp)]
  cases hc
  have hrun':Res.mk .ret d= .mk o d':=hrun
  cases hrun'
  exact ⟨ι,a,cs,w,⟨k,Steps.refl P _⟩,hT,Mv.refl s,rfl⟩
 |rangeFunc g ps x y=>
  rw[hcode (by simp)]
  have hc':(match am g,nm ps.toList with
   |some f,some ps=>(match bL P x with|some a=>(match bL P y with|some b=>some (NC.rangeFunc f ps a b)|none=>none)|none=>none)
   |_,_=>none)=some nc:=hc
  split at hc'
  ·rename_i nf nps hf hps
   split at hc'
   ·rename_i nx hx
    split at hc'
    ·rename_i ny hy
     cases hc'
     obtain ⟨k1,k2,k3⟩:=oT hk
     have hnps:=tn hps
     obtain ⟨t,dfs,ctx,h⟩:=d
     have hrun':(match ρ t nf with
      |some (.fn f cap)=>(match (generalizing:=false) rnd with
       |none=>h.new (.defd true) fun m h=>bF P S (ev P S n) f cap nps nx ny t (.mark m::dfs) ctx h
       |some l=>(match h.get l with
        |some (.loop ..)=>bF P S (ev P S n) f cap nps nx ny t dfs ctx h
        |_=> .fail))
      |_=> .fail)=Res.mk o d':=hrun
     cases hv:ρ t nf with
     |none=>rw[hv] at hrun';cases hrun'
     |some v=>
      rw[hv] at hrun'
      cases v with
      |fn f cap=>
       have hq:=iH hT g nf hf _ hv
       obtain ⟨cap',hcap,hg⟩:∃cap',VRL ι cap cap'/\a.eval g= .func (.func f) #[] cap'.toArray:=by
        generalize a.eval g=z at hq
        cases hq with
        |fn _ _ cap' h=>exact ⟨cap',h,rfl⟩
       cases rnd with
       |none=>
        have hro:b.roundOf=none:=s.rn
        have hrun2:(h.new (.defd true) fun m h=>bF P S (ev P S n) f cap nps nx ny t (.mark m::dfs) ctx h)=Res.mk o d':=hrun'
        rw[NH.new_eq] at hrun2
        obtain ⟨ι1,i1,i2,i3,i4⟩:=s.rel.alloc s.base (.defd true) (.deferred (some [])) ⟨w.heap.size,0,0⟩ rfl (fun ι' _=>cD w _)
        have henter:=run_enterLoop_outer (P:=P) (w:=w) b.fn a.tmps ps x y
        have hs1:Sd P ι1 B none (.mark h.next::dfs) ctx (h.add (.defd true)) b ([{target:= .collected w.heap.size,args:=#[]}]++a.defers) cs (w.alloc (.deferred (some []))):=
         ⟨⟨⟨_,i1,rfl⟩,s.df.mono i2⟩,s.cx.mono i2,i3,Nat.le_trans s.base i4.size,s.rn⟩
        have g:=fG (k:=k) hC hfn hx hy k2 k3 hnps k1 hrun2 (w0:=w) (mark:= [{target:= .collected w.heap.size,args:=#[]}]) (r:=w.heap.size) (hT.mono i2) hs1 hsz (hcap.mono i2) hg (by rw[hro,henter];simp)
        obtain ⟨ι2,a2,cs2,w2,q1,q2,q3,q4⟩:=g
        exact ⟨ι2,a2,cs2,w2,q1,q2,⟨q3.sd,i4.trans q3.gr,q3.ca⟩,q4⟩
       |some l0=>
        obtain ⟨p0,hp0,hro⟩:=s.rn
        have hrun2:(match h.get l0 with
         |some (.loop ..)=>bF P S (ev P S n) f cap nps nx ny t dfs ctx h
         |_=> .fail)=Res.mk o d':=hrun'
        obtain ⟨ob,ho1,ho2⟩:=s.rel.obj _ _ hp0
        rw[ho1] at hrun2
        cases ob with
        |loop st pd tm ps2 a2 b2=>
         obtain ⟨L3,l1,_⟩:=ho2
         have henter:(Instr.enterLoop b.fn a.tmps ps x y (some p0.b)).run P w= .ok (w.heap.size, []) (w.alloc (.loop {state:= .ready,pending:=none,fn:=b.fn,tmps:=a.tmps,params:=ps,assign:=x,body:=y,defers:=L3.defers})):=by
          unfold Instr.enterLoop
          simp only[Sem.run_bind,run_getLoop l1,run_newObj_alloc,Result.andThen,Sem.run_pure]
         exact fG (k:=k) hC hfn hx hy k2 k3 hnps k1 hrun2 (w0:=w) (mark:= []) (r:=L3.defers) hT s hsz hcap hg (by rw[hro,henter])
        |_=>cases hrun2
      |_=>cases hrun'
    ·cases hc'
   ·cases hc'
  ·cases hc'
 |_=>cases hc
end
end Nm
namespace Nm
open Go
variable {ι:aH} {m:FrameMode} {w:World} {tmps:Array Value}
def rD (ι:aH):Option NV->FrameMode->Prop
 |none,m=>m= .returning
 |some v,m=>∃v',m= .panicking [{v:=v',recovered:=false}]/\VR ι v v'
theorem rD.mono  {ι':aH} (hι:ι.le ι') {p:Option NV} (h:rD ι p m):rD ι' p m:=by
 cases p with
 |none=>exact h
 |some v=>obtain ⟨v',h1,h2⟩:=h;exact ⟨v',h1,h2.mono hι⟩
theorem rD.ne_run  {p:Option NV} (h:rD ι p m):m≠.run:=by
 cases p with
 |none=>rw[show m= .returning from h];simp
 |some v=>obtain ⟨v',h1,h2⟩:=h;rw[h1];simp
theorem rD.settle  {p:Option NV} (h:rD ι p m):Go.settle m=m:=by
 cases p with
 |none=>rw[show m= .returning from h];rfl
 |some v=>obtain ⟨v',h1,h2⟩:=h;rw[h1];rfl
theorem rD.ctx  {p:Option NV} {c:Frame} {cs:List Frame} (h:rD ι p c.mode):oK ι .deferred (c::cs) p:=by
 cases p with
 |none=>
  intro b hb
  have h':c.mode= .returning:=h
  unfold tryRecover
  rw[hb]
  simp only[h']
 |some v=>
  obtain ⟨v',h1,h2⟩:=h
  exact ⟨rfl,c,cs,v', [],rfl,h1,h2⟩
section
variable {P:Program} {S:Nat->List NV->Option NV} {B:Nat}
def vZ (tmps:Array Value):ResultVar->Sem Value
 | .tmp t=>pure (tmps.getD t undef)
 | .cell a t=>do loadVar t (←asAddr (tmps.getD a undef))
theorem pq (fn:Func) (tmps:Array Value):results fn tmps=(do let vs ←fn.results.mapM (vZ tmps);pure (if h:vs.size=1 then vs[0] else .tuple vs)):=by
 unfold results
 congr 1
noncomputable def mC (h:NH) (t:Tm):NRes->NR
 | .tmp k=>(match NT.get k t with|some v=>NR.val v|none=> .fail)
 | .cell1 k=>dU (.tmp k) t h
 | .cellN k n=>dN n (.tmp k) t h
theorem mf (h:NH) (t:Tm) (r:NRes) (l:List NRes) (F:CR) (K:List NV->CR):
 bE h t (r::l) F K=(match mC h t r with| .val v=>bE h t l F fun l=>K (v::l)|_=>F):=by
 cases r<;>rfl
theorem kp  {T:TypeId} {v:Value} {u:Value} (h:ax ((Instr.loadAt T v).run P w)= .ok (.value u) w):(do loadVar T (←asAddr v):Sem Value).run P w= .ok u w:=by
 cases v with
 |pointer a=>
  cases a with
  |none=>simp[ax,Instr.loadAt,Instr.sureAddr,stuck,Sem.run_bind,Sem.run,Result.andThen] at h
  |some a=>
   simp only[ax,Instr.loadAt,Instr.sureAddr,asAddr,Sem.run_bind,Sem.run_pure,Result.andThen] at h ⊢
   cases hr:Sem.run P (loadVar T a) w with
   |ok x w1=>rw[hr] at h;cases h;rfl
   |halt x w1=>rw[hr] at h;cases h
 |_=>simp[ax,Instr.loadAt,Instr.sureAddr,stuck,Sem.run_bind,Sem.run,Result.andThen] at h
theorem r8  {h:NH} {t:Tm} (hT:TR ι t tmps) (hR:Rel P ι B h w) {r0:CR} (hr0:r0≠.fail):∀(l:List ResultVar) (nl:List NRes) (K:List NV->CR),bY P l=some nl->bE h t nl .fail K=r0->
 ∃vs vs',K vs=r0/\VRL ι vs vs'/\(l.mapM (vZ tmps)).run P w= .ok vs' w:=by
 have ov:∀k:Nat,OV ι t (.tmp (D4.of k)) (tmps.getD k undef):=by
  intro k v hv
  obtain ⟨v',h1,h2⟩:=hT k v hv
  rw[qZ h1];exact h2
 intro l
 induction l with
 |nil=>
  intro nl K hc hk
  cases hc
  exact ⟨[], [],hk,.nil,by simp⟩
 |cons r l ih=>
  intro nl K hc hk
  have step:∀{nr:NRes} {nl':List NRes},bY P l=some nl'->nl=nr::nl'->(∀v,mC h t nr= .val v->∃v',(vZ tmps r).run P w= .ok v' w/\VR ι v v')->
   ∃vs vs',K vs=r0/\VRL ι vs vs'/\((r::l).mapM (vZ tmps)).run P w= .ok vs' w:=by
   intro nr nl' h1 h2 h3
   subst h2
   rw[mf] at hk
   cases hv:mC h t nr with
   |val v=>
    rw[hv] at hk
    obtain ⟨v',q1,q2⟩:=h3 v hv
    obtain ⟨vs,vs',p1,p2,p3⟩:=ih nl' _ h1 hk
    refine ⟨v::vs,v'::vs',p1,.cons _ _ _ _ q2 p2, ?_⟩
    rw[List.mapM_cons]
    simp only[Sem.run_bind,q1,p3,Result.andThen,Sem.run_pure]
   |_=>rw[hv] at hk;exact Fy hk.symm hr0
  cases r with
  |tmp k=>
   have hc':(match bY P l with|some l=>D4.ofNat k fun t=>some (NRes.tmp t::l)|none=>none)=some nl:=by
    have e:bY P (.tmp k::l)=(match ResultVar.tmp k,bY P l with
     | .tmp t,some l=>D4.ofNat t fun t=>some (.tmp t::l)
     | .cell t ty,some l=>(match hH P ty with
      |some none=>D4.ofNat t fun t=>some (.cell1 t::l)
      |some (some n)=>D4.ofNat t fun t=>some (.cellN t n::l)
      |none=>none)
     |_,none=>none):=rfl
    rw[e] at hc
    cases hl:bY P l with
    |none=>rw[hl] at hc;exact hc
    |some l1=>rw[hl] at hc;exact hc
   cases hl:bY P l with
   |none=>rw[hl] at hc';cases hc'
   |some l1=>
    rw[hl] at hc'
    have hc2:(D4.ofNat k fun t=>some (NRes.tmp t::l1))=some nl:=hc'
    rw[D4.ofNat_eq] at hc2
    refine step hl (Option.some.inj hc2).symm fun v hv=> ?_
    have hv':(match NT.get (D4.of k) t with|some v=>NR.val v|none=> .fail)=NR.val v:=hv
    cases hg:NT.get (D4.of k) t with
    |none=>rw[hg] at hv';cases hv'
    |some u=>
     rw[hg] at hv';cases hv'
     exact ⟨_,rfl,ov k _ hg⟩
  |cell k T=>
   have e:bY P (.cell k T::l)=(match ResultVar.cell k T,bY P l with
    | .tmp t,some l=>D4.ofNat t fun t=>some (.tmp t::l)
    | .cell t ty,some l=>(match hH P ty with
     |some none=>D4.ofNat t fun t=>some (.cell1 t::l)
     |some (some n)=>D4.ofNat t fun t=>some (.cellN t n::l)
     |none=>none)
    |_,none=>none):=rfl
   rw[e] at hc
   cases hl:bY P l with
   |none=>rw[hl] at hc;cases hc
   |some l1=>
    rw[hl] at hc
    dsimp only at hc
    cases ha:hH P T with
    |none=>rw[ha] at hc;cases hc
    |some q=>
     rw[ha] at hc
     cases q with
     |none=>
      have hc2:(D4.ofNat k fun t=>some (NRes.cell1 t::l1))=some nl:=hc
      rw[D4.ofNat_eq] at hc2
      refine step hl (Option.some.inj hc2).symm fun v hv=> ?_
      have:=iT (B:=B) (h:=h) (w:=w) ha (ov k) hR
      rw[show dU (.tmp (D4.of k)) t h= .val v from hv] at this
      obtain ⟨v',h1,h2⟩:=this
      exact ⟨v',kp h1,h2⟩
     |some m=>
      have hc2:(D4.ofNat k fun t=>some (NRes.cellN t m::l1))=some nl:=hc
      rw[D4.ofNat_eq] at hc2
      refine step hl (Option.some.inj hc2).symm fun v hv=> ?_
      have:=iR (B:=B) (h:=h) (w:=w) ha (ov k) hR
      rw[show dN m (.tmp (D4.of k)) t h= .val v from hv] at this
      obtain ⟨v',h1,h2⟩:=this
      exact ⟨v',kp h1,h2⟩
theorem kZ  {h:NH} {t:Tm} (hT:TR ι t tmps) (hR:Rel P ι B h w) {fn:Func} {nl:List NRes} (hc:bY P fn.results.toList=some nl) {ctx:Option NV} {r0:CR} (hr0:r0≠.fail)
 (h0:bE h t nl .fail (fun l=> .val (ez l) ctx h)=r0):∃v v',r0= .val v ctx h/\VR ι v v'/\(results fn tmps).run P w= .ok v' w:=by
 obtain ⟨vs,vs',h1,h2,h3⟩:=r8 hT hR hr0 _ _ _ hc h0
 refine ⟨ez vs,if h:vs'.toArray.size=1 then vs'.toArray[0] else .tuple vs'.toArray,h1.symm, ?_, ?_⟩
 ·cases h2 with
  |nil=>exact .tup [] [] .nil
  |cons v v' l l' hv hl=>
   cases hl with
   |nil=>exact hv
   |cons u u' l l' hu hl=>
    have:¬(v'::u'::l').toArray.size=1:=by simp
    rw[dif_neg this]
    exact .tup _ _ (.cons _ _ _ _ hv (.cons _ _ _ _ hu hl))
 ·rw[pq,Array.mapM_eq_mapM_toList]
  simp only[Sem.run_bind,map_eq_pure_bind,h3,Result.andThen,Sem.run_pure]
end
end Nm
namespace Nm
open Go
section
variable {P:Program} {S:Nat->List NV->Option NV} {B:Nat}
theorem fA {f:Nat} {nf:NFun} (h:av P f=some (.code nf)):∃fn c,P.funcs[f]? =some fn/\fn.body=some c/\fn.name≠ "runtime.NumGoroutine" /\bL P c=some nf.body/\bY P fn.results.toList=some nf.results:=by
 unfold av at h
 split at h
 ·rename_i fn hfn
  cases hn:(fn.name== "runtime.NumGoroutine") with
  |true=>rw[hn] at h;cases h
  |false=>
   rw[hn] at h
   simp only[cond_false] at h
   split at h
   ·rename_i c hb
    split at h
    ·rename_i nb nr h1 h2
     rw[af] at h
     cases h
     exact ⟨fn,c,hfn,hb,by simpa using hn,h1,h2⟩
    ·cases h
   ·split at h<;>cases h
 ·cases h
theorem ia {f:Nat} {fn:Func} {c:Code} (hf:P.funcs[f]? =some fn) (hb:fn.body=some c) (hn:fn.name≠ "runtime.NumGoroutine") (args:Array Value) (w:World):(callFunc f args).run P w= .ok (.enter f args) w:=by
 simp[callFunc,hf,hb,hn]
noncomputable def bJ:List NV->Nat->Tm->Tm
 | [],_,t=>t
 |v::vs,k,t=>bJ vs (k+1) (NT.put (D4.of k) v t)
theorem uF {R:Type} (vs:List NV) (K:Tm->R):ve vs K=K (bJ vs 0 .leaf):=by
 have go:∀(vs:List NV) (k:Nat) (t:Tm),(List.rec (motive:=fun _=>D4->Tm->R) (fun _ t=>K t) (fun v _ ih k t=>NT.set k v t fun t=>k.succ fun k=>ih k t) vs (D4.of k) t:R)=K (bJ vs k t):=by
  intro vs
  induction vs with
  |nil=>intro k t;rfl
  |cons v vs ih=>
   intro k t
   have e:(List.rec (motive:=fun _=>D4->Tm->R) (fun _ t=>K t) (fun v _ ih k t=>NT.set k v t fun t=>k.succ fun k=>ih k t) (v::vs) (D4.of k) t:R)=
    NT.set (D4.of k) v t fun t=>(D4.of k).succ fun k=>(List.rec (motive:=fun _=>D4->Tm->R) (fun _ t=>K t) (fun v _ ih k t=>NT.set k v t fun t=>k.succ fun k=>ih k t) vs k t:R):=rfl
   rw[e,NT.set_eq,D4.succ_eq]
   exact ih (k+1) _
 exact go vs 0 .leaf
theorem oL:∀(vs:List NV) (k:Nat) (t:Tm) (j:Nat) (v:NV),NT.get (D4.of j) (bJ vs k t)=some v->(∃i,j=k+i/\vs[i]? =some v)∨(NT.get (D4.of j) t=some v/\(j<k∨k+vs.length<=j)):=by
 intro vs
 induction vs with
 |nil=>intro k t j v h;exact .inr ⟨h,by simp;omega⟩
 |cons u vs ih=>
  intro k t j v h
  rcases ih (k+1) _ j v h with ⟨i,h1,h2⟩|⟨h1,h2⟩
  ·exact .inl ⟨i+1,by omega,by simpa using h2⟩
  ·by_cases e:j=k
   ·subst e
    rw[NT.get_put_same] at h1
    exact .inl ⟨0,rfl,by simpa using h1⟩
   ·rw[NT.get_put_ne (fun x=>e (D4.of_inj x))] at h1
    exact .inr ⟨h1,by simp;omega⟩
theorem xi {ι:aH} {args:List NV} {args':List Value} (h:VRL ι args args') (n:Nat):TR ι (bJ args 0 .leaf) (args'.toArray++Array.replicate n undef):=by
 intro j v hv
 rcases oL args 0 .leaf j v hv with ⟨i,h1,h2⟩|⟨h1,_⟩
 ·obtain ⟨v',h3,h4⟩:=h.get h2
  refine ⟨v', ?_,h4⟩
  have:j=i:=by omega
  subst this
  have hlt:=(List.getElem?_eq_some_iff.1 h3).1
  rw[Array.getElem?_append_left (by simpa using hlt)]
  simpa using h3
 ·rw[NT.get_leaf] at h1;cases h1
def Ec (P:Program) (B:Nat) (ι:aH) (h:NH) (w:World) (fr0:Frame) (kind:CallKind) (ctx:Option NV) (cs:List Frame):CR->Prop
 | .fail=>True
 | .val v ctx' h'=>∃ι' v' w' cs' fr,VR ι' v v'/\Rel P ι' B h' w'/\B<=w'.heap.size/\Grow ι h w ι' h' w'/\jh cs ctx cs' ctx'/\Steps P (lone fr0 cs w) (lone fr cs' w')/\fr.kind=kind/\fr.fn=fr0.fn/\fr.going P w' (.returned v')
 | .pan v ctx' h'=>∃ι' v' w' cs' fr,VR ι' v v'/\Rel P ι' B h' w'/\B<=w'.heap.size/\Grow ι h w ι' h' w'/\jh cs ctx cs' ctx'/\Steps P (lone fr0 cs w) (lone fr cs' w')/\fr.kind=kind/\fr.fn=fr0.fn/\fr.going P w' (.panicked [{v:=v',recovered:=false}])
def xD (P:Program) (callF:Nat->List NV->Option NV->NH->CR):Prop:=
 ∀(f:Nat) (args:List NV) (p:Option NV) (h:NH),callF f args p h≠.fail->(∃nf,av P f=some (.code nf))/\
  ∀(B:Nat) (ι:aH) (w:World) (args':List Value) (kind:CallKind) (cs:List Frame),Rel P ι B h w->B<=w.heap.size->VRL ι args args'->oK ι kind cs p->
   Ec P B ι h w (Frame.enter P f args'.toArray kind) kind p cs (callF f args p h)
theorem iE (callF:Nat->List NV->Option NV->NH->CR) (K:Option NV->NH->CR) (c:Dfr) (l:List Dfr) (p:Option NV) (h:NH):
 unwind callF K (c::l) p h=match c with
  | .call f cap=>(match callF f cap p h with
   | .val _ p h=>unwind callF K l p h
   |_=> .fail)
  | .mark id=>match h.get id with
   |some (.defd true)=>unwind callF K l p (h.put id (.defd false))
   |_=> .fail:=by
 have e:unwind callF K (c::l) p h=match c with
  | .call f cap=>(match callF f cap p h with
   | .val _ p h=>unwind callF K l p h
   |_=> .fail)
  | .mark id=>match h.get id with
   |some (.defd true)=>h.set id (.defd false) fun h=>unwind callF K l p h
   |_=> .fail:=rfl
 rw[e]
 cases c with
 |call f cap=>rfl
 |mark id=>
  dsimp only
  split
  ·exact NH.set_eq _ _ _ _
  ·rfl
theorem lG {callF:Nat->List NV->Option NV->NH->CR} (hF:xD P callF) {K:Option NV->NH->CR} {r:CR} (hr:r≠.fail):∀(l:List Dfr) (p:Option NV) (h:NH),unwind callF K l p h=r->
 ∀(ι:aH) (w:World) (fr:Frame) (cs:List Frame),DR ι l fr.defers->Rel P ι B h w->B<=w.heap.size->rD ι p fr.mode->
 ∃p' h' ι' w' fr',K p' h'=r/\Rel P ι' B h' w'/\B<=w'.heap.size/\Grow ι h w ι' h' w'/\rD ι' p' fr'.mode/\fr'.defers= []/\fr'.tmps=fr.tmps/\fr'.fn=fr.fn/\fr'.kind=fr.kind/\Steps P (lone fr cs w) (lone fr' cs w'):=by
 intro l
 induction l with
 |nil=>
  intro p h hu ι w fr cs hd hR hB hm
  have hde:fr.defers= []:=by
   cases hds:fr.defers with
   |nil=>rfl
   |cons d ds=>rw[hds] at hd;exact hd.elim
  exact ⟨p,h,ι,w,fr,hu,hR,hB,.refl _ _ _,hm,hde,rfl,rfl,rfl,Steps.refl P _⟩
 |cons c l ih=>
  intro p h hu ι w fr cs hd hR hB hm
  rw[iE] at hu
  cases hds:fr.defers with
  |nil=>rw[hds] at hd;cases c<;>exact hd.elim
  |cons d ds=>
   rw[hds] at hd
   cases c with
   |mark id=>
    obtain ⟨⟨pl,hp,hde⟩,hd'⟩:=hd
    have hu':(match h.get id with
     |some (.defd true)=>unwind callF K l p (h.put id (.defd false))
     |_=> .fail)=r:=hu
    obtain ⟨ob,ho1,ho2⟩:=hR.obj _ _ hp
    rw[ho1] at hu'
    cases ob with
    |defd q=>
     cases q with
     |false=>exact Fy hu'.symm hr
     |true=>
      have hob:w.heap[pl.b]? =some (.deferred (some [])):=ho2
      have htake:=run_takeDeferred (P:=P) hob
      have hst:=step_collected (cs:=cs) hm.ne_run hds (by rw[hde]) htake
      have hlt:=hR.lt _ _ hp
      obtain ⟨t1,t2⟩:=hR.turn (w':=w.putObj pl.b (.deferred none)) hp (by rw[ho1];simp) (.defd false) (World.putObj_heap_same hlt) (by simp) rfl rfl rfl (fun q hq=>World.putObj_heap_other hq)
      obtain ⟨p',h',ι',w',fr',q1,q2,q3,q4,q5,q6,q7,q8,q9,q10⟩:=ih p _ hu' ι _ {fr with defers:= []++ds} cs hd' t1 (by simpa using hB) hm
      exact ⟨p',h',ι',w',fr',q1,q2,q3,t2.trans q4,q5,q6,q7,q8,q9,.head hst q10⟩
    |_=>exact Fy hu'.symm hr
   |call f cap=>
    obtain ⟨⟨cap',hcap,hde⟩,hd'⟩:=hd
    have hu':(match callF f cap p h with
     | .val _ p h=>unwind callF K l p h
     |_=> .fail)=r:=hu
    cases hcf:callF f cap p h with
    |fail=>rw[hcf] at hu';exact Fy hu'.symm hr
    |pan v x h1=>rw[hcf] at hu';exact Fy hu'.symm hr
    |val v p1 h1=>
     rw[hcf] at hu'
     obtain ⟨⟨nf,hnf⟩,hFr⟩:=hF f cap p h (by rw[hcf];simp)
     obtain ⟨fnn,code,e1,e2,e3,_⟩:=fA hnf
     have hinv:(invoke d.target d.args).run P w= .ok (.enter f cap'.toArray) w:=by
      rw[hde]
      have:=ia (P:=P) e1 e2 e3 (#[]++cap'.toArray) w
      simp only[Array.empty_append] at this
      simp only[invoke,Array.empty_append]
      exact this
     have hst:=step_defer (cs:=cs) hm.ne_run hds (by rw[hde]) hinv
     have hfr:=hFr B ι w cap' .deferred ({fr with defers:=ds}::cs) hR hB hcap (rD.ctx (c:={fr with defers:=ds}) hm)
     rw[hcf] at hfr
     obtain ⟨ι1,v',w1,cs1,frx,f1,f2,f3,f4,f5,f6,f7,_,f8⟩:=hfr
     have hback:∃m',rD ι1 p1 m'/\Steps P (lone fr cs w) (lone {fr with defers:=ds,mode:=m'} cs w1):=by
      rcases f5 with ⟨rfl,rfl⟩|⟨rfl,_,c0,rest,v0,older,g1,g2,rfl⟩
      ·refine ⟨fr.mode,hm.mono f4.le,.head hst (Steps.trans f6 (.one ?_))⟩
       have:=step_going_returned (c:={fr with defers:=ds}) (cs:=cs) f7 f8
       rw[show settle ({fr with defers:=ds}:Frame).mode=fr.mode from hm.settle] at this
       exact this
      ·injection g1 with g3 g4
       subst g3 g4
       refine ⟨.returning,rfl,.head hst (Steps.trans f6 (.one ?_))⟩
       have:=step_going_returned (c:={({fr with defers:=ds}:Frame) with mode:= .panicking ({v:=v0,recovered:=true}::older)}) (cs:=cs) f7 f8
       have hol:older= []:=by
        cases p with
        |none=>
         have:fr.mode= .returning:=hm
         rw[show ({fr with defers:=ds}:Frame).mode=fr.mode from rfl,this] at g2
         cases g2
        |some q=>
         obtain ⟨q',hq1,_⟩:=hm
         rw[show ({fr with defers:=ds}:Frame).mode=fr.mode from rfl,hq1] at g2
         cases g2
         rfl
       rw[hol] at this ⊢
       exact this
     obtain ⟨m',hm',hsteps⟩:=hback
     obtain ⟨p',h',ι',w',fr',q1,q2,q3,q4,q5,q6,q7,q8,q9,q10⟩:=ih p1 h1 hu' ι1 w1 {fr with defers:=ds,mode:=m'} cs (hd'.mono f4.le) f2 f3 hm'
     exact ⟨p',h',ι',w',fr',q1,q2,q3,f4.trans q4,q5,q6,q7,q8,q9,hsteps.trans q10⟩
def gJ (P:Program):Prop:=∀(f:Nat) (fn:Func) (c:Code),P.funcs[f]? =some fn->fn.body=some c->CheckCode.code P fn [] [] c= .ok ()
theorem gI (h:P.check= .ok ()):gJ P:=by
 intro f fn c hf hb
 unfold Program.check at h
 obtain ⟨_,h1,_⟩:=a9 h
 have h2:=mb h1 f (by simp;exact (Array.getElem?_eq_some_iff.1 hf).1)
 unfold CheckCode.funcAt at h2
 rw[hf] at h2
 have h3:=mR h2
 unfold CheckCode.func at h3
 obtain ⟨_,_,h3⟩:=a9 h3
 obtain ⟨_,_,h3⟩:=a9 h3
 obtain ⟨_,_,h3⟩:=a9 h3
 rw[hb] at h3
 simp only at h3
 obtain ⟨_,_,h3⟩:=a9 h3
 obtain ⟨_,h4,_⟩:=a9 h3
 exact h4
theorem bV (self:Option D4->NC->Dyn->Res) (depth f:Nat) (args:List NV) (ctx:Option NV) (h:NH):
 bI P self (depth+1) f args ctx h=match av P f with
  |some (.code nf)=>(match self none nf.body ⟨bJ args 0 .leaf, [],ctx,h⟩ with
   | .mk o d=>(match o with
    | .norm| .ret=>unwind (bI P self depth) (finish nf.results d) d.dfs none d.h
    | .pan v=>unwind (bI P self depth) (finish nf.results d) d.dfs (some v) d.h
    | .exit _=> .fail)
   | .fail=> .fail)
  |_=> .fail:=by
 have e:bI P self (depth+1) f args ctx h=match av P f with
  |some (.code nf)=>ve args fun t=>(match self none nf.body ⟨t, [],ctx,h⟩ with
   | .mk o d=>(match o with
    | .norm| .ret=>unwind (bI P self depth) (finish nf.results d) d.dfs none d.h
    | .pan v=>unwind (bI P self depth) (finish nf.results d) d.dfs (some v) d.h
    | .exit _=> .fail)
   | .fail=> .fail)
  |_=> .fail:=rfl
 rw[e]
 split
 ·exact uF _ _
 ·rfl
theorem fp (hK:gJ P) {n:Nat} (hO:fm P S n):∀depth,xD P (bI P (ev P S n) depth):=by
 intro depth
 induction depth with
 |zero=>intro f args p h hne;exact Fy rfl hne
 |succ depth ih=>
  intro f args p h hne
  rw[bV] at hne ⊢
  cases hcf:av P f with
  |none=>rw[hcf] at hne;exact Fy rfl hne
  |some x=>
   cases x with
   |ext e=>rw[hcf] at hne;exact Fy rfl hne
   |code nf=>
    refine ⟨⟨nf,rfl⟩,fun B ι w args' kind cs hR hB hargs hctx=> ?_⟩
    rw[hcf] at hne
    dsimp only at hne ⊢
    obtain ⟨fn,c,hf,hb,hname,hcc,hres⟩:=fA hcf
    let b:Frame:={(default:Frame) with fn:=f,kind:=kind}
    let a0:Act:={tmps:=args'.toArray++Array.replicate (fn.ntmps - args'.toArray.size) undef,defers:= []}
    have henter:Frame.enter P f args'.toArray kind=b.atR a0 [.code c]:=by
     simp[Frame.enter,Frame.atR,hf,hb,b,a0]
     rfl
    cases hev:ev P S n none nf.body ⟨bJ args 0 .leaf, [],p,h⟩ with
    |fail=>rw[hev] at hne;exact Fy rfl hne
    |mk o d=>
     rw[hev] at hne
     have hs:Sd P ι B none [] p h b a0.defers cs w:=⟨trivial,hctx,hR,hB,rfl⟩
     have hgo:=hO c nf.body fn [] [] hcc (hK f fn c hf hb) none ⟨bJ args 0 .leaf, [],p,h⟩ o d hev (.code c) (.inl rfl) B b [] ι a0 cs w hf (xi hargs _) hs (by simp[a0];omega)
     rw[←henter] at hgo
     obtain ⟨ι1,a1,cs1,w1,g1,g2,g3,g4⟩:=hgo
     have out:∀(q:Option NV) (fr1:Frame),(unwind (bI P (ev P S n) depth) (finish nf.results d) d.dfs q d.h)≠.fail->rD ι1 q fr1.mode->fr1.defers=a1.defers->fr1.tmps=a1.tmps->fr1.kind=kind->fr1.fn=f->
      Steps P (lone (Frame.enter P f args'.toArray kind) cs w) (lone fr1 cs1 w1)->Ec P B ι h w (Frame.enter P f args'.toArray kind) kind p cs (unwind (bI P (ev P S n) depth) (finish nf.results d) d.dfs q d.h):=by
      intro q fr1 hq hm hdf htm hkd hfn hst
      have sd:=g3.sd
      obtain ⟨p',h',ι',w',fr',q1,q2,q3,q4,q5,q6,q7,q8,q9,q10⟩:=lG ih hq d.dfs q d.h rfl ι1 w1 fr1 cs1 (by rw[hdf];exact sd.df) sd.rel sd.base hm
      have hTR:TR ι' d.t fr'.tmps:=by rw[q7,htm];exact g2.mono q4.le
      have hff:P.funcs[fr'.fn]? =some fn:=by rw[q8,hfn];exact hf
      cases p' with
      |none=>
       have q1':bE h' d.t nf.results .fail (fun l=> .val (ez l) d.ctx h')=unwind (bI P (ev P S n) depth) (finish nf.results d) d.dfs q d.h:=q1
       obtain ⟨v,v',r1,r2,r3⟩:=kZ hTR q2 hres hq q1'
       rw[r1]
       exact ⟨ι',v',w',cs1,fr',r2,q2,q3,g3.gr.trans q4,g3.ca,hst.trans q10,by rw[q9,hkd],by rw[q8,hfn];rfl,q5,q6,fn,hff,r3⟩
      |some v=>
       have q1':CR.pan v d.ctx h'=unwind (bI P (ev P S n) depth) (finish nf.results d) d.dfs q d.h:=q1
       rw[←q1']
       obtain ⟨v',m1,m2⟩:=q5
       exact ⟨ι',v',w',cs1,fr',m2,q2,q3,g3.gr.trans q4,g3.ca,hst.trans q10,by rw[q9,hkd],by rw[q8,hfn];rfl,m1,q6,fn,hff⟩
     cases o with
     |norm=>
      have g1':Steps P (lone (Frame.enter P f args'.toArray kind) cs w) (lone (b.atR a1 []) cs1 w1):=g1
      exact out none {b.atR a1 [] with mode:= .returning} hne rfl rfl rfl rfl rfl (g1'.trans (.one (stepR_end rfl)))
     |ret=>
      obtain ⟨k0,g1'⟩:=g1
      exact out none {b.atR a1 (.code .ret::k0) with mode:= .returning} hne rfl rfl rfl rfl rfl (g1'.trans (.one (stepR_ret rfl)))
     |exit id=>exact Fy rfl hne
     |pan v=>
      obtain ⟨td,v',m1,g1'⟩:=g1
      exact out (some v) _ hne ⟨v',rfl,m1⟩ rfl rfl rfl rfl g1'
end
end Nm
namespace Nm
open Go
theorem x1:Extern.allNextRows.lookup "math/bits.Add64" =none:=by kernel_rfl
theorem x2:Extern.allNextRows.lookup "" =none:=by kernel_rfl
theorem x3:Extern.allGenericRows.lookup "math/bits.Add64" =none:=by kernel_rfl
theorem x4:Extern.allTypedRows.lookup "math/bits.Add64" =none:=by kernel_rfl
theorem x5:Extern.allRows.lookup "math/bits.Add64" =some add64Entry:=by kernel_rfl
theorem y1:Extern.allNextRows.lookup "internal/bytealg.IndexByteString" =none:=by kernel_rfl
theorem y3:Extern.allGenericRows.lookup "internal/bytealg.IndexByteString" =none:=by kernel_rfl
theorem y4:Extern.allTypedRows.lookup "internal/bytealg.IndexByteString" =none:=by kernel_rfl
theorem y5:Extern.allRows.lookup "internal/bytealg.IndexByteString" =some Extern.BytealgIndexByte.indexByte:=by kernel_rfl
theorem vz (c:Nat):∀(l:List Nat) (i:Nat),iW c l i=(l.findIdx? (fun x=>x==c)).map (·+i):=by
 intro l
 induction l with
 |nil=>intro i;rfl
 |cons x l ih=>
  intro i
  have e:iW c (x::l) i=cond (Nat.beq x c) (some i) (ak (Nat.succ i) (iW c l)):=rfl
  rw[e,af,ih,List.findIdx?_cons]
  cases h:Nat.beq x c with
  |true=>have:=FF h;simp[this]
  |false=>
   have:=Nat.ne_of_beq_eq_false h
   simp only[cond_false]
   rw[Fz (by simpa using this)]
   cases List.findIdx? (fun x=>x==c) l with
   |none=>rfl
   |some j=>simp;omega
theorem pB (p:Nat->Bool):∀n,(List.range n).find? p=none↔∀i,i<n->p i=false:=by
 intro n;simp
theorem nQ (s:ByteArray) (c:Nat) (hc:c<=255):firstIdx s c.toUInt8=match iW c (s.data.toList.map UInt8.toNat) 0 with|some i=>(i:Int)|none=>-1:=by
 rw[vz]
 have hsz:s.data.toList.length=s.size:=aT s
 have hml:(s.data.toList.map UInt8.toNat).length=s.size:=by rw[List.length_map,hsz]
 have hat:∀i (h:i<s.size),(s[i]! ==c.toUInt8)=(((s.data.toList.map UInt8.toNat)[i]'(by rw[hml];exact h))==c):=by
  intro i h
  have e:s[i]! =s.data.toList[i]'(by rw[hsz];exact h):=by
   rw[getElem!_pos s i h];simp[ByteArray.getElem_eq_getElem_data]
  rw[e,List.getElem_map]
  rw[Bool.eq_iff_iff]
  simp only[beq_iff_eq]
  constructor
  ·intro h;rw[h];simp;omega
  ·intro h;rw[←h];simp
 unfold firstIdx
 cases hf:(s.data.toList.map UInt8.toNat).findIdx? (fun x=>x==c) with
 |none=>
  have h1:(List.range s.size).find? (fun i=>s[i]! ==c.toUInt8)=none:=by
   rw[pB]
   intro i hi
   rw[hat i hi]
   rw[List.findIdx?_eq_none_iff] at hf
   exact hf _ (List.getElem_mem _)
  rw[h1];rfl
 |some j=>
  rw[List.findIdx?_eq_some_iff_getElem] at hf
  obtain ⟨hj,h1,h2⟩:=hf
  have hj':j<s.size:=by rw[←hml];exact hj
  have h3:(List.range s.size).find? (fun i=>s[i]! ==c.toUInt8)=some j:=by
   rw[List.find?_range_eq_some]
   refine ⟨?_,by simpa using hj',fun k hk=> ?_⟩
   ·rw[hat j hj'];exact h1
   ·rw[hat k (by omega)]
    simpa using h2 k hk
  rw[h3];simp
section
variable {P:Program} {S:Nat->List NV->Option NV} {B:Nat}
theorem sZ {ι:aH} {fn:Func} {e:Ext} {f:Nat} (hf:P.funcs[f]? =some fn) (hb:fn.body=none) (he:qH fn=some e) {args:List NV} {args':List Value} (ha:VRL ι args args') {v:NV} (hv:dX e args=some v) (w:World):
 ∃v',(callFunc f args'.toArray).run P w= .ok (.value v') w/\VR ι v v':=by
 unfold qH at he
 obtain ⟨ho,he⟩:=aE he
 have ho':fn.origin= "" :=by simpa using ho
 cases hn:(fn.name== "math/bits.Add64") with
 |true=>
  rw[hn] at he
  cases he
  have hname:fn.name= "math/bits.Add64" :=by simpa using hn
  have hnx:Extern.findNext fn=none:=by unfold Extern.findNext;rw[hname,ho'];simp only[x1,x2];rfl
  have hfi:Extern.find fn=some add64Entry:=by unfold Extern.find;rw[hname,ho'];simp only[x3,x4,x5];rfl
  have hcall:=run_callFunc_extern hf (by rw[hname];decide) (by rw[hb];rfl) hnx hfi args'.toArray w
  unfold dX at hv
  split at hv
  ·rename_i x y c hargs
   obtain ⟨hc1,hv⟩:=aE hv
   rw[af,af] at hv
   cases hv
   cases ha with
   |cons _ _ _ _ h1 ha=>
    cases ha with
    |cons _ _ _ _ h2 ha=>
     cases ha with
     |cons _ _ _ _ h3 ha=>
      cases ha
      cases h1;cases h2;cases h3
      have hc:=Nat.le_of_ble_eq_true hc1
      refine ⟨_, ?_,.tup [_,_] [_,_] (.cons _ _ _ _ (.int .u64 _) (.cons _ _ _ _ (.int .u64 _) .nil))⟩
      have:=run_add64 (P:=P) (Int.ofNat x) (Int.ofNat y) (Int.ofNat c) (Int.natCast_nonneg _) (Int.natCast_nonneg _) (Int.natCast_nonneg _) (by show (c:Int)<=1;omega) w
      rw[hcall]
      show Result.andThen (Sem.run P (add64Entry #[.int .u64 (Int.ofNat x),.int .u64 (Int.ofNat y),.int .u64 (Int.ofNat c)]) w) _=_
      rw[this]
      rfl
  ·rename_i h;cases h
  ·cases hv
 |false=>
  rw[hn] at he
  simp only[cond_false] at he
  obtain ⟨hn2,he⟩:=aE he
  cases he
  have hname:fn.name= "internal/bytealg.IndexByteString" :=by simpa using hn2
  have hnx:Extern.findNext fn=none:=by unfold Extern.findNext;rw[hname,ho'];simp only[y1,x2];rfl
  have hfi:Extern.find fn=some Extern.BytealgIndexByte.indexByte:=by unfold Extern.find;rw[hname,ho'];simp only[y3,y4,y5];rfl
  have hcall:=run_callFunc_extern hf (by rw[hname];decide) (by rw[hb];rfl) hnx hfi args'.toArray w
  unfold dX at hv
  split at hv
  ·rename_i h;cases h
  ·rename_i s c _
   obtain ⟨hc1,hv⟩:=aE hv
   have hc:=Nat.le_of_ble_eq_true hc1
   cases ha with
   |cons _ _ _ _ h1 ha=>
    cases ha with
    |cons _ _ _ _ h2 ha=>
     cases ha
     cases h2
     cases h1 with
     |str l s' hs=>
      subst hs
      have hrun:=run_indexByte_string (P:=P) s' (Int.ofNat c) w
      refine ⟨.int .i64 (firstIdx s' c.toUInt8), ?_, ?_⟩
      ·rw[hcall]
       show Result.andThen (Sem.run P (Extern.BytealgIndexByte.indexByte #[.string s',.int .u8 (Int.ofNat c)]) w) _=_
       rw[hrun]
       rfl
      ·rw[nQ s' c hc]
       cases hi:iW c (s'.data.toList.map UInt8.toNat) 0 with
       |none=>rw[hi] at hv;cases hv;exact .int .i64 _
       |some i=>rw[hi] at hv;cases hv;exact .int .i64 _
  ·cases hv
def gP (P:Program) (S:Nat->List NV->Option NV):Prop:=
 ∀(ι:aH) (B:Nat) (h:NH) (w:World) (f:Nat) (args:List NV) (args':List Value) (v:NV),S f args=some v->Rel P ι B h w->B<=w.heap.size->VRL ι args args'->
  nT P ι B h w ((callFunc f args'.toArray).run P w) (.val v none h)
theorem uk:gP P EY:=fun _ _ _ _ _ _ _ _ h=>by cases h
theorem s6 {f:Nat} {e:Ext} (h:av P f=some (.ext e)):∃fn,P.funcs[f]? =some fn/\fn.body=none/\qH fn=some e:=by
 unfold av at h
 split at h
 ·rename_i fn hfn
  cases hn:(fn.name== "runtime.NumGoroutine") with
  |true=>rw[hn] at h;cases h
  |false=>
   rw[hn] at h
   simp only[cond_false] at h
   split at h
   ·split at h
    ·rw[af] at h;cases h
    ·cases h
   ·rename_i hb
    split at h
    ·rename_i e' he;cases h;exact ⟨fn,hfn,hb,he⟩
    ·cases h
 ·cases h
theorem cK {fr:Frame} {w:World} {e:Ending} (hk:fr.kind= .normal) (h:fr.going P w e):fr.leaving P w e:=by
 cases e with
 |returned v=>exact ⟨h.1,h.2.1,hk,h.2.2⟩
 |panicked c=>exact h
 |outgrown=>trivial
theorem jn (hK:gJ P) (hS:gP P S) {n:Nat} (hO:fm P S n) (ι:aH) (B:Nat) (h:NH) (w:World) (f:Nat) (args:List NV) (args':List Value) (hR:Rel P ι B h w) (hB:B<=w.heap.size) (ha:VRL ι args args'):
 nT P ι B h w ((callFunc f args'.toArray).run P w) (bh P S (ev P S n) f args h):=by
 unfold bh
 cases hs:S f args with
 |some v=>exact hS ι B h w f args args' v hs hR hB ha
 |none=>
  dsimp only
  cases hcf:av P f with
  |none=>trivial
  |some x=>
   cases x with
   |ext e=>
    dsimp only
    cases hx:dX e args with
    |none=>trivial
    |some v=>
     intro c cs
     obtain ⟨fn,h1,h2,h3⟩:=s6 hcf
     obtain ⟨v',e1,e2⟩:=sZ h1 h2 h3 ha hx w
     exact ⟨ι,v',w,e2,hR,hB,.refl _ _ _,.inl e1⟩
   |code nf=>
    dsimp only
    have hD:=fp hK hO 3 f args none h
    obtain ⟨fn,code,e1,e2,e3,_⟩:=fA hcf
    have hent:=ia (P:=P) e1 e2 e3 args'.toArray w
    cases hr:bI P (ev P S n) 3 f args none h with
    |fail=>trivial
    |val v x h'=>
     intro c cs
     obtain ⟨_,hF⟩:=hD (by rw[hr];simp)
     have hF:=hF B ι w args' .normal (c::cs) hR hB ha (fun b hb=>by unfold tryRecover;rw[hb])
     rw[hr] at hF
     obtain ⟨ι',v',w',cs',fr,f1,f2,f3,f4,f5,f6,f7,_,f8⟩:=hF
     obtain ⟨rfl,_⟩:=f5.none
     exact ⟨ι',v',w',f1,f2,f3,f4,.inr ⟨w,.inl ⟨f,args'.toArray,hent,Steps.trans f6 (.one (step_leave_returned (cK f7 f8)))⟩⟩⟩
    |pan v x h'=>
     intro c cs
     obtain ⟨_,hF⟩:=hD (by rw[hr];simp)
     have hF:=hF B ι w args' .normal (c::cs) hR hB ha (fun b hb=>by unfold tryRecover;rw[hb])
     rw[hr] at hF
     obtain ⟨ι',v',w',cs',fr,f1,f2,f3,f4,f5,f6,f7,_,f8⟩:=hF
     obtain ⟨rfl,_⟩:=f5.none
     exact ⟨ι',v',w',f1,f2,f3,f4,w,.inl ⟨f,args'.toArray,hent,Steps.trans f6 (.one (step_leave_panicked (cK f7 f8)))⟩⟩
noncomputable def kW:List D4->List NV->Tm->Tm
 |p::ps,v::vs,t=>kW ps vs (NT.put p v t)
 |_,_,t=>t
theorem iI {r:CR} (hr:r≠.fail) {K:Tm->CR}:∀{ps:List D4} {vs:List NV} {t:Tm},cv .fail ps vs t K=r->vs.length=ps.length/\K (kW ps vs t)=r:=by
 intro ps
 induction ps with
 |nil=>
  intro vs t h
  cases vs with
  |nil=>exact ⟨rfl,h⟩
  |cons v vs=>exact Fy (show CR.fail=r from h).symm hr
 |cons p ps ih=>
  intro vs t h
  cases vs with
  |nil=>exact Fy (show CR.fail=r from h).symm hr
  |cons v vs=>
   have e:cv .fail (p::ps) (v::vs) t K=NT.set p v t fun t=>cv .fail ps vs t K:=rfl
   rw[e,NT.set_eq] at h
   obtain ⟨h1,h2⟩:=ih h
   exact ⟨by simp[h1],h2⟩
theorem vI {ι:aH}:∀{ps:List Nat} {vs:List NV} {vs':List Value} {t:Tm} {a:Array Value},VRL ι vs vs'->TR ι t a->(∀q∈ps,q<a.size)->
 TR ι (kW (ps.map D4.of) vs t) ((ps.zip vs').foldl (fun tmps (t,a)=>tmps.setIfInBounds t a) a)/\((ps.zip vs').foldl (fun tmps (t,a)=>tmps.setIfInBounds t a) a).size=a.size:=by
 intro ps
 induction ps with
 |nil=>intro vs vs' t a _ hT _;cases vs<;>exact ⟨hT,rfl⟩
 |cons p ps ih=>
  intro vs vs' t a hv hT hp
  cases hv with
  |nil=>exact ⟨hT,rfl⟩
  |cons v v' vs vs' h1 h2=>
   have hT':=hT.put (hp p (by simp)) h1
   obtain ⟨q1,q2⟩:=ih h2 hT' (fun q hq=>by simp;exact hp q (by simp[hq]))
   exact ⟨q1,q2.trans (by simp)⟩
def BJ (P:Program) (B:Nat) (ι:aH) (h:NH) (w:World) (fr0:Frame) (c:Frame) (cs:List Frame):CR->Prop
 | .fail=>True
 | .val v _ h'=>∃ι' v' w',VR ι' v v'/\Rel P ι' B h' w'/\B<=w'.heap.size/\Grow ι h w ι' h' w'/\Steps P (lone fr0 (c::cs) w) (lone (c.finish v') cs w')
 | .pan v _ h'=>∃ι' v' w',VR ι' v v'/\Rel P ι' B h' w'/\B<=w'.heap.size/\Grow ι h w ι' h' w'/\Steps P (lone fr0 (c::cs) w) (lone (c.raise [{v:=v',recovered:=false}]) cs w')
theorem iF {n:Nat} (hO:fm P S n) (ι:aH) (B:Nat) (h:NH) (w:World) (l:D4) (p:Pl) (args:List NV) (args':List Value) (hR:Rel P ι B h w) (hB:B<=w.heap.size) (ha:VRL ι args args') (hp:ι l=some p):
 nT P ι B h w ((Instr.yield p.b args'.toArray).run P w) (round (ev P S n) l args h):=by
 by_cases hne:round (ev P S n) l args h= .fail
 ·rw[hne];trivial
 generalize hrr:round (ev P S n) l args h=r at hne
 have hrr':=hrr
 unfold round at hrr'
 obtain ⟨ob,ho1,ho2⟩:=hR.obj _ _ hp
 rw[ho1] at hrr'
 cases ob with
 |loop st pd tm ps na nb=>
  cases st with
  |succ st=>exact Fy hrr'.symm hne
  |zero=>
   obtain ⟨L,l1,l2,l3,l4,l5,l6,l7,⟨fn,bl,la,lb,l8,l9,l10,l11,_⟩,l12⟩:=ho2
   obtain ⟨hlen,hrr2⟩:=iI hne hrr'
   have hsz:args'.toArray.size=L.params.size:=by
    have:=ha.length
    rw[l5] at hlen
    simp at hlen ⊢;omega
   have hy:=run_yield (P:=P) l1 hsz
   obtain ⟨t1,t2⟩:=vI (ps:=L.params.toList) ha l4 l12
   have hz:(L.params.zip args'.toArray).foldl (fun tmps (t,a)=>tmps.setIfInBounds t a) L.tmps=(L.params.toList.zip args').foldl (fun tmps (t,a)=>tmps.setIfInBounds t a) L.tmps:=by
    rw[←Array.foldl_toList,Array.toList_zip]
   rw[hz] at hy
   rw[←l5] at t1
   generalize (L.params.toList.zip args').foldl (fun tmps (t,a)=>tmps.setIfInBounds t a) L.tmps=tmps at hy t1 t2
   let b:Frame:={(default:Frame) with fn:=L.fn,kind:= .normal,roundOf:=some p.b}
   have hfr:Frame.round p.b L.fn tmps L.assign L.body .normal=b.atR {tmps:=tmps,defers:= []} [.code L.assign,.beginRound,.code L.body]:=by
    simp[Frame.round,Frame.atR,b]
   cases hev:ev P S n (some l) na ⟨kW ps args tm, [],none,h⟩ with
   |fail=>rw[hev] at hrr2;exact Fy hrr2.symm hne
   |mk o d=>
    rw[hev] at hrr2
    cases o with
    |norm=>
     dsimp only at hrr2
     cases hdd:d.dfs with
     |cons x xs=>rw[hdd] at hrr2;exact Fy hrr2.symm hne
     |nil=>
      rw[hdd] at hrr2
      have hrb:bP (ev P S n) l nb d.t d.h=r:=hrr2
      have main:∀(c:Frame) (cs:List Frame),BJ P B ι h w (Frame.round p.b L.fn tmps L.assign L.body .normal) c cs r:=by
       intro c cs
       have hctx:∀ι:aH,oK ι b.kind (c::cs) none:=fun ι b' hb'=>by unfold tryRecover;rw[hb']
       have hs:Sd P ι B (some l) [] none h b ([]:List Deferred) (c::cs) w:=⟨trivial,hctx ι,hR,hB,⟨p,hp,rfl⟩⟩
       have hgo:=hO L.assign na fn [] [] l6 l10 (some l) ⟨kW ps args tm, [],none,h⟩ .norm d hev (.code L.assign) (.inl rfl) B b [.beginRound,.code L.body] ι {tmps:=tmps,defers:= []} (c::cs) w l8 t1 hs (by rw[t2];exact l9)
       obtain ⟨ι1,a1,cs1,w1,g1,g2,g3,g4⟩:=hgo
       obtain ⟨rfl,hctx1⟩:=g3.ca.none
       have sd1:=g3.sd
       have hdef1:a1.defers= []:=by
        have:=sd1.df
        rw[hdd] at this
        cases hq:a1.defers with
        |nil=>rfl
        |cons d ds=>rw[hq] at this;exact this.elim
       have hp1:ι1 l=some p:=g3.gr.le _ _ hp
       obtain ⟨ob1,ho3,ho4⟩:=sd1.rel.obj _ _ hp1
       have hrb':=hrb
       unfold bP at hrb'
       rw[ho3] at hrb'
       cases ob1 with
       |loop st1 pd1 tm1 ps1 na1 nb1=>
        cases st1 with
        |succ st1=>exact Fy hrb'.symm hne
        |zero=>
         replace hrb':d.h.set l (.loop 1 pd1 tm1 ps1 na1 nb1) (fun h=>match ev P S n (some l) nb ⟨d.t, [],none,h⟩ with
          | .mk o d=>(match o with
           | .pan v=>(match d.dfs with| []=>CR.pan v none d.h|_=> .fail)
           |o=>cw l o d.h)
          | .fail=> .fail)=r:=hrb'
         rw[NH.set_eq] at hrb'
         obtain ⟨L1,m1,m2,m3⟩:=ho4
         have hbr:=run_beginRound (P:=P) m1 m2
         have hlt1:=sd1.rel.lt _ _ hp1
         have hst1:SR 1 ({L1 with state:= .busy}:Loop).state:=rfl
         obtain ⟨u1,u2⟩:=sd1.rel.turn (w':=w1.putObj p.b (.loop {L1 with state:= .busy})) hp1 (by rw[ho3];simp) (.loop 1 pd1 tm1 ps1 na1 nb1)
          ⟨_,World.putObj_heap_same hlt1,hst1,m3⟩ (by simp) rfl rfl rfl (fun q hq=>World.putObj_heap_other hq)
         have hbeg:=stepR_beginRound (P:=P) (b:=b) (a:=a1) (k:= [.code L.body]) (cs:=c::cs) rfl hbr
         have hs2:Sd P ι1 B (some l) [] none (d.h.put l (.loop 1 pd1 tm1 ps1 na1 nb1)) b a1.defers (c::cs) (w1.putObj p.b (.loop {L1 with state:= .busy})):=
          ⟨by rw[hdef1];trivial,hctx ι1,u1,by simpa using sd1.base,⟨p,hp1,rfl⟩⟩
         generalize w1.putObj p.b (.loop {L1 with state:= .busy})=w2 at *
         generalize d.h.put l (.loop 1 pd1 tm1 ps1 na1 nb1)=h2 at *
         cases hev2:ev P S n (some l) nb ⟨d.t, [],none,h2⟩ with
         |fail=>rw[hev2] at hrb';exact Fy hrb'.symm hne
         |mk o2 d2=>
          rw[hev2] at hrb'
          have hgo2:=hO L.body nb fn bl la l7 l11 (some l) ⟨d.t, [],none,h2⟩ o2 d2 hev2 (.code L.body) (.inl rfl) B b [] ι1 a1 (c::cs) w2 l8 g2 hs2 (by rw[g4,t2];exact l9)
          obtain ⟨ι3,a3,cs3,w3,e1,e2,e3,e4⟩:=hgo2
          obtain ⟨rfl,_⟩:=e3.ca.none
          have hp3:ι3 l=some p:=e3.gr.le _ _ hp1
          have hpre:Steps P (lone (Frame.round p.b L.fn tmps L.assign L.body .normal) (c::cs) w) (lone (b.atR a1 [.code L.body]) (c::cs) w2):=by
           rw[hfr];exact Steps.trans g1 (.one hbeg)
          have hgr:=(g3.gr.trans u2).trans e3.gr
          have fin:∀(jump:Option Code) (st':Nat) (pd':Jump),cw l o2 d2.h=r->(∀tm ps na nb,(match o2 with
           | .norm=>(d2.h.set l (.loop 0 .none tm ps na nb) fun h=>CR.val (.bool true) none h)
           | .ret=>d2.h.set l (.loop 2 .ret tm ps na nb) fun h=> .val (.bool false) none h
           | .exit id=>d2.h.set l (.loop 2 (.exit id) tm ps na nb) fun h=> .val (.bool false) none h
           | .pan _=> .fail)= .val (.bool jump.isNone) none (d2.h.put l (.loop st' pd' tm ps na nb)))->
           (SR st' (if jump.isNone then .ready else .done))->JR pd' jump->
           (∀(v:Value) (w4:World),(Instr.endRound p.b jump).run P w3= .ok v w4->Steps P (lone (b.atR a1 [.code L.body]) (c::cs) w2) (lone (c.finish v) cs w4))->
           BJ P B ι h w (Frame.round p.b L.fn tmps L.assign L.body .normal) c cs r:=by
           intro jump st' pd' hre hval hSR hJR hsteps
           unfold cw at hre
           obtain ⟨ob3,ho5,ho6⟩:=e3.sd.rel.obj _ _ hp3
           rw[ho5] at hre
           cases ob3 with
           |loop st3 pd3 tm3 ps3 na3 nb3=>
            have hre':=(hval tm3 ps3 na3 nb3).symm.trans hre
            rw[←hre']
            obtain ⟨L3,k1,k2,k3,k4⟩:=ho6
            have hend:=run_endRound (P:=P) jump k1
            have hlt3:=e3.sd.rel.lt _ _ hp3
            obtain ⟨z1,z2⟩:=e3.sd.rel.turn (w':=w3.putObj p.b (.loop {L3 with state:=if jump.isNone then .ready else .done,pending:=jump})) hp3 (by rw[ho5];simp) (.loop st' pd' tm3 ps3 na3 nb3)
             ⟨_,World.putObj_heap_same hlt3,hSR,hJR,k4⟩ (by simp) rfl rfl rfl (fun q hq=>World.putObj_heap_other hq)
            exact ⟨ι3,.bool jump.isNone,_,.bool _,z1,by simpa using e3.sd.base,hgr.trans z2,hpre.trans (hsteps _ _ hend)⟩
           |_=>exact Fy hre.symm hne
          cases o2 with
          |norm=>
           exact fin none 0 .none hrb' (fun tm ps na nb=>NH.set_eq _ _ _ _) rfl rfl fun v w4 he=>Steps.trans e1 (.one (stepR_round_end rfl rfl he))
          |ret=>
           obtain ⟨k0,e1⟩:=e1
           exact fin (some .ret) 2 .ret hrb' (fun tm ps na nb=>NH.set_eq _ _ _ _) rfl rfl fun v w4 he=>Steps.trans e1 (.one (stepR_round_ret rfl rfl he))
          |exit id=>
           obtain ⟨k0,e0,e1⟩:=e1
           exact fin (some (.exit id)) 2 (.exit id) hrb' (fun tm ps na nb=>NH.set_eq _ _ _ _) rfl rfl fun v w4 he=>Steps.trans e1 (.one (stepR_round_exit rfl rfl (by rw[e0];rfl) he))
          |pan v=>
           dsimp only at hrb'
           cases hd2:d2.dfs with
           |cons x xs=>rw[hd2] at hrb';exact Fy hrb'.symm hne
           |nil=>
            rw[hd2] at hrb'
            rw[←show CR.pan v none d2.h=r from hrb']
            obtain ⟨td,v',f1,f2⟩:=e1
            have hdef3:a3.defers= []:=by
             have:=e3.sd.df
             rw[hd2] at this
             cases hq:a3.defers with
             |nil=>rfl
             |cons d ds=>rw[hq] at this;exact this.elim
            refine ⟨ι3,v',w3,f1,e3.sd.rel,e3.sd.base,hgr,hpre.trans (Steps.trans f2 (.one (step_leave_panicked ⟨rfl,hdef3,fn,l8⟩)))⟩
       |_=>exact Fy hrb'.symm hne
      cases r with
      |fail=>trivial
      |val v x h'=>
       intro c cs
       obtain ⟨ι',v',w',q1,q2,q3,q4,q5⟩:=main c cs
       exact ⟨ι',v',w',q1,q2,q3,q4,.inr ⟨w,.inr ⟨p.b,L.fn,tmps,L.assign,L.body,hy,q5⟩⟩⟩
      |pan v x h'=>
       intro c cs
       obtain ⟨ι',v',w',q1,q2,q3,q4,q5⟩:=main c cs
       exact ⟨ι',v',w',q1,q2,q3,q4,w,.inr ⟨p.b,L.fn,tmps,L.assign,L.body,hy,q5⟩⟩
    |_=>exact Fy hrr2.symm hne
 |_=>exact Fy hrr'.symm hne
theorem jo (hM:P.follows .mixedOrders=true) (hK:gJ P) (hS:gP P S):∀n,fm P S n/\CallsOK P S (ev P S n):=by
 intro n
 induction n with
 |zero=>
  have h0:fm P S 0:=fun c nc fn bl la _ _ rnd d o d' h=>by cases h
  exact ⟨h0,⟨jn hK hS h0,iF h0⟩⟩
 |succ n ih=>
  have h1:fm P S (n+1):=sX hM ih.1 ih.2
  exact ⟨h1,⟨jn hK hS h1,iF h1⟩⟩
end
end Nm
namespace Nm
open Go Go.RowKit
noncomputable def pX (cf:Nat->Option NFn) (S:Nat->List NV->Option NV) (n f:Nat) (args:List NV):CR:=bI cf (ev cf S n) 3 f args none ⟨.leaf,.e⟩
noncomputable def qY (cf:Nat->Option NFn) (S:Nat->List NV->Option NV) (n f:Nat) (args:List NV):Bool:=
 match pX cf S n f args with
 | .val (.bool b) _ _=>b
 |_=>false
def ι0:aH:=fun _=>none
theorem CO (P:Program) (w:World):Rel P ι0 w.heap.size ⟨.leaf,.e⟩ w where
 obj:=fun i p h=>by cases h
 inj:=fun i j p q h=>by cases h
 base:=fun i p h=>by cases h
 lt:=fun i p h=>by cases h
 fresh:=fun i o h=>by rw[show NH.get ⟨.leaf,.e⟩ i=NT.get i .leaf from rfl,NT.get_leaf] at h;cases h
theorem vM {P:Program} {S:Nat->List NV->Option NV} (hM:P.follows .mixedOrders=true) (hP:P.check= .ok ()) (hS:gP P S) {n f:Nat} {args:List NV} {v:NV} {x:Option NV} {h:NH} (hr:pX P S n f args= .val v x h) {args':List Value} (ha:VRL ι0 args args') (w:World):
 Calls P f args'.toArray w fun e w'=>(∃ι v',e= .returned v'/\VR ι v v'/\Rel P ι w.heap.size h w')/\Below w.heap.size w w':=by
 intro cs
 obtain ⟨hO,_⟩:=jo hM (gI hP) hS n
 have hD:=fp (gI hP) hO 3 f args none ⟨.leaf,.e⟩
 obtain ⟨_,hF⟩:=hD (by rw[show bI P (ev P S n) 3 f args none ⟨.leaf,.e⟩= .val v x h from hr];simp)
 have hF:=hF w.heap.size ι0 w args' .normal cs (CO P w) (Nat.le_refl _) ha (fun b hb=>by unfold tryRecover;rw[hb])
 rw[show bI P (ev P S n) 3 f args none ⟨.leaf,.e⟩= .val v x h from hr] at hF
 obtain ⟨ι',v',w',cs',fr,f1,f2,f3,f4,f5,f6,f7,f8,f9⟩:=hF
 obtain ⟨rfl,_⟩:=f5.none
 refine ⟨.returned v',w',fr,⟨⟨ι',v',rfl,f1,f2⟩,⟨f4.os,f4.tape,f4.output,f4.size,fun k hk=>f4.frame k hk fun i p hi=>by cases hi⟩⟩,f6,f8,cK f7 f9⟩
end Nm
namespace Nm
open Go Go.RowKit
mutual
def c7:NV->Bool
 | .bool _| .int _ _| .str _| .nilp| .nils| .nilm| .nilf| .nili=>true
 | .ifc _ v=>c7 v
 | .agg l=>fQ l
 | .tup l=>fQ l
 |_=>false
def fQ:List NV->Bool
 | []=>true
 |v::l=>c7 v&&fQ l
end
mutual
theorem VR.plain {ι ι':aH}:∀{v:NV} {v':Value},VR ι v v'->c7 v=true->VR ι' v v'
 |_,_,.bool b,_=> .bool b
 |_,_,.int k n,_=> .int k n
 |_,_,.str l s h,_=> .str l s h
 |_,_,.nilp,_=> .nilp
 |_,_,.ptr ..,h=>by simp[c7] at h
 |_,_,.nils,_=> .nils
 |_,_,.slc ..,h=>by simp[c7] at h
 |_,_,.nilm,_=> .nilm
 |_,_,.map ..,h=>by simp[c7] at h
 |_,_,.nilf,_=> .nilf
 |_,_,.fn ..,h=>by simp[c7] at h
 |_,_,.yld ..,h=>by simp[c7] at h
 |_,_,.nili,_=> .nili
 |_,_,.ifc t v v' h,k=> .ifc t v v' (VR.plain h (by simpa [c7] using k))
 |_,_,.agg l l' h h1,k=> .agg l l' (VRL.plain h (by simpa [c7] using k)) h1
 |_,_,.tup l l' h,k=> .tup l l' (VRL.plain h (by simpa [c7] using k))
theorem VRL.plain {ι ι':aH}:∀{l:List NV} {l':List Value},VRL ι l l'->fQ l=true->VRL ι' l l'
 |_,_,.nil,_=> .nil
 |_,_,.cons v v' l l' h hl,k=> .cons v v' l l' (VR.plain h (by simp[fQ] at k;exact k.1)) (VRL.plain hl (by simp[fQ] at k;exact k.2))
end
variable {P:Program} {f n:Nat} {args:List NV} {S:Nat->List NV->Option NV} {cf:Nat->Option NFn}
noncomputable def BT (f:Nat) (args:List NV) (v:NV) (S:Nat->List NV->Option NV):Nat->List NV->Option NV:=fun g l=>
 cond (Nat.beq g f) (cond (fk (bH 3) l args) (some v) (S g l)) (S g l)
noncomputable def nE (cf:Nat->Option NFn) (S:Nat->List NV->Option NV) (n f:Nat) (args:List NV) (v:NV):Bool:=
 match pX cf S n f args with
 | .val u _ _=>cond (fQ args) (cond (c7 v) (bH 5 u v) false) false
 |_=>false
theorem mN  {self:Option D4->NC->Dyn->Res} {d:Nat} {ctx:Option NV} {h:NH} (hn:bI P self d f args ctx h≠.fail):∃nf,av P f=some (.code nf):=by
 cases d with
 |zero=>exact Fy rfl hn
 |succ d=>
  rw[bV] at hn
  cases hc:av P f with
  |none=>rw[hc] at hn;exact Fy rfl hn
  |some x=>
   cases x with
   |code nf=>exact ⟨nf,rfl⟩
   |ext e=>rw[hc] at hn;exact Fy rfl hn
theorem wK  (hM:P.follows .mixedOrders=true) (hP:P.check= .ok ()) (hS:gP P S) {v:NV} (hr:nE P S n f args v=true):gP P (BT f args v S):=by
 intro ι B h w g l l' u hg hR hB hl
 have hg':cond (Nat.beq g f) (cond (fk (bH 3) l args) (some v) (S g l)) (S g l)=some u:=hg
 by_cases h1:Nat.beq g f=true/\fk (bH 3) l args=true
 ·obtain ⟨h2,h3⟩:=h1
  rw[h2,h3] at hg'
  cases hg'
  have:=FF h2
  subst this
  have:=gj (gG 3) h3
  subst this
  unfold nE at hr
  split at hr
  ·rename_i u x h0 hrun
   obtain ⟨p1,hr⟩:=dC hr
   obtain ⟨p2,hr⟩:=dC hr
   have:=gG _ _ _ hr
   subst this
   intro c cs
   have hcalls:=vM hM hP hS hrun (hl.plain p1) w
   obtain ⟨e,w',fr,⟨⟨ι1,v',he,hv,_⟩,hb⟩,hcomes,hfn,hleave⟩:=hcalls (c::cs)
   subst he
   obtain ⟨nf,hnf⟩:=mN (show bI P (ev P S n) 3 g l none ⟨.leaf,.e⟩≠.fail by rw[show bI P (ev P S n) 3 g l none ⟨.leaf,.e⟩=_ from hrun];simp)
   obtain ⟨fn,code,e1,e2,e3,_⟩:=fA hnf
   refine ⟨ι,v',w',hv.plain p2,⟨fun i p hi=> ?_,hR.inj,hR.base,fun i p hi=>Nat.lt_of_lt_of_le (hR.lt i p hi) hb.size,hR.fresh⟩,Nat.le_trans hB hb.size, ?_,.inr ⟨w,.inl ⟨g,l'.toArray,ia e1 e2 e3 _ w,Steps.trans hcomes (.one (step_leave_returned hleave))⟩⟩⟩
   ·obtain ⟨o,o1,o2⟩:=hR.obj i p hi
    exact ⟨o,o1,o2.mono (aH.le_refl _) (hb.block _ (hR.lt i p hi))⟩
   ·exact ⟨aH.le_refl _,Nat.le_refl _,fun _ _ x=> .inl x,fun i p x y=> .inr ⟨i,p,x,y,rfl⟩,fun _ _ _=>rfl,hb.size,hb.os,hb.tape,hb.output,fun b hb' _=>hb.block b hb'⟩
  ·cases hr
 ·have:S g l=some u:=by
   cases h2:Nat.beq g f with
   |false=>rw[h2] at hg';exact hg'
   |true=>
    rw[h2] at hg'
    cases h3:fk (bH 3) l args with
    |false=>rw[h3] at hg';exact hg'
    |true=>exact Fy ⟨h2,h3⟩ h1
  exact hS ι B h w g l l' u this hR hB hl
noncomputable def aL (P:Program) (k:Nat) (nf:NFun) (f:Nat):Option NFn:=cond (Nat.beq f k) (some (.code nf)) (av P f)
noncomputable def aM (m:Nat) (a b:Nat->Option NFn) (f:Nat):Option NFn:=cond (Nat.ble f m) (a f) (b f)
def eH (P:Program) (cf:Nat->Option NFn):Prop:=∀f,cf f=av P f
theorem an  {k:Nat} {nf:NFun} (h:av P k=some (.code nf)):eH P (aL P k nf):=fun f=>by
 unfold aL
 cases hb:Nat.beq f k with
 |false=>rfl
 |true=>rw[FF hb];exact h.symm
theorem ao  {m:Nat} {a b:Nat->Option NFn} (ha:eH P a) (hb:eH P b):eH P (aM m a b):=fun f=>by
 unfold aM
 cases Nat.ble f m with
 |false=>exact hb f
 |true=>exact ha f
theorem eH.run  (h:eH P cf) (hr:qY cf S n f args=true):qY P S n f args=true:=by
 have e:cf=av P:=funext h
 rw[e] at hr;exact hr
theorem eH.kept  (h:eH P cf) {v:NV} (hr:nE cf S n f args v=true):nE P S n f args v=true:=by
 have e:cf=av P:=funext h
 rw[e] at hr;exact hr
end Nm
namespace Nm
open Go Go.RowKit
variable {o:Out} {m:NH} {d1 d d':Dyn} {t:Tm} {dfs:List Dfr} {x y:NC} {f:Nat} {l:List NOper} {args:List NV} {v:NV} {rnd dst:Option D4}
def Le (a b:Option D4->NC->Dyn->Res):Prop:=∀r c d o d',a r c d= .mk o d'->b r c d= .mk o d'
section
variable {P:Program} {S:Nat->List NV->Option NV} {a b:Option D4->NC->Dyn->Res}
theorem eQ {F G:Nat->List NV->Option NV->NH->CR} (h:∀f l p m r,F f l p m=r->r≠.fail->G f l p m=r) {K:Option NV->NH->CR}:∀(l:List Dfr) (p:Option NV) (m:NH) (r:CR),unwind F K l p m=r->r≠.fail->unwind G K l p m=r:=by
 intro l
 induction l with
 |nil=>exact fun p m r e _=>e
 |cons c l ih=>
  intro p m r e hr
  rw[iE] at e ⊢
  cases c with
  |mark id=>
   dsimp only at e ⊢
   split at e
   ·exact ih _ _ _ e hr
   ·exact Fy e.symm hr
  |call f cap=>
   dsimp only at e ⊢
   cases hf:F f cap p m with
   |fail=>rw[hf] at e;exact Fy e.symm hr
   |pan v x m'=>rw[hf] at e;exact Fy e.symm hr
   |val v x m'=>
    rw[hf] at e
    rw[h f cap p m _ hf (by simp)]
    exact ih _ _ _ e hr
theorem oD (h:Le a b):∀(d f:Nat) (l:List NV) (p:Option NV) (m:NH) (r:CR),bI P a d f l p m=r->r≠.fail->bI P b d f l p m=r:=by
 intro d
 induction d with
 |zero=>intro f l p m r e hr;exact Fy e.symm hr
 |succ d ih=>
  intro f l p m r e hr
  rw[bV] at e ⊢
  cases hc:av P f with
  |none=>rw[hc] at e;exact Fy e.symm hr
  |some x=>
   cases x with
   |ext x=>rw[hc] at e;exact Fy e.symm hr
   |code nf=>
    rw[hc] at e
    dsimp only at e ⊢
    cases ha:a none nf.body ⟨bJ l 0 .leaf, [],p,m⟩ with
    |fail=>rw[ha] at e;exact Fy e.symm hr
    |mk o d'=>
     rw[ha] at e
     rw[h _ _ _ _ _ ha]
     cases o with
     |norm=>exact eQ (fun f l p m r=>ih f l p m r) _ _ _ _ e hr
     |ret=>exact eQ (fun f l p m r=>ih f l p m r) _ _ _ _ e hr
     |pan v=>exact eQ (fun f l p m r=>ih f l p m r) _ _ _ _ e hr
     |exit id=>exact Fy e.symm hr
theorem cq (h:Le a b) {l:List NV} {r:CR} (e:bh P S a f l m=r) (hr:r≠.fail):bh P S b f l m=r:=by
 unfold bh at e ⊢
 cases hs:S f l with
 |some v=>rw[hs] at e;exact e
 |none=>
  rw[hs] at e
  dsimp only at e ⊢
  cases hc:av P f with
  |none=>rw[hc] at e;exact e
  |some x=>
   rw[hc] at e
   cases x with
   |ext x=>exact e
   |code nf=>exact oD h _ _ _ _ _ _ e hr
theorem jO (h:Le a b) {l:D4} {bd:NC} {r:CR} (e:bP a l bd t m=r) (hr:r≠.fail):bP b l bd t m=r:=by
 unfold bP at e ⊢
 split at e
 ·rename_i p tm ps assign body hm
  rw[NH.set_eq] at e ⊢
  cases ha:a (some l) bd ⟨t, [],none,m.put l (.loop 1 p tm ps assign body)⟩ with
  |fail=>rw[ha] at e;exact Fy e.symm hr
  |mk o d=>rw[ha] at e;rw[h _ _ _ _ _ ha];exact e
 ·exact Fy e.symm hr
theorem dD (h:Le a b) {l:D4} {r:CR} (e:round a l args m=r) (hr:r≠.fail):round b l args m=r:=by
 unfold round at e ⊢
 split at e
 ·rename_i x tm ps assign body hm
  obtain ⟨h1,h2⟩:=iI hr e
  have key:∀K:Tm->CR,cv .fail ps args tm K=K (kW ps args tm):=by
   clear e h2 hm
   intro K
   induction ps generalizing args tm with
   |nil=>cases args with
    |nil=>rfl
    |cons=>simp at h1
   |cons q ps ih=>
    cases args with
    |nil=>simp at h1
    |cons v vs=>
     have e:cv .fail (q::ps) (v::vs) tm K=NT.set q v tm fun t=>cv .fail ps vs t K:=rfl
     rw[e,NT.set_eq]
     exact ih _ (by simpa using h1)
  rw[key]
  cases ha:a (some l) assign ⟨kW ps args tm, [],none,m⟩ with
  |fail=>rw[ha] at h2;exact Fy h2.symm hr
  |mk o d=>
   rw[ha] at h2
   rw[h _ _ _ _ _ ha]
   cases o with
   |norm=>
    dsimp only at h2 ⊢
    split at h2
    ·exact jO h h2 hr
    ·exact Fy h2.symm hr
   |_=>exact Fy h2.symm hr
 ·exact Fy e.symm hr
theorem jk (h:Le a b) {ctx:Option NV} {x:NR} {r:OpO} (e:cB P S a rnd dfs ctx m x=r) (hr:r≠.fail):cB P S b rnd dfs ctx m x=r:=by
 cases x with
 |call f l=>
  have e':nW dfs ctx (bh P S a f l m)=r:=e
  have hn:bh P S a f l m≠.fail:=fun hh=>by rw[hh] at e';exact hr e'.symm
  show nW dfs ctx (bh P S b f l m)=r
  rw[cq h rfl hn];exact e'
 |yld l args=>
  have e':nW dfs ctx (round a l args m)=r:=e
  have hn:round a l args m≠.fail:=fun hh=>by rw[hh] at e';exact hr e'.symm
  show nW dfs ctx (round b l args m)=r
  rw[dD h rfl hn];exact e'
 |_=>exact e
theorem uP  {K L:Dyn->Res} (hk:∀d o d',K d= .mk o d'->L d= .mk o d') {ctx:Option NV} {x:OpO} (e:pU dst K t dfs ctx x= .mk o d'):pU dst L t dfs ctx x= .mk o d':=by
 cases x with
 |fail=>cases e
 |next v dfs ctx h=>exact hk _ _ _ e
 |pan v h=>exact e
theorem yG  {K:Dyn->Res} {ctx:Option NV} {x:OpO} (e:pU dst K t dfs ctx x= .mk o d'):x≠.fail:=by
 rintro rfl;cases e
theorem eS (h:Le a b):∀(l:List NOper) (d:Dyn) (o:Out) (d':Dyn),bU P S a rnd l d= .mk o d'->bU P S b rnd l d= .mk o d':=by
 intro l
 induction l with
 |nil=>exact fun d o d' e=>e
 |cons x l ih=>
  rintro ⟨t,dfs,ctx,m⟩ o d' e
  rw[a8] at e ⊢
  cases hg:aj t x.guard with
  |none=>rw[hg] at e;cases e
  |some on=>
   rw[hg] at e
   cases on with
   |false=>exact ih _ _ _ e
   |true=>
    dsimp only at e ⊢
    rw[jk h rfl (yG e)]
    exact uP ih e
theorem iA (h:Le a b):∀(l:List NOper) (hs:List (Nat×NH)) (rs:List (Nat×(NH->NR)×NV)) (d:Dyn) (o:Out) (d':Dyn),bi P S a rnd l hs rs d= .mk o d'->bi P S b rnd l hs rs d= .mk o d':=by
 intro l
 induction l with
 |nil=>exact fun hs rs d o d' e=>e
 |cons x l ih=>
  rintro hs rs ⟨t,dfs,ctx,m⟩ o d' e
  rw[bm] at e ⊢
  cases hg:aj t x.guard with
  |none=>rw[hg] at e;cases e
  |some on=>
   rw[hg] at e
   cases on with
   |false=>exact ih _ _ _ _ _ e
   |true=>
    dsimp only at e ⊢
    cases hcl:ai x.op with
    |pure=>
     rw[hcl] at e
     dsimp only at e ⊢
     cases hop:ae x.op t m<;>rw[hop] at e<;>first|exact ih _ _ _ _ _ e|cases e
    |alloc=>
     rw[hcl] at e
     dsimp only at e ⊢
     cases ha:ahead x.pre hs with
     |false=>rw[ha] at e;cases e
     |true=>
      rw[ha] at e
      simp only[cond_true] at e ⊢
      cases hop:ae x.op t m<;>rw[hop] at e<;>first|exact ih _ _ _ _ _ e|cases e
    |read=>
     rw[hcl] at e
     dsimp only at e ⊢
     cases hop:ae x.op t m with
     |val v=>
      rw[hop] at e
      dsimp only at e ⊢
      cases hst:c8 x.pre (ae x.op t) v hs with
      |false=>rw[hst] at e;cases e
      |true=>rw[hst] at e;exact ih _ _ _ _ _ e
     |_=>rw[hop] at e;cases e
    |eff=>
     rw[hcl] at e
     dsimp only at e ⊢
     cases ha:ahead x.pre hs with
     |false=>rw[ha] at e;cases e
     |true=>
      rw[ha] at e
      simp only[cond_true] at e ⊢
      have hk:∀d o d',cond (aK x.pre d.h rs) (bi P S a rnd l ((x.idx,m)::hs) rs d) .fail= .mk o d'->cond (aK x.pre d.h rs) (bi P S b rnd l ((x.idx,m)::hs) rs d) .fail= .mk o d':=by
       intro d o d' e
       cases hs':aK x.pre d.h rs with
       |false=>rw[hs'] at e;cases e
       |true=>rw[hs'] at e;exact ih _ _ _ _ _ e
      have hne:cB P S a rnd dfs ctx m (ae x.op t m)≠.fail:=by
       intro hh
       rw[hh] at e
       cases e
      rw[jk h rfl hne]
      cases hoo:cB P S a rnd dfs ctx m (ae x.op t m) with
      |fail=>exact Fy hoo hne
      |pan v m'=>rw[hoo] at e;exact e
      |next v dfs1 ctx1 m'=>
       rw[hoo] at e
       have e':b9 (aU x.idx l) (cond (aK x.pre m' rs) (bi P S a rnd l ((x.idx,m)::hs) rs ⟨ay x.dst v t,dfs1,ctx1,m'⟩) .fail)= .mk o d':=e
       show b9 (aU x.idx l) (cond (aK x.pre m' rs) (bi P S b rnd l ((x.idx,m)::hs) rs ⟨ay x.dst v t,dfs1,ctx1,m'⟩) .fail)= .mk o d'
       cases hin:cond (aK x.pre m' rs) (bi P S a rnd l ((x.idx,m)::hs) rs ⟨ay x.dst v t,dfs1,ctx1,m'⟩) .fail with
       |fail=>rw[hin] at e';cases e'
       |mk o2 d2=>
        have:=hk ⟨ay x.dst v t,dfs1,ctx1,m'⟩ o2 d2 hin
        rw[hin] at e'
        rw[show cond (aK x.pre m' rs) (bi P S b rnd l ((x.idx,m)::hs) rs ⟨ay x.dst v t,dfs1,ctx1,m'⟩) .fail= .mk o2 d2 from this]
        exact e'
theorem gK (h:Le a b) {cap:List NV} {ps:List D4} {ctx:Option NV} (e:bF P S a f cap ps x y t dfs ctx m= .mk o d'):bF P S b f cap ps x y t dfs ctx m= .mk o d':=by
 unfold bF at e ⊢
 rw[NH.new_eq] at e ⊢
 cases hc:bh P S a f (.yld m.next::cap) (m.add (.loop 0 .none t ps x y)) with
 |fail=>rw[hc] at e;cases e
 |val v c m'=>rw[hc] at e;rw[cq h hc (by simp)];exact e
 |pan v c m'=>rw[hc] at e;rw[cq h hc (by simp)];exact e
theorem pW (h:Le a b):Le (jL P S a) (jL P S b):=by
 intro r c d o d' e
 cases c with
 |skip=>exact e
 |reg l=>exact eS h _ _ _ _ e
 |regD l=>
  have e':(match bi P S a r l [] [] d with| .mk (.pan v) d=>Res.mk (.pan v) ⟨gD l d.t,d.dfs,d.ctx,d.h⟩|r=>r)= .mk o d':=e
  show (match bi P S b r l [] [] d with| .mk (.pan v) d=>Res.mk (.pan v) ⟨gD l d.t,d.dfs,d.ctx,d.h⟩|r=>r)= .mk o d'
  cases hr:bi P S a r l [] [] d with
  |fail=>rw[hr] at e';cases e'
  |mk o2 d2=>rw[hr] at e';rw[iA h _ _ _ _ _ _ hr];exact e'
 |seq x y=>
  have e':(match a r x d with| .mk o d=>(match o with| .norm=>a r y d|o=> .mk o d)| .fail=> .fail)=Res.mk o d':=(qf (cf:=P) (S:=S)).symm.trans e
  refine (qf (cf:=P) (S:=S)).trans ?_
  show (match b r x d with| .mk o d=>(match o with| .norm=>b r y d|o=> .mk o d)| .fail=> .fail)=Res.mk o d'
  cases hx:a r x d with
  |fail=>rw[hx] at e';cases e'
  |mk o2 d2=>
   rw[hx] at e'
   rw[h _ _ _ _ _ hx]
   cases o2 with
   |norm=>exact h _ _ _ _ _ e'
   |_=>exact e'
 |cond g x y=>
  have e':(match ρ d.t g with|some (.bool c)=>(Bool.rec (a r y d) (a r x d) c:Res)|_=> .fail)=Res.mk o d':=(lP (cf:=P) (S:=S)).symm.trans e
  refine (lP (cf:=P) (S:=S)).trans ?_
  show (match ρ d.t g with|some (.bool c)=>(Bool.rec (b r y d) (b r x d) c:Res)|_=> .fail)=Res.mk o d'
  cases hg:ρ d.t g with
  |none=>rw[hg] at e';cases e'
  |some v=>
   rw[hg] at e'
   cases v with
   |bool q=>cases q<;>exact h _ _ _ _ _ e'
   |_=>cases e'
 |block id x=>
  have e':(match a r x d with| .mk o d=>(match o with| .exit i=>cond (Nat.beq i id) (.mk .norm d) (.mk (.exit i) d)|o=> .mk o d)| .fail=> .fail)=Res.mk o d':=(j4 (cf:=P) (S:=S)).symm.trans e
  refine (j4 (cf:=P) (S:=S)).trans ?_
  show (match b r x d with| .mk o d=>(match o with| .exit i=>cond (Nat.beq i id) (.mk .norm d) (.mk (.exit i) d)|o=> .mk o d)| .fail=> .fail)=Res.mk o d'
  cases hx:a r x d with
  |fail=>rw[hx] at e';cases e'
  |mk o2 d2=>rw[hx] at e';rw[h _ _ _ _ _ hx];exact e'
 |loop x=>
  have e':(match a r x d with| .mk o d=>(match o with| .norm=>a r (.loop x) d|o=> .mk o d)| .fail=> .fail)=Res.mk o d':=(mD (cf:=P) (S:=S)).symm.trans e
  refine (mD (cf:=P) (S:=S)).trans ?_
  show (match b r x d with| .mk o d=>(match o with| .norm=>b r (.loop x) d|o=> .mk o d)| .fail=> .fail)=Res.mk o d'
  cases hx:a r x d with
  |fail=>rw[hx] at e';cases e'
  |mk o2 d2=>
   rw[hx] at e'
   rw[h _ _ _ _ _ hx]
   cases o2 with
   |norm=>exact h _ _ _ _ _ e'
   |_=>exact e'
 |rangeFunc f ps x y=>
  obtain ⟨t,dfs,ctx,m⟩:=d
  have e':(match ρ t f with
   |some (.fn f cap)=>(match (generalizing:=false) r with
    |none=>m.new (.defd true) fun q m=>bF P S a f cap ps x y t (.mark q::dfs) ctx m
    |some l=>(match m.get l with
     |some (.loop ..)=>bF P S a f cap ps x y t dfs ctx m
     |_=> .fail))
   |_=> .fail)=Res.mk o d':=e
  show (match ρ t f with
   |some (.fn f cap)=>(match (generalizing:=false) r with
    |none=>m.new (.defd true) fun q m=>bF P S b f cap ps x y t (.mark q::dfs) ctx m
    |some l=>(match m.get l with
     |some (.loop ..)=>bF P S b f cap ps x y t dfs ctx m
     |_=> .fail))
   |_=> .fail)=Res.mk o d'
  cases hf:ρ t f with
  |none=>rw[hf] at e';cases e'
  |some v=>
   rw[hf] at e'
   cases v with
   |fn f cap=>
    dsimp only at e' ⊢
    cases r with
    |none=>
     dsimp only at e' ⊢
     rw[NH.new_eq] at e' ⊢
     exact gK h e'
    |some l=>
     dsimp only at e' ⊢
     split at e'
     ·exact gK h e'
     ·cases e'
   |_=>cases e'
 |exit id=>exact e
 |ret=>exact e
theorem w8:∀n,Le (ev P S n) (ev P S (n+1)):=by
 intro n
 induction n with
 |zero=>intro r c d o d' e;cases e
 |succ n ih=>exact pW ih
theorem bc {n m:Nat} (hnm:n<=m):Le (ev P S n) (ev P S m):=by
 induction m with
 |zero=>
  have:n=0:=by omega
  subst this;exact fun _ _ _ _ _ e=>e
 |succ m ih=>
  by_cases h:n=m+1
  ·subst h;exact fun _ _ _ _ _ e=>e
  ·exact fun r c d o d' e=>w8 m r c d o d' (ih (by omega) r c d o d' e)
end
def b7 (P:Program) (S:Nat->List NV->Option NV) (r:Option D4) (c:NC) (d:Dyn) (o:Out) (d':Dyn):Prop:=∃n,ev P S n r c d= .mk o d'
def Call (P:Program) (S:Nat->List NV->Option NV) (f:Nat) (l:List NV) (m:NH) (x:CR):Prop:=x≠.fail/\∃n,bh P S (ev P S n) f l m=x
def dl (P:Program) (S:Nat->List NV->Option NV) (r:Option D4) (l:List NOper) (d:Dyn) (o:Out) (d':Dyn):Prop:=∃n,bU P S (ev P S n) r l d= .mk o d'
section
variable {P:Program} {S:Nat->List NV->Option NV} {r:Option D4}
theorem b7.skip (d:Dyn):b7 P S r .skip d .norm d:=⟨1,rfl⟩
theorem b7.ret (d:Dyn):b7 P S r .ret d .ret d:=⟨1,rfl⟩
theorem b7.exit (id:Nat) (d:Dyn):b7 P S r (.exit id) d (.exit id) d:=⟨1,rfl⟩
theorem b7.seq  {d2:Dyn} (hx:b7 P S r x d .norm d1) (hy:b7 P S r y d1 o d2):b7 P S r (.seq x y) d o d2:=by
 obtain ⟨n,hn⟩:=hx
 obtain ⟨m,hm⟩:=hy
 refine ⟨max n m+1, ?_⟩
 refine oY.trans ?_
 show (match ev P S (max n m) r x d with| .mk o d=>(match o with| .norm=>ev P S (max n m) r y d|o=> .mk o d)| .fail=> .fail)=Res.mk o d2
 rw[bc (Nat.le_max_left n m) _ _ _ _ _ hn]
 exact bc (Nat.le_max_right n m) _ _ _ _ _ hm
theorem b7.seq_out  (hx:b7 P S r x d o d1) (ho:o≠.norm):b7 P S r (.seq x y) d o d1:=by
 obtain ⟨n,hn⟩:=hx
 refine ⟨n+1, ?_⟩
 refine oY.trans ?_
 show (match ev P S n r x d with| .mk o d=>(match o with| .norm=>ev P S n r y d|o=> .mk o d)| .fail=> .fail)=Res.mk o d1
 rw[hn]
 cases o<;>first|rfl|exact Fy rfl ho
theorem b7.cond {g:NOpd} {q:Bool} (hg:ρ d.t g=some (.bool q)) (h:b7 P S r (if q then x else y) d o d1):b7 P S r (.cond g x y) d o d1:=by
 obtain ⟨n,hn⟩:=h
 refine ⟨n+1, ?_⟩
 refine qw.trans ?_
 show (match ρ d.t g with|some (.bool c)=>(Bool.rec (ev P S n r y d) (ev P S n r x d) c:Res)|_=> .fail)=Res.mk o d1
 rw[hg]
 cases q<;>exact hn
theorem b7.block {id:Nat} (h:b7 P S r x d o d1):b7 P S r (.block id x) d (match o with| .exit i=>_root_.cond (Nat.beq i id) .norm (.exit i)|o=>o) d1:=by
 obtain ⟨n,hn⟩:=h
 refine ⟨n+1, ?_⟩
 refine mJ.trans ?_
 show (match ev P S n r x d with| .mk o d=>(match o with| .exit i=>_root_.cond (Nat.beq i id) (Res.mk .norm d) (Res.mk (.exit i) d)|o=>Res.mk o d)| .fail=>Res.fail)=_
 rw[hn]
 cases o with
 |exit i=>dsimp only;cases Nat.beq i id<;>rfl
 |_=>rfl
theorem b7.loop  {d2:Dyn} (hx:b7 P S r x d .norm d1) (hy:b7 P S r (.loop x) d1 o d2):b7 P S r (.loop x) d o d2:=by
 obtain ⟨n,hn⟩:=hx
 obtain ⟨m,hm⟩:=hy
 refine ⟨max n m+1, ?_⟩
 refine lH.trans ?_
 show (match ev P S (max n m) r x d with| .mk o d=>(match o with| .norm=>ev P S (max n m) r (.loop x) d|o=> .mk o d)| .fail=> .fail)=Res.mk o d2
 rw[bc (Nat.le_max_left n m) _ _ _ _ _ hn]
 exact bc (Nat.le_max_right n m) _ _ _ _ _ hm
theorem b7.loop_out  (hx:b7 P S r x d o d1) (ho:o≠.norm):b7 P S r (.loop x) d o d1:=by
 obtain ⟨n,hn⟩:=hx
 refine ⟨n+1, ?_⟩
 refine lH.trans ?_
 show (match ev P S n r x d with| .mk o d=>(match o with| .norm=>ev P S n r (.loop x) d|o=> .mk o d)| .fail=> .fail)=Res.mk o d1
 rw[hn]
 cases o<;>first|rfl|exact Fy rfl ho
theorem b7.reg  (h:dl P S r l d o d1):b7 P S r (.reg l) d o d1:=by
 obtain ⟨n,hn⟩:=h
 exact ⟨n+1,hn⟩
theorem dl.nil (d:Dyn):dl P S r [] d .norm d:=⟨0,rfl⟩
theorem dl.val {x:NOper} {ctx:Option NV} (hg:aj t x.guard=some true) (hop:ae x.op t m= .val v)
 (h:dl P S r l ⟨ay x.dst v t,dfs,ctx,m⟩ o d1):dl P S r (x::l) ⟨t,dfs,ctx,m⟩ o d1:=by
 obtain ⟨n,hn⟩:=h
 refine ⟨n, ?_⟩
 rw[a8,hg,hop]
 exact hn
theorem dl.mem {x:NOper} {ctx:Option NV} {m':NH} (hg:aj t x.guard=some true) (hop:ae x.op t m= .mem v m')
 (h:dl P S r l ⟨ay x.dst v t,dfs,ctx,m'⟩ o d1):dl P S r (x::l) ⟨t,dfs,ctx,m⟩ o d1:=by
 obtain ⟨n,hn⟩:=h
 refine ⟨n, ?_⟩
 rw[a8,hg,hop]
 exact hn
theorem dl.off {x:NOper} {ctx:Option NV} (hg:aj t x.guard=some false)
 (h:dl P S r l ⟨ay x.dst aA t,dfs,ctx,m⟩ o d1):dl P S r (x::l) ⟨t,dfs,ctx,m⟩ o d1:=by
 obtain ⟨n,hn⟩:=h
 refine ⟨n, ?_⟩
 rw[a8,hg]
 exact hn
theorem dl.call {x:NOper} {ctx:Option NV} {m':NH} {c:Option NV} (hg:aj t x.guard=some true) (hop:ae x.op t m= .call f args)
 (hc:Call P S f args m (.val v c m')) (h:dl P S r l ⟨ay x.dst v t,dfs,ctx,m'⟩ o d1):dl P S r (x::l) ⟨t,dfs,ctx,m⟩ o d1:=by
 obtain ⟨n,hn⟩:=h
 obtain ⟨hne,k,hk⟩:=hc
 refine ⟨max n k, ?_⟩
 rw[a8,hg,hop]
 show pU x.dst (bU P S (ev P S (max n k)) r l) t dfs ctx (nW dfs ctx (bh P S (ev P S (max n k)) f args m))=_
 rw[cq (bc (Nat.le_max_right n k)) hk hne]
 exact eS (bc (Nat.le_max_left n k)) _ _ _ _ hn
theorem Call.of_run  {nf:NFun} (hs:∀l,S f l=none) (hf:av P f=some (.code nf)) (ho:o= .norm∨o= .ret) (h:b7 P S none nf.body ⟨bJ args 0 .leaf, [],none,m⟩ o d) (hd:d.dfs= [])
 {x:CR} (hx:bE d.h d.t nf.results .fail (fun l=> .val (ez l) d.ctx d.h)=x) (hne:x≠.fail):Call P S f args m x:=by
 obtain ⟨n,hn⟩:=h
 refine ⟨hne,n, ?_⟩
 unfold bh
 rw[hs]
 dsimp only
 rw[hf]
 dsimp only
 rw[bV,hf]
 dsimp only
 rw[hn]
 rcases ho with rfl|rfl<;>(dsimp only;rw[hd];exact hx)
theorem uB (hM:P.follows .mixedOrders=true) (hP:P.check= .ok ()) (hS:gP P S) {m':NH} {c:Option NV} {nf:NFun} (hf:av P f=some (.code nf)) (hs:S f args=none) (hc:Call P S f args m (.val v c m'))
 {ι:aH} {w:World} (hR:Rel P ι w.heap.size m w) (hlive:∀i p,ι i=some p->¬Live (m.get i)) {args':List Value} (ha:VRL ι args args'):
 Calls P f args'.toArray w fun e w'=>(∃ι' v',e= .returned v'/\VR ι' v v'/\ι.le ι'/\Rel P ι' w.heap.size m' w')/\Below w.heap.size w w':=by
 intro cs
 obtain ⟨_,n,hn⟩:=hc
 have hn':bI P (ev P S n) 3 f args none m= .val v c m':=by
  unfold bh at hn
  rw[hs] at hn
  dsimp only at hn
  rw[hf] at hn
  exact hn
 obtain ⟨hO,_⟩:=jo hM (gI hP) hS n
 have hD:=fp (gI hP) hO 3 f args none m
 obtain ⟨_,hF⟩:=hD (by rw[hn'];simp)
 have hF:=hF w.heap.size ι w args' .normal cs hR (Nat.le_refl _) ha (fun b hb=>by unfold tryRecover;rw[hb])
 rw[hn'] at hF
 obtain ⟨ι',v',w',cs',fr,f1,f2,f3,f4,f5,f6,f7,f8,f9⟩:=hF
 obtain ⟨rfl,_⟩:=f5.none
 refine ⟨.returned v',w',fr,⟨⟨ι',v',rfl,f1,f4.le,f2⟩,⟨f4.os,f4.tape,f4.output,f4.size,fun k hk=>f4.frame k hk fun i p hi hl=>Fy hl (hlive i p hi)⟩⟩,f6,f8,cK f7 f9⟩
end
end Nm
namespace Nm
open Go Go.RowKit
variable {a b:Int} {k:IntKind}
noncomputable def ap:List (D4×NV)->Tm->Tm
 | [],t=>t
 |p::l,t=>NT.put p.1 p.2 (ap l t)
noncomputable def d8 (k:D4):List (D4×NV)->Option NV->Option NV
 | [],d=>d
 |p::l,d=>cond (aP k p.1) (some p.2) (d8 k l d)
theorem jW (k:D4):aP k k=true:=by
 induction k with
 |e=>rfl
 |a d ih=>exact ih
 |b d ih=>exact ih
 |c d ih=>exact ih
 |f d ih=>exact ih
theorem fo (k:D4) (l:List (D4×NV)) (t:Tm):NT.get k (ap l t)=d8 k l (NT.get k t):=by
 induction l with
 |nil=>rfl
 |cons p l ih=>
  show NT.get k (NT.put p.1 p.2 (ap l t))=cond (aP k p.1) (some p.2) (d8 k l (NT.get k t))
  cases h:aP k p.1 with
  |true=>rw[eM h,NT.get_put_same];rfl
  |false=>
   have hne:k≠p.1:=fun e=>by rw[e,jW] at h;cases h
   rw[NT.get_put_ne hne,ih];rfl
def aY (P:Program) (S:Nat->List NV->Option NV) (r:Option D4) (l:List NOper) (hs:List (Nat×NH)) (rs:List (Nat×(NH->NR)×NV)) (d:Dyn) (o:Out) (d':Dyn):Prop:=∃n,bi P S (ev P S n) r l hs rs d= .mk o d'
section
variable {P:Program} {S:Nat->List NV->Option NV} {r:Option D4} {x:NOper} {l:List NOper} {hs:List (Nat×NH)} {rs:List (Nat×(NH->NR)×NV)} {t:Tm} {dfs:List Dfr} {ctx:Option NV} {m m':NH} {o:Out} {d d1:Dyn} {v:NV}
theorem b7.regD (h:aY P S r l [] [] d .norm d1):b7 P S r (.regD l) d .norm d1:=by
 obtain ⟨n,hn⟩:=h
 refine ⟨n+1, ?_⟩
 show (match bi P S (ev P S n) r l [] [] d with| .mk (.pan v) d=>Res.mk (.pan v) ⟨gD l d.t,d.dfs,d.ctx,d.h⟩|r=>r)=_
 rw[hn]
theorem aY.nil (d:Dyn):aY P S r [] hs rs d .norm d:=⟨0,rfl⟩
theorem aY.off (hg:aj t x.guard=some false) (h:aY P S r l hs rs ⟨ay x.dst aA t,dfs,ctx,m⟩ o d1):aY P S r (x::l) hs rs ⟨t,dfs,ctx,m⟩ o d1:=by
 obtain ⟨n,hn⟩:=h
 exact ⟨n,by rw[bm,hg];exact hn⟩
theorem aY.pure (hg:aj t x.guard=some true) (hc:ai x.op= .pure) (hop:ae x.op t m= .val v) (h:aY P S r l hs rs ⟨ay x.dst v t,dfs,ctx,m⟩ o d1):aY P S r (x::l) hs rs ⟨t,dfs,ctx,m⟩ o d1:=by
 obtain ⟨n,hn⟩:=h
 exact ⟨n,by rw[bm,hg];dsimp only;rw[hc];dsimp only;rw[hop];exact hn⟩
theorem aY.alloc (hg:aj t x.guard=some true) (hc:ai x.op= .alloc) (ha:ahead x.pre hs=true) (hop:ae x.op t m= .mem v m') (h:aY P S r l hs rs ⟨ay x.dst v t,dfs,ctx,m'⟩ o d1):aY P S r (x::l) hs rs ⟨t,dfs,ctx,m⟩ o d1:=by
 obtain ⟨n,hn⟩:=h
 exact ⟨n,by rw[bm,hg];dsimp only;rw[hc];dsimp only;rw[ha,hop];exact hn⟩
theorem aY.read (hg:aj t x.guard=some true) (hc:ai x.op= .read) (hop:ae x.op t m= .val v) (ha:c8 x.pre (ae x.op t) v hs=true)
 (h:aY P S r l hs ((x.idx,ae x.op t,v)::rs) ⟨ay x.dst v t,dfs,ctx,m⟩ o d1):aY P S r (x::l) hs rs ⟨t,dfs,ctx,m⟩ o d1:=by
 obtain ⟨n,hn⟩:=h
 exact ⟨n,by rw[bm,hg];dsimp only;rw[hc];dsimp only;rw[hop];dsimp only;rw[ha];exact hn⟩
theorem aY.eff (hg:aj t x.guard=some true) (hc:ai x.op= .eff) (ha:ahead x.pre hs=true) (hop:ae x.op t m= .mem v m') (hst:aK x.pre m' rs=true)
 (h:aY P S r l ((x.idx,m)::hs) rs ⟨ay x.dst v t,dfs,ctx,m'⟩ .norm d1):aY P S r (x::l) hs rs ⟨t,dfs,ctx,m⟩ .norm d1:=by
 obtain ⟨n,hn⟩:=h
 refine ⟨n, ?_⟩
 rw[bm,hg];dsimp only;rw[hc];dsimp only;rw[ha,hop]
 show b9 (aU x.idx l) (cond (aK x.pre m' rs) (bi P S (ev P S n) r l ((x.idx,m)::hs) rs ⟨ay x.dst v t,dfs,ctx,m'⟩) .fail)=_
 rw[hst]
 show b9 (aU x.idx l) (bi P S (ev P S n) r l ((x.idx,m)::hs) rs ⟨ay x.dst v t,dfs,ctx,m'⟩)=_
 rw[hn];rfl
theorem aY.effv (hg:aj t x.guard=some true) (hc:ai x.op= .eff) (ha:ahead x.pre hs=true) (hop:ae x.op t m= .val v) (hst:aK x.pre m rs=true)
 (h:aY P S r l ((x.idx,m)::hs) rs ⟨ay x.dst v t,dfs,ctx,m⟩ .norm d1):aY P S r (x::l) hs rs ⟨t,dfs,ctx,m⟩ .norm d1:=by
 obtain ⟨n,hn⟩:=h
 refine ⟨n, ?_⟩
 rw[bm,hg];dsimp only;rw[hc];dsimp only;rw[ha,hop]
 show b9 (aU x.idx l) (cond (aK x.pre m rs) (bi P S (ev P S n) r l ((x.idx,m)::hs) rs ⟨ay x.dst v t,dfs,ctx,m⟩) .fail)=_
 rw[hst]
 show b9 (aU x.idx l) (bi P S (ev P S n) r l ((x.idx,m)::hs) rs ⟨ay x.dst v t,dfs,ctx,m⟩)=_
 rw[hn];rfl
theorem aY.call {f:Nat} {args:List NV} {c:Option NV} (hg:aj t x.guard=some true) (hc:ai x.op= .eff) (ha:ahead x.pre hs=true) (hop:ae x.op t m= .call f args) (hcall:Call P S f args m (.val v c m')) (hst:aK x.pre m' rs=true)
 (h:aY P S r l ((x.idx,m)::hs) rs ⟨ay x.dst v t,dfs,ctx,m'⟩ .norm d1):aY P S r (x::l) hs rs ⟨t,dfs,ctx,m⟩ .norm d1:=by
 obtain ⟨n,hn⟩:=h
 obtain ⟨hne,k,hk⟩:=hcall
 refine ⟨max n k, ?_⟩
 rw[bm,hg];dsimp only;rw[hc];dsimp only;rw[ha,hop]
 show b9 (aU x.idx l) (pU x.dst (fun d=>cond (aK x.pre d.h rs) (bi P S (ev P S (max n k)) r l ((x.idx,m)::hs) rs d) .fail) t dfs ctx (nW dfs ctx (bh P S (ev P S (max n k)) f args m)))=_
 rw[cq (bc (Nat.le_max_right n k)) hk hne]
 show b9 (aU x.idx l) (cond (aK x.pre m' rs) (bi P S (ev P S (max n k)) r l ((x.idx,m)::hs) rs ⟨ay x.dst v t,dfs,ctx,m'⟩) .fail)=_
 rw[hst]
 show b9 (aU x.idx l) (bi P S (ev P S (max n k)) r l ((x.idx,m)::hs) rs ⟨ay x.dst v t,dfs,ctx,m'⟩)=_
 rw[iA (bc (Nat.le_max_left n k)) _ _ _ _ _ _ hn];rfl
end
def oh (P:Program) (S:Nat->List NV->Option NV) (l:D4) (args:List NV) (m:NH) (x:CR):Prop:=x≠.fail/\∃n,round (ev P S n) l args m=x
section
variable {P:Program} {S:Nat->List NV->Option NV} {r:Option D4} {x:NOper} {l:List NOper} {hs:List (Nat×NH)} {rs:List (Nat×(NH->NR)×NV)} {t:Tm} {dfs:List Dfr} {ctx:Option NV} {m m':NH} {o:Out} {d1:Dyn} {v:NV} {q:D4} {args:List NV} {c:Option NV}
theorem dl.yld (hg:aj t x.guard=some true) (hop:ae x.op t m= .yld q args) (hc:oh P S q args m (.val v c m')) (h:dl P S r l ⟨ay x.dst v t,dfs,ctx,m'⟩ o d1):dl P S r (x::l) ⟨t,dfs,ctx,m⟩ o d1:=by
 obtain ⟨n,hn⟩:=h
 obtain ⟨hne,k,hk⟩:=hc
 refine ⟨max n k, ?_⟩
 rw[a8,hg,hop]
 show pU x.dst (bU P S (ev P S (max n k)) r l) t dfs ctx (nW dfs ctx (round (ev P S (max n k)) q args m))=_
 rw[dD (bc (Nat.le_max_right n k)) hk hne]
 exact eS (bc (Nat.le_max_left n k)) _ _ _ _ hn
theorem aY.yld (hg:aj t x.guard=some true) (hc:ai x.op= .eff) (ha:ahead x.pre hs=true) (hop:ae x.op t m= .yld q args) (hcall:oh P S q args m (.val v c m')) (hst:aK x.pre m' rs=true)
 (h:aY P S r l ((x.idx,m)::hs) rs ⟨ay x.dst v t,dfs,ctx,m'⟩ .norm d1):aY P S r (x::l) hs rs ⟨t,dfs,ctx,m⟩ .norm d1:=by
 obtain ⟨n,hn⟩:=h
 obtain ⟨hne,k,hk⟩:=hcall
 refine ⟨max n k, ?_⟩
 rw[bm,hg];dsimp only;rw[hc];dsimp only;rw[ha,hop]
 show b9 (aU x.idx l) (pU x.dst (fun d=>cond (aK x.pre d.h rs) (bi P S (ev P S (max n k)) r l ((x.idx,m)::hs) rs d) .fail) t dfs ctx (nW dfs ctx (round (ev P S (max n k)) q args m)))=_
 rw[dD (bc (Nat.le_max_right n k)) hk hne]
 show b9 (aU x.idx l) (cond (aK x.pre m' rs) (bi P S (ev P S (max n k)) r l ((x.idx,m)::hs) rs ⟨ay x.dst v t,dfs,ctx,m'⟩) .fail)=_
 rw[hst]
 show b9 (aU x.idx l) (bi P S (ev P S (max n k)) r l ((x.idx,m)::hs) rs ⟨ay x.dst v t,dfs,ctx,m'⟩)=_
 rw[iA (bc (Nat.le_max_left n k)) _ _ _ _ _ _ hn];rfl
end
section
variable {P:Program} {S:Nat->List NV->Option NV} {r:Option D4} {x:NOper} {l:List NOper} {hs:List (Nat×NH)} {rs:List (Nat×(NH->NR)×NV)} {L:List (D4×NV)} {t:Tm} {dfs:List Dfr} {ctx:Option NV} {m m':NH} {o:Out} {d1:Dyn} {v:NV} {k:D4}
theorem aY.p (hd:x.dst=some k) (hg:aj (ap L t) x.guard=some true) (hc:ai x.op= .pure) (hop:ae x.op (ap L t) m= .val v) (h:aY P S r l hs rs ⟨ap ((k,v)::L) t,dfs,ctx,m⟩ o d1):aY P S r (x::l) hs rs ⟨ap L t,dfs,ctx,m⟩ o d1:=
 aY.pure hg hc hop (by rw[hd];exact h)
theorem aY.e (hd:x.dst=some k) (hg:aj (ap L t) x.guard=some true) (hc:ai x.op= .eff) (ha:ahead x.pre hs=true) (hop:ae x.op (ap L t) m= .mem v m') (hst:aK x.pre m' rs=true)
 (h:aY P S r l ((x.idx,m)::hs) rs ⟨ap ((k,v)::L) t,dfs,ctx,m'⟩ .norm d1):aY P S r (x::l) hs rs ⟨ap L t,dfs,ctx,m⟩ .norm d1:=
 aY.eff hg hc ha hop hst (by rw[hd];exact h)
theorem aY.c {f:Nat} {args:List NV} {c:Option NV} (hd:x.dst=some k) (hg:aj (ap L t) x.guard=some true) (hc:ai x.op= .eff) (ha:ahead x.pre hs=true) (hop:ae x.op (ap L t) m= .call f args) (hcall:Call P S f args m (.val v c m')) (hst:aK x.pre m' rs=true)
 (h:aY P S r l ((x.idx,m)::hs) rs ⟨ap ((k,v)::L) t,dfs,ctx,m'⟩ .norm d1):aY P S r (x::l) hs rs ⟨ap L t,dfs,ctx,m⟩ .norm d1:=
 aY.call hg hc ha hop hcall hst (by rw[hd];exact h)
end
section
variable {t:Tm} {m:NH}
theorem iY {op:BinOp} (h:dj op=false):da .num op (.int k (.lit a)) (.int k (.lit b))=cc op k a b:=by
 show cond (dj op) (cc op k a b) (cond (rY k k) (cc op k a b) none)=_
 rw[show rY k k=true by cases k<;>rfl,h];rfl
theorem Cr :da .num .lss (.int k (.lit a)) (.int k (.lit b))=some (.bool (decide (a<b))):=
 (iY rfl).trans (by show bf (nX a b)=_;rw[eu,aJ])
theorem CK :da .num .leq (.int k (.lit a)) (.int k (.lit b))=some (.bool (decide (a<=b))):=
 (iY rfl).trans (by show bf (xI a b)=_;rw[ki,aJ])
theorem BN :da .num .gtr (.int k (.lit a)) (.int k (.lit b))=some (.bool (decide (b<a))):=
 (iY rfl).trans (by show bf (nX b a)=_;rw[eu,aJ])
theorem Dh :da .num .geq (.int k (.lit a)) (.int k (.lit b))=some (.bool (decide (b<=a))):=
 (iY rfl).trans (by show bf (xI b a)=_;rw[ki,aJ])
theorem DH :da .num .eql (.int k (.lit a)) (.int k (.lit b))=some (.bool (decide (a=b))):=
 (iY rfl).trans (by show bf (mE a b)=_;rw[cY,aJ];rfl)
theorem Db :da .num .neq (.int k (.lit a)) (.int k (.lit b))=some (.bool (decide (a≠b))):=
 (iY rfl).trans (by show bf (gH (mE a b))=_;rw[cY,aJ,db];by_cases h:a=b<;>simp[h])
theorem wrap_small {n:Int} (h:-9223372036854775808<=n) (h':n<9223372036854775808):bz .i64 n=n:=by
 cases n with
 |ofNat m=>
  show cond (Nat.ble (Nat.succ m) 9223372036854775808) (Int.ofNat m) _=_
  rw[Nat.ble_eq_true_of_le (by have:(m:Int)<9223372036854775808:=h';omega)];rfl
 |negSucc m=>
  show cond (Nat.ble (Nat.succ m) 9223372036854775808) (Int.negSucc m) _=_
  rw[Nat.ble_eq_true_of_le (by have:-9223372036854775808<=Int.negSucc m:=h;omega)];rfl
theorem DU  (h:-9223372036854775808<=a+b) (h':a+b<9223372036854775808):da .num .add (.int .i64 (.lit a)) (.int .i64 (.lit b))=some (.int .i64 (.lit (a+b))):=by
 refine (iY rfl).trans ?_
 show bG .i64 (bz .i64 (nY a b))=_
 have e:nY a b=a+b:=by cases a<;>cases b<;>rfl
 rw[e,wrap_small h h']
 exact ib _ _
end
end Nm
namespace Nm
open Go Go.RowKit
variable {l:List NOper} {m:NH} {v:NV} {x:NOper} {dfs:List Dfr} {f:Nat} {args:List NV} {Q:Out->Dyn->Prop}
section
variable {P:Program} {S:Nat->List NV->Option NV} {r:Option D4}
theorem dl.callp  {t:Tm} {ctx:Option NV} {m':NH} {c:Option NV} (hg:aj t x.guard=some true) (hop:ae x.op t m= .call f args)
 (hc:Call P S f args m (.pan v c m')):dl P S r (x::l) ⟨t,dfs,ctx,m⟩ (.pan v) ⟨t,dfs,ctx,m'⟩:=by
 obtain ⟨hne,k,hk⟩:=hc
 refine ⟨k, ?_⟩
 rw[a8,hg,hop]
 show pU x.dst (bU P S (ev P S k) r l) t dfs ctx (nW dfs ctx (bh P S (ev P S k) f args m))=_
 rw[hk];rfl
theorem b7.regDp  {d d1:Dyn} (h:aY P S r l [] [] d (.pan v) d1):b7 P S r (.regD l) d (.pan v) ⟨gD l d1.t,d1.dfs,d1.ctx,d1.h⟩:=by
 obtain ⟨n,hn⟩:=h
 refine ⟨n+1, ?_⟩
 show (match bi P S (ev P S n) r l [] [] d with| .mk (.pan v) d=>Res.mk (.pan v) ⟨gD l d.t,d.dfs,d.ctx,d.h⟩|r=>r)=_
 rw[hn]
theorem aY.callp  {rs:List (Nat×(NH->NR)×NV)} {t:Tm} {ctx:Option NV} {m':NH} {c:Option NV} (hg:aj t x.guard=some true) (hc:ai x.op= .eff) (hop:ae x.op t m= .call f args)
 (hb:aU x.idx l=true) (hcall:Call P S f args m (.pan v c m')):aY P S r (x::l) [] rs ⟨t,dfs,ctx,m⟩ (.pan v) ⟨t,dfs,ctx,m'⟩:=by
 obtain ⟨hne,k,hk⟩:=hcall
 refine ⟨k, ?_⟩
 rw[bm,hg];dsimp only;rw[hc];dsimp only;rw[hop]
 rw[show ahead x.pre []=true from rfl]
 show b9 (aU x.idx l) (pU x.dst (fun d=>cond (aK x.pre d.h rs) (bi P S (ev P S k) r l ((x.idx,m):: []) rs d) .fail) t dfs ctx (nW dfs ctx (bh P S (ev P S k) f args m)))=_
 rw[hk,hb];rfl
theorem dl.pan  {t:Tm} {ctx:Option NV} (hg:aj t x.guard=some true) (hop:ae x.op t m= .pan v):dl P S r (x::l) ⟨t,dfs,ctx,m⟩ (.pan v) ⟨t,dfs,ctx,m⟩:=by
 refine ⟨0, ?_⟩
 rw[a8,hg,hop];rfl
end
structure PE where
 p:Program
 E:NV->NH->Prop
instance:Coe Program PE:=⟨fun P=>⟨P,fun _ _=>False⟩⟩
def WF (P:PE) (S:Nat->List NV->Option NV) (f:Nat) (args:List NV) (m:NH) (K:NV->NH->Prop):Prop:=(∃v c m',Call P.p S f args m (.val v c m')/\K v m')∨∃v c m',Call P.p S f args m (.pan v c m')/\P.E v m'
def qE (P:PE) (Q:Out->Dyn->Prop) (o:Out) (d:Dyn):Prop:=match o with| .pan v=>d.dfs= []/\P.E v d.h|o=>Q o d
def qN (P:PE) (K:Dyn->Prop) (o:Out) (d:Dyn):Prop:=match o with| .norm=>K d| .pan v=>d.dfs= []/\P.E v d.h|_=>False
def iu (K:Dyn->Prop) (Q:Out->Dyn->Prop) (o:Out) (d:Dyn):Prop:=match o with| .norm=>K d|o=>Q o d
def jQ (i:Nat) (Q:Out->Dyn->Prop) (o:Out) (d:Dyn):Prop:=match o with| .exit j=>Q (if j=i then .norm else .exit j) d|o=>Q o d
def wB (o:Option NV) (A B:Prop):Prop:=match o with|some (.bool q)=>(q=true->A)/\(q=false->B)|_=>False
section
variable (P:PE) (S:Nat->List NV->Option NV) (r:Option D4)
def W (c:NC) (d:Dyn) (Q:Out->Dyn->Prop):Prop:=∃o d',b7 P.p S r c d o d'/\qE P Q o d'
def wN (dst:Option D4) (t:Tm) (dfs:List Dfr) (ctx:Option NV) (m:NH) (x:NR) (K:Dyn->Prop):Prop:=match x with
 | .val v=>K ⟨ay dst v t,dfs,ctx,m⟩
 | .mem v m'=>K ⟨ay dst v t,dfs,ctx,m'⟩
 | .call f args=>(match dfs with| []=>WF P S f args m fun v m'=>K ⟨ay dst v t, [],ctx,m'⟩|x::l=>WF P.p S f args m fun v m'=>K ⟨ay dst v t,x::l,ctx,m'⟩)
 | .yld q args=>∃v c m',oh P.p S q args m (.val v c m')/\K ⟨ay dst v t,dfs,ctx,m'⟩
 | .pan v=>(match dfs with| []=>P.E v m|_=>False)
 |_=>False
def Eh (dst:Option D4) (t:Tm) (dfs:List Dfr) (ctx:Option NV) (m:NH) (x:NR) (K:Dyn->Prop):Prop:=match x with
 | .val v=>K ⟨ay dst v t,dfs,ctx,m⟩
 | .mem v m'=>K ⟨ay dst v t,dfs,ctx,m'⟩
 | .call f args=>WF P.p S f args m fun v m'=>K ⟨ay dst v t,dfs,ctx,m'⟩
 | .yld q args=>∃v c m',oh P.p S q args m (.val v c m')/\K ⟨ay dst v t,dfs,ctx,m'⟩
 |_=>False
noncomputable def kG (hs:List (Nat×NH)) (i:Nat) (l:List NOper):Bool:=match hs with| []=>aU i l|_=>false
def Fj (b:Bool) (dst:Option D4) (t:Tm) (dfs:List Dfr) (ctx:Option NV) (m:NH) (x:NR) (K:Dyn->Prop):Prop:=match b,x with
 |true,.call f args=>wN P S dst t dfs ctx m (.call f args) K
 |_,x=>Eh P S dst t dfs ctx m x K
def wO:List NOper->Dyn->(Dyn->Prop)->Prop
 | [],d,K=>K d
 |x::l,d,K=>match aj d.t x.guard with
  |some true=>wN P S x.dst d.t d.dfs d.ctx d.h (ae x.op d.t d.h) fun d=>wO l d K
  |some false=>wO l ⟨ay x.dst aA d.t,d.dfs,d.ctx,d.h⟩ K
  |none=>False
def wD:List NOper->List (Nat×NH)->List (Nat×(NH->NR)×NV)->Dyn->(Dyn->Prop)->Prop
 | [],_,_,d,K=>K d
 |x::l,hs,rs,d,K=>match aj d.t x.guard with
  |some true=>(match ai x.op with
   | .pure=>(match ae x.op d.t d.h with| .val v=>wD l hs rs ⟨ay x.dst v d.t,d.dfs,d.ctx,d.h⟩ K|_=>False)
   | .alloc=>ahead x.pre hs=true/\(match ae x.op d.t d.h with| .mem v m'=>wD l hs rs ⟨ay x.dst v d.t,d.dfs,d.ctx,m'⟩ K|_=>False)
   | .read=>(match ae x.op d.t d.h with| .val v=>c8 x.pre (ae x.op d.t) v hs=true/\wD l hs ((x.idx,ae x.op d.t,v)::rs) ⟨ay x.dst v d.t,d.dfs,d.ctx,d.h⟩ K|_=>False)
   | .eff=>ahead x.pre hs=true/\Fj P S (kG hs x.idx l) x.dst d.t d.dfs d.ctx d.h (ae x.op d.t d.h) fun d'=>aK x.pre d'.h rs=true/\wD l ((x.idx,d.h)::hs) rs d' K)
  |some false=>wD l hs rs ⟨ay x.dst aA d.t,d.dfs,d.ctx,d.h⟩ K
  |none=>False
def wp:NC->Dyn->(Out->Dyn->Prop)->Prop
 | .skip,d,Q=>Q .norm d
 | .ret,d,Q=>Q .ret d
 | .exit i,d,Q=>Q (.exit i) d
 | .seq a b,d,Q=>wp a d (iu (fun d=>wp b d Q) Q)
 | .cond g a b,d,Q=>wB (ρ d.t g) (wp a d Q) (wp b d Q)
 | .block i a,d,Q=>wp a d (jQ i Q)
 | .reg l,d,Q=>wO P S l d (Q .norm)
 | .regD l,d,Q=>wD P S l [] [] d (Q .norm)
 | .loop a,d,Q=>W P S r (.loop a) d Q
 | .rangeFunc f ps a b,d,Q=>W P S r (.rangeFunc f ps a b) d Q
end
section
variable {P:PE} {S:Nat->List NV->Option NV} {r:Option D4}
theorem WF.ret' {P:Program} {K:NV->NH->Prop} (h:WF P S f args m K):∃v c m',Call P S f args m (.val v c m')/\K v m':=by
 rcases h with h|⟨_,_,_,_,h⟩
 ·exact h
 ·exact h.elim
theorem t9:∀(l:List NOper) (d:Dyn) (K:Dyn->Prop),wO P S l d K->∃o d',dl P.p S r l d o d'/\qN P K o d':=by
 intro l
 induction l with
 |nil=>exact fun d K h=>⟨_,d,dl.nil d,h⟩
 |cons x l ih=>
  rintro ⟨t,dfs,ctx,m⟩ K h
  unfold wO at h
  dsimp only at h
  split at h
  ·rename_i hg
   cases hop:ae x.op t m with
   |val v=>rw[hop] at h;obtain ⟨o,d',h1,h2⟩:=ih _ _ h;exact ⟨o,d',dl.val hg hop h1,h2⟩
   |mem v m'=>rw[hop] at h;obtain ⟨o,d',h1,h2⟩:=ih _ _ h;exact ⟨o,d',dl.mem hg hop h1,h2⟩
   |call f args=>
    rw[hop] at h
    cases dfs with
    |nil=>
     rcases h with ⟨v,c,m',hc,h⟩|⟨v,c,m',hc,h⟩
     ·obtain ⟨o,d',h1,h2⟩:=ih _ _ h
      exact ⟨o,d',dl.call hg hop hc h1,h2⟩
     ·exact ⟨_,_,dl.callp hg hop hc,rfl,h⟩
    |cons y dfs=>
     obtain ⟨v,c,m',hc,h⟩:=WF.ret' h
     obtain ⟨o,d',h1,h2⟩:=ih _ _ h
     exact ⟨o,d',dl.call hg hop hc h1,h2⟩
   |yld q args=>
    rw[hop] at h
    obtain ⟨v,c,m',hc,h⟩:=h
    obtain ⟨o,d',h1,h2⟩:=ih _ _ h
    exact ⟨o,d',dl.yld hg hop hc h1,h2⟩
   |pan v=>
    rw[hop] at h
    cases dfs with
    |nil=>exact ⟨_,_,dl.pan hg hop,rfl,h⟩
    |cons=>exact h.elim
   |_=>rw[hop] at h;exact h.elim
  ·rename_i hg
   obtain ⟨o,d',h1,h2⟩:=ih _ _ h;exact ⟨o,d',dl.off hg h1,h2⟩
  ·exact h.elim
theorem uE:∀(l:List NOper) (hs:List (Nat×NH)) (rs:List (Nat×(NH->NR)×NV)) (d:Dyn) (K:Dyn->Prop),wD P S l hs rs d K->∃o d',aY P.p S r l hs rs d o d'/\qN P K o d'/\(o= .norm∨hs= []):=by
 intro l
 induction l with
 |nil=>exact fun hs rs d K h=>⟨_,d,aY.nil d,h,Or.inl rfl⟩
 |cons x l ih=>
  rintro hs rs ⟨t,dfs,ctx,m⟩ K h
  unfold wD at h
  dsimp only at h
  split at h
  ·rename_i hg
   split at h
   ·rename_i hcl
    cases hop:ae x.op t m with
    |val v=>rw[hop] at h;obtain ⟨o,d',h1,h2,h3⟩:=ih _ _ _ _ h;exact ⟨o,d',aY.pure hg hcl hop h1,h2,h3⟩
    |_=>rw[hop] at h;exact h.elim
   ·rename_i hcl
    obtain ⟨ha,h⟩:=h
    cases hop:ae x.op t m with
    |mem v m'=>rw[hop] at h;obtain ⟨o,d',h1,h2,h3⟩:=ih _ _ _ _ h;exact ⟨o,d',aY.alloc hg hcl ha hop h1,h2,h3⟩
    |_=>rw[hop] at h;exact h.elim
   ·rename_i hcl
    cases hop:ae x.op t m with
    |val v=>rw[hop] at h;obtain ⟨ha,h⟩:=h;obtain ⟨o,d',h1,h2,h3⟩:=ih _ _ _ _ h;exact ⟨o,d',aY.read hg hcl hop ha h1,h2,h3⟩
    |_=>rw[hop] at h;exact h.elim
   ·rename_i hcl
    obtain ⟨ha,h⟩:=h
    have fin:∀{a:Nat×NH} {o:Out},o= .norm∨a::hs= []->o= .norm:=fun h=>h.elim id fun h=>by cases h
    cases hop:ae x.op t m with
    |val v=>
     rw[hop] at h
     have h:Eh P S x.dst t dfs ctx m (.val v) (fun d'=>aK x.pre d'.h rs=true/\wD P S l ((x.idx,m)::hs) rs d' K):=by cases he:kG hs x.idx l<;>rw[he] at h<;>exact h
     obtain ⟨hst,h⟩:=h
     obtain ⟨o,d',h1,h2,h3⟩:=ih _ _ _ _ h
     obtain rfl:=fin h3
     exact ⟨_,d',aY.effv hg hcl ha hop hst h1,h2,Or.inl rfl⟩
    |mem v m'=>
     rw[hop] at h
     have h:Eh P S x.dst t dfs ctx m (.mem v m') (fun d'=>aK x.pre d'.h rs=true/\wD P S l ((x.idx,m)::hs) rs d' K):=by cases he:kG hs x.idx l<;>rw[he] at h<;>exact h
     obtain ⟨hst,h⟩:=h
     obtain ⟨o,d',h1,h2,h3⟩:=ih _ _ _ _ h
     obtain rfl:=fin h3
     exact ⟨_,d',aY.eff hg hcl ha hop hst h1,h2,Or.inl rfl⟩
    |call f args=>
     rw[hop] at h
     have key:WF P.p S f args m (fun v m'=>aK x.pre m' rs=true/\wD P S l ((x.idx,m)::hs) rs ⟨ay x.dst v t,dfs,ctx,m'⟩ K)∨(hs= []/\dfs= []/\aU x.idx l=true/\WF P S f args m (fun v m'=>aK x.pre m' rs=true/\wD P S l ((x.idx,m)::hs) rs ⟨ay x.dst v t,dfs,ctx,m'⟩ K)):=by
      cases he:kG hs x.idx l with
      |false=>rw[he] at h;exact Or.inl h
      |true=>
       rw[he] at h
       cases hs with
       |cons a hs=>cases he
       |nil=>
        cases dfs with
        |nil=>exact Or.inr ⟨rfl,rfl,he,h⟩
        |cons y dfs=>exact Or.inl h
     have go:∀{v:NV} {c:Option NV} {m':NH},Call P.p S f args m (.val v c m')->aK x.pre m' rs=true/\wD P S l ((x.idx,m)::hs) rs ⟨ay x.dst v t,dfs,ctx,m'⟩ K->∃o d',aY P.p S r (x::l) hs rs ⟨t,dfs,ctx,m⟩ o d'/\qN P K o d'/\(o= .norm∨hs= []):=by
      rintro v c m' hc ⟨hst,h⟩
      obtain ⟨o,d',h1,h2,h3⟩:=ih _ _ _ _ h
      obtain rfl:=fin h3
      exact ⟨_,d',aY.call hg hcl ha hop hc hst h1,h2,Or.inl rfl⟩
     rcases key with h|⟨rfl,rfl,hb,⟨v,c,m',hc,h⟩|⟨v,c,m',hc,h⟩⟩
     ·obtain ⟨v,c,m',hc,h⟩:=WF.ret' h
      exact go hc h
     ·exact go hc h
     ·exact ⟨_,_,aY.callp hg hcl hop hb hc,⟨rfl,h⟩,Or.inr rfl⟩
    |yld q args=>
     rw[hop] at h
     have h:Eh P S x.dst t dfs ctx m (.yld q args) (fun d'=>aK x.pre d'.h rs=true/\wD P S l ((x.idx,m)::hs) rs d' K):=by cases he:kG hs x.idx l<;>rw[he] at h<;>exact h
     obtain ⟨v,c,m',hc,hst,h⟩:=h
     obtain ⟨o,d',h1,h2,h3⟩:=ih _ _ _ _ h
     obtain rfl:=fin h3
     exact ⟨_,d',aY.yld hg hcl ha hop hc hst h1,h2,Or.inl rfl⟩
    |_=>rw[hop] at h;cases he:kG hs x.idx l<;>rw[he] at h<;>exact h.elim
  ·rename_i hg
   obtain ⟨o,d',h1,h2,h3⟩:=ih _ _ _ _ h;exact ⟨o,d',aY.off hg h1,h2,h3⟩
  ·exact h.elim
theorem bu:∀(c:NC) (d:Dyn) (Q:Out->Dyn->Prop),wp P S r c d Q->W P S r c d Q:=by
 intro c
 induction c with
 |skip=>exact fun d Q h=>⟨_,_,b7.skip d,h⟩
 |ret=>exact fun d Q h=>⟨_,_,b7.ret d,h⟩
 |exit i=>exact fun d Q h=>⟨_,_,b7.exit i d,h⟩
 |seq a b iha ihb=>
  intro d Q h
  obtain ⟨o,d1,h1,h2⟩:=iha _ _ h
  cases o with
  |norm=>obtain ⟨o,d2,h3,h4⟩:=ihb _ _ h2;exact ⟨o,d2,b7.seq h1 h3,h4⟩
  |_=>exact ⟨_,_,b7.seq_out h1 (by simp),h2⟩
 |cond g a b iha ihb=>
  intro d Q h
  unfold wp wB at h
  split at h
  ·rename_i q hq
   cases q with
   |true=>obtain ⟨o,d1,h1,h2⟩:=iha _ _ (h.1 rfl);exact ⟨o,d1,b7.cond hq (by simpa using h1),h2⟩
   |false=>obtain ⟨o,d1,h1,h2⟩:=ihb _ _ (h.2 rfl);exact ⟨o,d1,b7.cond hq (by simpa using h1),h2⟩
  ·exact h.elim
 |block i a iha=>
  intro d Q h
  obtain ⟨o,d1,h1,h2⟩:=iha _ _ h
  refine ⟨_,d1,b7.block h1, ?_⟩
  cases o with
  |exit j=>
   dsimp only
   change Q (if j=i then .norm else .exit j) d1 at h2
   by_cases e:j=i
   ·subst e;rw[FA rfl] at h2;rw[Nat.beq_refl];exact h2
   ·rw[Fz e] at h2
    rw[show Nat.beq j i=false from by cases hb:Nat.beq j i with|false=>rfl|true=>exact Fy (FF hb) e];exact h2
  |_=>exact h2
 |reg l=>
  intro d Q h
  obtain ⟨o,d',h1,h2⟩:=t9 (r:=r) _ _ _ h
  cases o with
  |norm=>exact ⟨_,_,b7.reg h1,h2⟩
  |pan v=>exact ⟨_,_,b7.reg h1,h2⟩
  |_=>exact h2.elim
 |regD l=>
  intro d Q h
  obtain ⟨o,d',h1,h2,h3⟩:=uE (r:=r) _ _ _ _ _ h
  cases o with
  |norm=>exact ⟨_,_,b7.regD h1,h2⟩
  |pan v=>exact ⟨_,_,b7.regDp h1,h2⟩
  |_=>exact h2.elim
 |loop a _=>exact fun d Q h=>h
 |rangeFunc f ps a b _ _=>exact fun d Q h=>h
theorem W.loop {c:NC} (I:Nat->Dyn->Prop) (h:∀k d,I k d->W P S r c d (fun o d'=>match o with| .norm=>∃j,j<k/\I j d'|o=>Q o d')):∀k d,I k d->W P S r (.loop c) d Q:=by
 intro k
 induction k using Nat.strongRecOn with
 |ind k ih=>
  intro d hd
  obtain ⟨o,d',h1,h2⟩:=h k d hd
  cases o with
  |norm=>
   obtain ⟨j,hj,hI⟩:=h2
   obtain ⟨o,d2,h3,h4⟩:=ih j hj d' hI
   exact ⟨o,d2,b7.loop h1 h3,h4⟩
  |_=>exact ⟨_,_,b7.loop_out h1 (by simp),h2⟩
theorem W.mono {c:NC} {d:Dyn} {Q':Out->Dyn->Prop} (h:W P S r c d Q) (hq:∀o d,Q o d->Q' o d):W P S r c d Q':=by
 obtain ⟨o,d',h1,h2⟩:=h
 refine ⟨o,d',h1, ?_⟩
 cases o with
 |pan v=>exact h2
 |_=>exact hq _ _ h2
end
end Nm
namespace Nm
open Go Go.RowKit
variable {x:NOpd} {i:Nat} {o:Option NV}
section
variable {P:PE} {S:Nat->List NV->Option NV} {r:Option D4} {dst:Option D4} {op:NOp} {pre idx:Nat} {l:List NOper} {hs:List (Nat×NH)} {rs:List (Nat×(NH->NR)×NV)}
 {L:List (D4×NV)} {t:Tm} {dfs:List Dfr} {ctx:Option NV} {m m':NH} {v:NV} {k k':D4} {d:Dyn} {Q:Out->Dyn->Prop} {K:Dyn->Prop} {A B:Prop}
theorem xP:wp P S r .skip d Q=Q .norm d:=_root_.id rfl
theorem BZ:wp P S r .ret d Q=Q .ret d:=_root_.id rfl
theorem zM :wp P S r (.exit i) d Q=Q (.exit i) d:=_root_.id rfl
theorem wb  {a:NC}:wp P S r (.block i a) d Q=wp P S r a d (jQ i Q):=_root_.id rfl
theorem CJ:wp P S r (.reg l) d Q=wO P S l d (Q .norm):=_root_.id rfl
theorem yF:wp P S r (.regD l) d Q=wD P S l [] [] d (Q .norm):=_root_.id rfl
theorem zD {a:NC}:wp P S r (.loop a) d Q=W P S r (.loop a) d Q:=_root_.id rfl
theorem yT:iu K Q .norm d=K d:=_root_.id rfl
theorem yA:iu K Q .ret d=Q .ret d:=_root_.id rfl
theorem wc :iu K Q (.exit i) d=Q (.exit i) d:=_root_.id rfl
theorem vv :jQ i Q .norm d=Q .norm d:=_root_.id rfl
theorem yv :jQ i Q .ret d=Q .ret d:=_root_.id rfl
theorem vY  {j:Nat}:jQ i Q (.exit j) d=Q (if j=i then .norm else .exit j) d:=_root_.id rfl
theorem DD:wO P S [] d K=K d:=_root_.id rfl
def wX (c:Cls) (x:NR) (P:PE) (S:Nat->List NV->Option NV) (f:NH->NR) (dst:Option D4) (pre idx:Nat) (l:List NOper) (hs:List (Nat×NH)) (rs:List (Nat×(NH->NR)×NV)) (d:Dyn) (K:Dyn->Prop):Prop:=
 match c with
 | .pure=>(match x with| .val v=>wD P S l hs rs ⟨ay dst v d.t,d.dfs,d.ctx,d.h⟩ K|_=>False)
 | .alloc=>ahead pre hs=true/\(match x with| .mem v m'=>wD P S l hs rs ⟨ay dst v d.t,d.dfs,d.ctx,m'⟩ K|_=>False)
 | .read=>(match x with| .val v=>c8 pre f v hs=true/\wD P S l hs ((idx,f,v)::rs) ⟨ay dst v d.t,d.dfs,d.ctx,d.h⟩ K|_=>False)
 | .eff=>ahead pre hs=true/\Fj P S (kG hs idx l) dst d.t d.dfs d.ctx d.h x fun d'=>aK pre d'.h rs=true/\wD P S l ((idx,d.h)::hs) rs d' K
theorem AJ:wD P S [] hs rs d K=K d:=_root_.id rfl
theorem xw:wD P S (⟨dst,op,none,pre,idx⟩::l) hs rs ⟨ap L t,dfs,ctx,m⟩ K=wX (ai op) (ae op (ap L t) m) P S (ae op (ap L t)) dst pre idx l hs rs ⟨ap L t,dfs,ctx,m⟩ K:=by
 cases h:ai op<;>simp only[wD,aj,h,wX]<;>cases ae op (ap L t) m<;>rfl
section
variable {f:NH->NR}
theorem wq:wX .pure (.val v) P S f (some k) pre idx l hs rs ⟨ap L t,dfs,ctx,m⟩ K=wD P S l hs rs ⟨ap ((k,v)::L) t,dfs,ctx,m⟩ K:=_root_.id rfl
theorem uH:wX .alloc (.mem v m') P S f (some k) pre idx l hs rs ⟨ap L t,dfs,ctx,m⟩ K=(ahead pre hs=true/\wD P S l hs rs ⟨ap ((k,v)::L) t,dfs,ctx,m'⟩ K):=_root_.id rfl
theorem xf:wX .read (.val v) P S f (some k) pre idx l hs rs ⟨ap L t,dfs,ctx,m⟩ K=(c8 pre f v hs=true/\wD P S l hs ((idx,f,v)::rs) ⟨ap ((k,v)::L) t,dfs,ctx,m⟩ K):=_root_.id rfl
theorem tG:c8 pre f v []=true:=_root_.id rfl
theorem tD:ahead pre []=true:=_root_.id rfl
theorem uS:aK pre m []=true:=_root_.id rfl
end
theorem CU:NT.get k (ap L t)=d8 k L (NT.get k t):=fo k L t
theorem CN:ρ (ap L t) (.tmp k)=d8 k L (NT.get k t):=fo k L t
theorem vu:ρ t (.const v)=some v:=_root_.id rfl
theorem xn :d8 k [] o=o:=_root_.id rfl
theorem zJ :d8 k ((k',v)::L) o=cond (aP k k') (some v) (d8 k L o):=_root_.id rfl
theorem En:aP .e .e=true:=_root_.id rfl
theorem Et:aP .e (.a k)=false:=_root_.id rfl
theorem EX:aP .e (.b k)=false:=_root_.id rfl
theorem EJ:aP .e (.c k)=false:=_root_.id rfl
theorem EU:aP .e (.f k)=false:=_root_.id rfl
theorem EV:aP (.a k) .e=false:=_root_.id rfl
theorem EH:aP (.a k) (.a k')=aP k k':=_root_.id rfl
theorem Fi:aP (.a k) (.b k')=false:=_root_.id rfl
theorem EQ:aP (.a k) (.c k')=false:=_root_.id rfl
theorem E0:aP (.a k) (.f k')=false:=_root_.id rfl
theorem Ff:aP (.b k) .e=false:=_root_.id rfl
theorem EA:aP (.b k) (.a k')=false:=_root_.id rfl
theorem Fc:aP (.b k) (.b k')=aP k k':=_root_.id rfl
theorem Fh:aP (.b k) (.c k')=false:=_root_.id rfl
theorem Ey:aP (.b k) (.f k')=false:=_root_.id rfl
theorem Ep:aP (.c k) .e=false:=_root_.id rfl
theorem E5:aP (.c k) (.a k')=false:=_root_.id rfl
theorem Es:aP (.c k) (.b k')=false:=_root_.id rfl
theorem Fq:aP (.c k) (.c k')=aP k k':=_root_.id rfl
theorem EF:aP (.c k) (.f k')=false:=_root_.id rfl
theorem Fe:aP (.f k) .e=false:=_root_.id rfl
theorem EB:aP (.f k) (.a k')=false:=_root_.id rfl
theorem EN:aP (.f k) (.b k')=false:=_root_.id rfl
theorem ED:aP (.f k) (.c k')=false:=_root_.id rfl
theorem ES:aP (.f k) (.f k')=aP k k':=_root_.id rfl
end
def oN (o:Option NV) (K:NV->NR):NR:=match o with|some v=>K v|none=> .fail
theorem Eo {v:NV} {K:NV->NR}:oN (some v) K=K v:=_root_.id rfl
theorem bn {t:Tm} {K:NV->NR}:wV t x K=oN (ρ t x) K:=by
 unfold wV oN;cases ρ t x<;>rfl
theorem EI {v:NV}:vr (some v)= .val v:=_root_.id rfl
def zZ (v:NV):NR:=match v with| .slc _ _ n _ _=> .val (.int .i64 (.lit (.ofNat n)))| .nils=> .val (.int .i64 (.lit (.ofNat 0)))|_=> .fail
def ud (n:Nat) (s i:NV):NR:=match s,i with| .slc id off len _ _,.int _ (.lit (.ofNat i))=>if i<len then .val (.ptr id (off+i*n)) else .fail|_,_=> .fail
noncomputable def xz (m:NH) (p:NV):NR:=match p with| .ptr id off=>(match m.get id with|some (.cells _ c)=>oN c[off]? .val|_=> .fail)|_=> .fail
noncomputable def vB (n:Nat) (m:NH) (p:NV):NR:=match p with| .ptr id off=>(match m.get id with|some (.cells _ c)=>if off+n<=c.length then .val (.agg ((c.drop off).take n)) else .fail|_=> .fail)|_=> .fail
def CD (k:Nat) (p:NV):NR:=match p with| .ptr id off=> .val (.ptr id (off+k))|_=> .fail
def DQ (k:Nat) (a:NV):NR:=match a with| .agg l=>oN l[k]? .val|_=> .fail
section
variable {t:Tm} {m:NH}
theorem zQ :ae (.move x) t m=oN (ρ t x) .val:=bn
theorem Dz {c:BC} {op:BinOp} {y:NOpd}:ae (.bin c op x y) t m=oN (ρ t x) fun a=>oN (ρ t y) fun b=>vr (da c op a b):=by
 show wV t x (fun a=>wV t y fun b=>vr (da c op a b))=_
 simp only[bn]
theorem ER {u:UnOp}:ae (.un u x) t m=oN (ρ t x) fun v=>vr (El u v):=bn
theorem BL :ae (.lenSlc x) t m=oN (ρ t x) zZ:=by
 show wV t x _=_
 rw[bn];cases ρ t x with
 |none=>rfl
 |some v=>cases v<;>rfl
theorem DE {n:Nat} {i:NOpd}:ae (.indexSlc n x i) t m=oN (ρ t x) fun s=>oN (ρ t i) fun i=>ud n s i:=by
 show wV t x (fun v=>dk t i fun i=>match v with
  | .slc id off len _ _=>cond (Nat.ble (Nat.succ i) len) (ak (Nat.add off (Nat.mul i n)) fun o=> .val (.ptr id o)) .fail
  |_=> .fail)=_
 unfold dk
 simp only[bn]
 cases ρ t x with
 |none=>rfl
 |some s=>
  show oN (ρ t i) _=oN (ρ t i) _
  cases ρ t i with
  |none=>rfl
  |some j=>
   show aC (iK j) _=ud n s j
   cases j with
   |int k z=>
    cases z with
    |lit z=>
     cases z with
     |ofNat q=>
      cases s with
      |slc id off len e kc=>
       show cond (Nat.ble (Nat.succ q) len) (ak (Nat.add off (Nat.mul q n)) fun o=>NR.val (.ptr id o)) .fail=if q<len then _ else _
       rw[af]
       by_cases hq:q<len
       ·rw[FA hq,Nat.ble_eq_true_of_le hq];rfl
       ·rw[Fz hq,show Nat.ble (Nat.succ q) len=false from by cases hb:Nat.ble (Nat.succ q) len with|false=>rfl|true=>exact Fy (Nat.le_of_ble_eq_true hb) hq];rfl
      |_=>rfl
     |negSucc q=>cases s<;>rfl
   |_=>cases s<;>rfl
theorem Dy :ae (.load1 x) t m=oN (ρ t x) (xz m):=by
 show wV t x (fun a=>match a with| .ptr id off=>bo m id fun c=>aC (eR c off) .val|_=> .fail)=_
 rw[bn]
 cases ρ t x with
 |none=>rfl
 |some v=>
  cases v with
  |ptr id off=>
   show bo m id (fun c=>aC (eR c off) .val)=xz m (.ptr id off)
   unfold bo xz
   dsimp only
   split<;>rename_i hm
   ·rw[hm];dsimp only;rw[cL];cases (_:List NV)[off]? <;>rfl
   ·split<;>rename_i h2
    ·exact Fy h2 (hm _ _)
    ·rfl
  |_=>rfl
theorem CY {k:Nat}:ae (.fieldAddr k x) t m=oN (ρ t x) (CD k):=by
 show wV t x (fun v=>match v with| .ptr id o=>ak (Nat.add o k) fun o=> .val (.ptr id o)|_=> .fail)=_
 rw[bn]
 cases ρ t x with
 |none=>rfl
 |some v=>cases v<;>first|rfl|exact af (R:=NR) _ (fun o=> .val (.ptr _ o))
theorem Dv {k off:Nat} {id:D4}:CD k (.ptr id off)= .val (.ptr id (off+k)):=_root_.id rfl
end
theorem BI {b:Bool}:El .not (.bool b)=some (.bool (!b)):=by cases b<;>rfl
end Nm
namespace Nm
open Go Go.RowKit
def rK (o:Option NV) (K:NV->Prop):Prop:=match o with|some v=>K v|none=>False
def wW (rs:List NRes) (K:NV->NH->Prop) (o:Out) (d:Dyn):Prop:=(o= .norm∨o= .ret)/\d.dfs= []/\∃v,bE d.h d.t rs .fail (fun l=> .val (ez l) d.ctx d.h)= .val v d.ctx d.h/\K v d.h
section
variable {P:Program} {S:Nat->List NV->Option NV} {L:List (D4×NV)} {t:Tm} {ctx:Option NV} {m:NH} {K:NV->NH->Prop} {k k1 k2 k3:D4}
theorem EL {v:NV} {K:NV->Prop}:rK (some v) K=K v:=_root_.id rfl
theorem Call.of_pan {P:Program} {f:Nat} {nf:NFun} (hs:∀l,S f l=none) (hf:av P f=some (.code nf)) {args:List NV} {m:NH} {v:NV} {d:Dyn} (h:b7 P S none nf.body ⟨bJ args 0 .leaf, [],none,m⟩ (.pan v) d) (hd:d.dfs= []):Call P S f args m (.pan v d.ctx d.h):=by
 obtain ⟨n,hn⟩:=h
 refine ⟨by simp,n, ?_⟩
 unfold bh
 rw[hs]
 dsimp only
 rw[hf]
 dsimp only
 rw[bV,hf]
 dsimp only
 rw[hn]
 dsimp only
 rw[hd];rfl
theorem WF.of_wp {P:Program} {E:NV->NH->Prop} (hs:∀f l,S f l=none) {f:Nat} {nf:NFun} (hf:av P f=some (.code nf)) {args:List NV} {K:NV->NH->Prop} (hL:bJ args 0 .leaf=ap L .leaf)
 (h:wp ⟨P,E⟩ S none nf.body ⟨ap L .leaf, [],none,m⟩ (wW nf.results K)):WF ⟨P,E⟩ S f args m K:=by
 obtain ⟨o,d,h1,h2⟩:=bu _ _ _ h
 rw[←hL] at h1
 cases o with
 |pan v=>exact Or.inr ⟨v,d.ctx,d.h,Call.of_pan (hs f) hf h1 h2.1,h2.2⟩
 |_=>
  obtain ⟨ho,hd,v,hv,hK⟩:=h2
  exact Or.inl ⟨v,d.ctx,d.h,Call.of_run (hs f) hf ho h1 hd hv (by simp),hK⟩
end
end Nm
namespace Nm
open Go Go.RowKit
variable {m:NH} {d:Option NO} {i j:Nat} {S:List D4} {K E:NV->NH->Prop}
def na (m:NH) (j:Nat):D4:=D4.of (m.next.toNat+j)
def aI (m:NH) (id:D4):Prop:=id.toNat<m.next.toNat
instance (m:NH) (id:D4):Decidable (aI m id):=inferInstanceAs (Decidable (_<_))
inductive AK where
 |n (j:Nat)
 |o (id:D4)
variable {l:List (AK×NO)}
noncomputable def nU (m:NH):List (AK×NO)->NT NO
 | []=>m.m
 |(.n j,x)::l=>NT.put (na m j) x (nU m l)
 |(.o id,x)::l=>if aI m id then NT.put id x (nU m l) else nU m l
noncomputable def hp (l:List (AK×NO)) (k:Nat) (m:NH):NH:=⟨nU m l,na m k⟩
def fE (j:Nat):List (AK×NO)->Option NO->Option NO
 | [],d=>d
 |(.n i,x)::l,d=>if j=i then some x else fE j l d
 |(.o _,_)::l,d=>fE j l d
noncomputable def eU (id:D4):List (AK×NO)->Option NO->Option NO
 | [],d=>d
 |(.n _,_)::l,d=>eU id l d
 |(.o i,x)::l,d=>@ite _ (id=i) (Classical.propDecidable _) (some x) (eU id l d)
theorem jC  (h:na m i=na m j):i=j:=by
 have:=D4.of_inj h;omega
theorem eI :(na m i=na m j)=(i=j):=propext ⟨jC,fun h=>by rw[h]⟩
theorem yd (m:NH) (k:Nat):(na m k).nxt=na m (k+1):=by
 apply D4.toNat_inj
 rw[D4.toNat_nxt];unfold na;rw[D4.toNat_of,D4.toNat_of];omega
theorem qK (m:NH):na m 0=m.next:=D4.of_toNat _
theorem ag (m:NH):hp [] 0 m=m:=by
 show NH.mk m.m (na m 0)=m
 rw[qK]
theorem aI.ne  {id:D4} (h:aI m id) (j:Nat):id≠na m j:=by
 intro e
 unfold aI at h
 rw[e] at h;unfold na at h;rw[D4.toNat_of] at h;omega
section
variable {m:NH} {l:List (AK×NO)} {k j:Nat} {o:NO} {id:D4}
theorem ym:(hp l k m).next=na m k:=_root_.id rfl
theorem tz:(hp l k m).add o=hp ((.n k,o)::l) (k+1) m:=by
 show NH.mk (NT.put (na m k) o (nU m l)) (na m k).nxt=NH.mk (NT.put (na m k) o (nU m l)) (na m (k+1))
 rw[yd]
theorem yp:(hp l k m).put (na m j) o=hp ((.n j,o)::l) k m:=_root_.id rfl
theorem my (h:aI m id):(hp l k m).put id o=hp ((.o id,o)::l) k m:=by
 show NH.mk (NT.put id o (nU m l)) (na m k)=NH.mk (if aI m id then NT.put id o (nU m l) else nU m l) (na m k)
 rw[FA h]
theorem cX:(hp l k m).get (na m j)=fE j l (m.get (na m j)):=by
 show NT.get (na m j) (nU m l)=_
 induction l with
 |nil=>rfl
 |cons p l ih=>
  obtain ⟨a,x⟩:=p
  cases a with
  |n i=>
   show NT.get (na m j) (NT.put (na m i) x (nU m l))=if j=i then some x else fE j l _
   split
   ·rename_i h;rw[h];exact NT.get_put_same _ _ _
   ·rename_i h;rw[NT.get_put_ne (fun e=>h (jC e))];exact ih
  |o i=>
   show NT.get (na m j) (if aI m i then NT.put i x (nU m l) else nU m l)=fE j l _
   split
   ·rename_i h;rw[NT.get_put_ne (fun e=>h.ne j e.symm)];exact ih
   ·exact ih
theorem cp (h:aI m id):(hp l k m).get id=eU id l (m.get id):=by
 show NT.get id (nU m l)=_
 induction l with
 |nil=>rfl
 |cons p l ih=>
  obtain ⟨a,x⟩:=p
  cases a with
  |n i=>
   show NT.get id (NT.put (na m i) x (nU m l))=eU id l _
   rw[NT.get_put_ne (h.ne _)];exact ih
  |o i=>
   show NT.get id (if aI m i then NT.put i x (nU m l) else nU m l)=@ite _ (id=i) (Classical.propDecidable _) (some x) (eU id l _)
   by_cases e:id=i
   ·rw[FA e,←e,FA h];exact NT.get_put_same _ _ _
   ·rw[Fz e]
    split
    ·rw[NT.get_put_ne e];exact ih
    ·exact ih
theorem uo :fE j ((.n i,o)::l) d=if j=i then some o else fE j l d:=_root_.id rfl
theorem uy {i:D4}:fE j ((.o i,o)::l) d=fE j l d:=_root_.id rfl
theorem tZ :eU id [] d=d:=_root_.id rfl
theorem mV :eU id ((.n i,o)::l) d=eU id l d:=_root_.id rfl
theorem bB :eU id ((.o id,o)::l) d=some o:=FA rfl
theorem jA {i:D4} (h:id≠i):eU id ((.o i,o)::l) d=eU id l d:=Fz h
end
structure Chg (S:List D4) (m m':NH):Prop where
 next:m.next.toNat<=m'.next.toNat
 get:∀{id},aI m id->id∉S->m'.get id=m.get id
theorem Chg.old  {m':NH} {id:D4} (h:Chg S m m') (ho:aI m id):aI m' id:=Nat.lt_of_lt_of_le ho h.next
theorem Chg.refl (m:NH):Chg [] m m:=⟨Nat.le_refl _,fun _ _=>rfl⟩
theorem Chg.weak  {T:List D4} {a b:NH} (h:Chg S a b) (hs:∀id,id∈S->aI a id->id∈T):Chg T a b:=
 ⟨h.1,fun {id} ho hi=>h.2 ho fun q=>hi (hs id q ho)⟩
theorem Chg.trans  {T:List D4} {a b c:NH} (h:Chg S a b) (h':Chg T b c) (hs:∀id,id∈T->aI a id->id∈S):Chg S a c:=
 ⟨Nat.le_trans h.1 h'.1,fun {id} ho hi=>(h'.2 (h.old ho) fun q=>hi (hs id q ho)).trans (h.2 ho hi)⟩
def cA:List (AK×NO)->List D4
 | []=> []
 |(.n _,_)::l=>cA l
 |(.o i,_)::l=>i::cA l
theorem pP (l:List (AK×NO)) (k:Nat) (m:NH):Chg (cA l) m (hp l k m):=by
 refine ⟨by show m.next.toNat<=(na m k).toNat;unfold na;rw[D4.toNat_of];omega,fun {id} ho hi=> ?_⟩
 rw[cp ho]
 induction l with
 |nil=>rfl
 |cons p l ih=>
  obtain ⟨a,x⟩:=p
  cases a with
  |n i=>rw[mV];exact ih hi
  |o i=>
   have hi:id∉i::cA l:=hi
   rw[FE] at hi
   rw[jA (fun e=>hi (Or.inl e))]
   exact ih fun q=>hi (Or.inr q)
theorem ab  {k:Nat} (h:j<k):aI (hp l k m) (na m j):=by
 show (na m j).toNat<(na m k).toNat
 unfold na;rw[D4.toNat_of,D4.toNat_of];omega
theorem aa  {k:Nat} {id:D4} (h:aI m id):aI (hp l k m) id:=(pP l k m).old h
theorem aQ :¬aI m (na m j):=by
 show ¬(na m j).toNat<m.next.toNat
 unfold na;rw[D4.toNat_of];omega
def mF (P:Program) (S:Nat->List NV->Option NV) (f:Nat) (args:List NV) (m:NH) (v:NV) (m':NH):Prop:=∃c,Call P S f args m (.val v c m')
section
variable {P:Program} {S:Nat->List NV->Option NV} {f:Nat} {args:List NV} {m:NH}
theorem WF.ret  (h:WF P S f args m K):∃v m',mF P S f args m v m'/\K v m':=by
 obtain ⟨v,c,m',hc,hk⟩:=WF.ret' h;exact ⟨v,m',⟨c,hc⟩,hk⟩
theorem Call.det {x y:CR} (h:Call P S f args m x) (h':Call P S f args m y):x=y:=by
 obtain ⟨hn,n,e⟩:=h
 obtain ⟨hn',k,e'⟩:=h'
 rw[←cq (bc (Nat.le_max_left n k)) e hn,cq (bc (Nat.le_max_right n k)) e' hn']
theorem mF.wf  {v:NV} {m':NH} (h:mF P S f args m v m'):WF ⟨P,E⟩ S f args m K=K v (hp [] 0 m'):=by
 rw[ag]
 apply propext
 constructor
 ·rintro (⟨u,c,n,hc,hk⟩|⟨u,c,n,hc,hk⟩)
  ·obtain ⟨c',h'⟩:=h
   have:=Call.det hc h'
   injection this with a _ b
   rw[←a,←b];exact hk
  ·obtain ⟨c',h'⟩:=h
   exact Fy (Call.det hc h') (by simp)
 ·intro hk
  obtain ⟨c,h⟩:=h
  exact Or.inl ⟨v,c,m',h,hk⟩
def Eg (P:Program) (S:Nat->List NV->Option NV) (f:Nat) (args:List NV) (m:NH) (v:NV) (m':NH):Prop:=∃c,Call P S f args m (.pan v c m')
theorem Eg.wf  {v:NV} {m':NH} (h:Eg P S f args m v m'):WF ⟨P,E⟩ S f args m K=E v m':=by
 apply propext
 constructor
 ·rintro (⟨u,c,n,hc,hk⟩|⟨u,c,n,hc,hk⟩)
  ·obtain ⟨c',h'⟩:=h
   exact Fy (Call.det hc h') (by simp)
  ·obtain ⟨c',h'⟩:=h
   have:=Call.det hc h'
   injection this with a _ b
   rw[←a,←b];exact hk
 ·intro hk
  obtain ⟨c,h⟩:=h
  exact Or.inr ⟨v,c,m',h,hk⟩
end
section
variable {t:Tm} {m:NH}
theorem zB {x:NOpd} {ty:Nat}:ae (.box x ty) t m=oN (ρ t x) fun v=>match cellsOf v with|some cs=> .mem (.ptr m.next 0) (m.add (.cells true cs))|none=> .fail:=by
 show wV t x (fun v=>aC (cellsOf v) fun cs=>m.new (.cells true cs) fun id h=> .mem (.ptr id 0) h)=_
 rw[bn]
 cases ρ t x with
 |none=>rfl
 |some v=>
  show aC (cellsOf v) _=(match cellsOf v with|some cs=>_|none=>NR.fail)
  cases cellsOf v with
  |none=>rfl
  |some cs=>exact NH.new_eq m (.cells true cs) (fun id h=>NR.mem (.ptr id 0) h)
theorem v6 {z:List NV} {ty:Nat}:ae (.alloc z ty) t m= .mem (.ptr m.next 0) (m.add (.cells true z)):=NH.new_eq m (.cells true z) (fun id h=>NR.mem (.ptr id 0) h)
end
end Nm
namespace Nm
open Go Go.RowKit
section
variable {P:Program} {S:Nat->List NV->Option NV}
theorem oh.of {l:D4} {args:List NV} {m:NH} {p p1:Jump} {tm tm1:NT NV} {ps ps1:List D4} {a b a1 b1:NC} {d1 d2:Dyn} {o:Out} {x:CR}
 (hm:m.get l=some (.loop 0 p tm ps a b)) (hlen:args.length=ps.length) (ha:b7 P S (some l) a ⟨kW ps args tm, [],none,m⟩ .norm d1) (hd1:d1.dfs= [])
 (hm1:d1.h.get l=some (.loop 0 p1 tm1 ps1 a1 b1)) (hb:b7 P S (some l) b ⟨d1.t, [],none,d1.h.put l (.loop 1 p1 tm1 ps1 a1 b1)⟩ o d2) (ho:∀v,o≠.pan v) (hr:cw l o d2.h=x) (hne:x≠.fail):oh P S l args m x:=by
 obtain ⟨n,hn⟩:=ha
 obtain ⟨k,hk⟩:=hb
 refine ⟨hne,max n k, ?_⟩
 have key:∀(ps:List D4) (args:List NV) (tm:Tm) (K:Tm->CR),args.length=ps.length->cv .fail ps args tm K=K (kW ps args tm):=by
  intro ps
  induction ps with
  |nil=>intro args tm K h;cases args with
   |nil=>rfl
   |cons=>simp at h
  |cons q ps ih=>
   intro args tm K h
   cases args with
   |nil=>simp at h
   |cons v vs=>
    have e:cv .fail (q::ps) (v::vs) tm K=NT.set q v tm fun t=>cv .fail ps vs t K:=rfl
    rw[e,NT.set_eq]
    exact ih _ _ _ (by simpa using h)
 unfold round
 rw[hm]
 show cv .fail ps args tm (fun t=>match ev P S (max n k) (some l) a ⟨t, [],none,m⟩ with
  | .mk .norm d=>(match d.dfs with| []=>bP (ev P S (max n k)) l b d.t d.h|_=> .fail)
  |_=> .fail)=x
 rw[key _ _ _ _ hlen,bc (Nat.le_max_left n k) _ _ _ _ _ hn]
 show (match d1.dfs with| []=>bP (ev P S (max n k)) l b d1.t d1.h|_=> .fail)=x
 rw[hd1]
 show bP (ev P S (max n k)) l b d1.t d1.h=x
 unfold bP
 rw[hm1]
 show (d1.h.set l (.loop 1 p1 tm1 ps1 a1 b1) fun h=>(match ev P S (max n k) (some l) b ⟨d1.t, [],none,h⟩ with
  | .mk o d=>(match o with
   | .pan v=>(match d.dfs with| []=>CR.pan v none d.h|_=> .fail)
   |o=>cw l o d.h)
  | .fail=> .fail))=x
 rw[NH.set_eq,bc (Nat.le_max_right n k) _ _ _ _ _ hk]
 cases o with
 |pan v=>exact Fy rfl (ho v)
 |_=>exact hr
theorem b7.range {f:Nat} {cap:List NV} {fx:NOpd} {ps:List D4} {a b:NC} {t:Tm} {dfs:List Dfr} {ctx:Option NV} {m m':NH} {v:NV} {c:Option NV} {o:Out} {d:Dyn}
 (hf:ρ t fx=some (.fn f cap)) (hc:Call P S f (.yld (m.add (.defd true)).next::cap) ((m.add (.defd true)).add (.loop 0 .none t ps a b)) (.val v c m'))
 (he:dK (m.add (.defd true)).next t (.mark m.next::dfs) ctx m'= .mk o d):b7 P S none (.rangeFunc fx ps a b) ⟨t,dfs,ctx,m⟩ o d:=by
 obtain ⟨hne,k,hk⟩:=hc
 refine ⟨k+1, ?_⟩
 show (match ρ t fx with
  |some (.fn f cap)=>m.new (.defd true) fun q m=>bF P S (ev P S k) f cap ps a b t (.mark q::dfs) ctx m
  |_=>Res.fail)=_
 rw[hf]
 try dsimp only
 rw[NH.new_eq]
 unfold bF
 rw[NH.new_eq,hk]
 exact he
end
end Nm
namespace Nm
open Go Go.RowKit
variable {x:NOpd} {l:List NV} {k:Nat} {K:List NV->NR}
section
variable {t:Tm} {m:NH}
theorem tY :ae (.field1 k x) t m=oN (ρ t x) (DQ k):=by
 show wV t x (fun v=>match v with| .agg l=>aC (eR l k) .val|_=> .fail)=_
 rw[bn]
 cases ρ t x with
 |none=>rfl
 |some v=>
  cases v with
  |agg l=>show aC (eR l k) .val=oN l[k]? .val;rw[cL];cases l[k]? <;>rfl
  |_=>rfl
theorem Cw :DQ k (.agg l)=oN l[k]? .val:=_root_.id rfl
def CA (k n:Nat) (a:NV):NR:=match a with| .agg l=>if k+n<=l.length then .val (.agg ((l.drop k).take n)) else .fail|_=> .fail
theorem ug  {n:Nat}:ae (.fieldN k n x) t m=oN (ρ t x) (CA k n):=by
 show wV t x (fun v=>match v with| .agg l=>aC (cV l k n) fun l=> .val (.agg l)|_=> .fail)=_
 rw[bn]
 cases ρ t x with
 |none=>rfl
 |some v=>
  cases v with
  |agg l=>show aC (cV l k n) (fun l=> .val (.agg l))=if k+n<=l.length then _ else _;rw[dz];split<;>rfl
  |_=>rfl
theorem Dw {n:Nat}:ae (.loadN n x) t m=oN (ρ t x) (vB n m):=by
 show wV t x (fun a=>match a with| .ptr id off=>bo m id fun c=>aC (cV c off n) fun l=> .val (.agg l)|_=> .fail)=_
 rw[bn]
 cases ρ t x with
 |none=>rfl
 |some v=>
  cases v with
  |ptr id off=>
   show bo m id (fun c=>aC (cV c off n) fun l=> .val (.agg l))=vB n m (.ptr id off)
   unfold bo vB
   dsimp only
   split<;>rename_i hm
   ·rw[hm];dsimp only;rw[dz];split<;>rfl
   ·split<;>rename_i h2
    ·exact Fy h2 (hm _ _)
    ·rfl
  |_=>rfl
def Dc (i:Nat) (a:NV):NR:=match a with| .tup l=>oN l[i]? .val|_=> .fail
theorem sD {i:Nat}:ae (.extract x i) t m=oN (ρ t x) (Dc i):=by
 show wV t x (fun v=>match v with| .tup l=>aC (eR l i) .val|_=> .fail)=_
 rw[bn]
 cases ρ t x with
 |none=>rfl
 |some v=>
  cases v with
  |tup l=>show aC (eR l i) .val=oN l[i]? .val;rw[cL];cases l[i]? <;>rfl
  |_=>rfl
theorem DX {i:Nat}:Dc i (.tup l)=oN l[i]? .val:=_root_.id rfl
def rG (f:NV) (l:List NV):NR:=match f with| .fn f cap=> .call f (l++cap)| .yld r=> .yld r l|_=> .fail
noncomputable def vp (t:Tm):List NOpd->(List NV->NR)->NR
 | [],K=>K []
 |x::l,K=>oN (ρ t x) fun v=>vp t l fun l=>K (v::l)
theorem lS {l:List NOpd}:od t l .fail K=vp t l K:=by
 induction l generalizing K with
 |nil=>rfl
 |cons x l ih=>
  show Option.rec NR.fail (fun v=>od t l .fail fun l=>K (v::l)) (ρ t x)=oN (ρ t x) fun v=>vp t l fun l=>K (v::l)
  cases ρ t x with
  |none=>rfl
  |some v=>exact ih
theorem yH :vp t [] K=K []:=_root_.id rfl
theorem BP  {l:List NOpd}:vp t (x::l) K=oN (ρ t x) fun v=>vp t l fun l=>K (v::l):=_root_.id rfl
theorem zK {f:NOpd} {args:List NOpd}:ae (.call f args) t m=oN (ρ t f) fun f=>vp t args (rG f):=by
 show wV t f (fun f=>od t args .fail fun l=>match f with| .fn f cap=>eL l cap fun l=> .call f l| .yld r=> .yld r l|_=> .fail)=_
 rw[bn]
 cases ρ t f with
 |none=>rfl
 |some f=>
  show od t args .fail _=vp t args (rG f)
  rw[lS]
  congr 1
  funext l
  cases f with
  |fn f cap=>exact dc l cap (fun l=>NR.call f l)
  |_=>rfl
theorem yt {f:Nat} {cap:List NV}:rG (.fn f cap) l= .call f (l++cap):=_root_.id rfl
theorem Dx {q:D4}:rG (.yld q) l= .yld q l:=_root_.id rfl
theorem yY {f:Nat} {l:List NOpd}:ae (.mkFn f l) t m=vp t l fun l=> .val (.fn f l):=lS
end
end Nm
namespace Nm
open Go Go.RowKit
section
variable {t:Tm} {m:NH}
noncomputable def Em (n:Nat) (m:NH) (a v:NV):NR:=match a with
 | .ptr id off=>(match cellsOf v with
  |some cs=>if cs.length=n then (match m.get id with
   |some (.cells true c)=>if off+cs.length<=c.length then .mem aA (m.put id (.cells true (c.take off++cs++c.drop (off+cs.length)))) else .fail
   |_=> .fail) else .fail
  |none=> .fail)
 |_=> .fail
theorem vD {n:Nat} {a x:NOpd}:ae (.store n a x) t m=oN (ρ t a) fun a=>oN (ρ t x) fun v=>Em n m a v:=by
 show wV t a (fun a=>wV t x fun v=>match a with
  | .ptr id off=>aC (cellsOf v) fun cs=>cg cs fun k=>cond (Nat.beq k n) (storeAt m id off cs fun h=> .mem aA h) .fail
  |_=> .fail)=_
 simp only[bn]
 cases ρ t a with
 |none=>rfl
 |some a=>
  show oN (ρ t x) _=oN (ρ t x) _
  cases ρ t x with
  |none=>rfl
  |some v=>
   cases a with
   |ptr id off=>
    show aC (cellsOf v) (fun cs=>cg cs fun k=>cond (Nat.beq k n) (storeAt m id off cs fun h=> .mem aA h) .fail)=Em n m (.ptr id off) v
    unfold Em
    cases cellsOf v with
    |none=>rfl
    |some cs=>
     show cg cs (fun k=>cond (Nat.beq k n) (storeAt m id off cs fun h=> .mem aA h) .fail)=if cs.length=n then _ else _
     rw[aZ]
     cases hb:Nat.beq cs.length n with
     |false=>rw[Fz (Nat.ne_of_beq_eq_false hb)];rfl
     |true=>
      rw[FA (FF hb)]
      show storeAt m id off cs (fun h=> .mem aA h)=_
      unfold storeAt cM
      cases hm:m.get id with
      |none=>rfl
      |some o=>
       cases o with
       |cells w c=>
        cases w with
        |false=>rfl
        |true=>
         show aC (cl cs off c) (fun c=>m.set id (.cells true c) fun h=> .mem aA h)=if off+cs.length<=c.length then _ else _
         rw[cS]
         split
         ·exact NH.set_eq m id _ (fun h=>NR.mem aA h)
         ·rfl
       |_=>rfl
   |_=>rfl
end
end Nm
namespace Nm
open Go Go.RowKit
section
variable {t:Tm} {m:NH}
noncomputable def Ft (n len:Nat) (m:NH) (o:Option (List NV)):NR:=match o with|some l=> .mem (.slc m.next 0 len n len) (m.add (.cells true l))|none=> .fail
theorem yN {z:List NV} {n len ty:Nat} {ps:List (Nat×Nat×NOpd)}:ae (.buildSlice z n len ty ps) t m=Ft n len m (bK t ps 0 z):=by
 show aC (bK t ps 0 z) (fun l=>m.new (.cells true l) fun id h=> .mem (.slc id 0 len n len) h)=_
 cases bK t ps 0 z with
 |none=>rfl
 |some l=>exact NH.new_eq m (.cells true l) (fun id h=>NR.mem (.slc id 0 len n len) h)
theorem Er {n len:Nat} {l:List NV}:Ft n len m (some l)= .mem (.slc m.next 0 len n len) (m.add (.cells true l)):=_root_.id rfl
def oO {α β:Type} (o:Option α) (K:α->Option β):Option β:=match o with|some x=>K x|none=>none
theorem Fg {α β:Type} {x:α} {K:α->Option β}:oO (some x) K=K x:=_root_.id rfl
end
end Nm
namespace Nm
open Go Go.RowKit
variable {n:Nat}
def wQ (q:Bool) (A B:Dyn->Prop) (d:Dyn):Prop:=(q=true->A d)/\(q=false->B d)
def wC (o:Option NV) (A B:Dyn->Prop) (d:Dyn):Prop:=wB o (A d) (B d)
def wG (o:Option NV) (b:Bool) (A B:Dyn->Prop) (d:Dyn):Prop:=match o with
 |some (.bool q)=>wQ (q==b) A B d
 |some _=>B d
 |none=>False
def ss (F:Tm->List Dfr->Option NV->NH->Prop) (d:Dyn):Prop:=F d.t d.dfs d.ctx d.h
noncomputable def t6 (x:NR) (v:NV):Bool:=match x with| .val u=>bH 4 u v|_=>false
section
variable {P:PE} {S:Nat->List NV->Option NV} {r:Option D4} {dst:Option D4} {op:NOp} {pre idx:Nat} {l:List NOper} {hs:List (Nat×NH)} {rs:List (Nat×(NH->NR)×NV)}
 {L:List (D4×NV)} {t:Tm} {dfs:List Dfr} {ctx:Option NV} {m m':NH} {v:NV} {k k' g:D4} {d:Dyn} {Q:Out->Dyn->Prop} {K:Dyn->Prop} {A B:Dyn->Prop} {b q:Bool}
theorem Ez:wC (some (.bool q)) A B d=wQ q A B d:=_root_.id rfl
theorem BK:wQ true A B d=A d:=by simp[wQ]
theorem BG:wQ false A B d=B d:=by simp[wQ]
theorem EC:wG (some (.bool q)) b A B d=wQ (q==b) A B d:=_root_.id rfl
theorem DF:wG (some aA) b A B d=B d:=_root_.id rfl
theorem xm:wO P S (⟨dst,op,some (g,b),pre,idx⟩::l) ⟨ap L t,dfs,ctx,m⟩ K=wG (d8 g L (NT.get g t)) b (ss fun t dfs ctx m=>wN P S dst t dfs ctx m (ae op t m) fun d=>wO P S l d K) (ss fun t dfs ctx m=>wO P S l ⟨ay dst aA t,dfs,ctx,m⟩ K) ⟨ap L t,dfs,ctx,m⟩:=by
 unfold wG
 rw[←fo]
 show (match aj (ap L t) (some (g,b)) with|some true=>_|some false=>_|none=>False)=_
 have e:aj (ap L t) (some (g,b))=(match NT.get g (ap L t) with|some (.bool q)=>some (q==b)|some _=>some false|none=>none):=by
  show Option.rec (motive:=fun _=>Option Bool) none (fun v=>NV.onBool (some false) (fun c=>some (dx b c)) v) (NT.get g (ap L t))=_
  cases NT.get g (ap L t) with
  |none=>rfl
  |some v=>cases v with
   |bool q=>cases q<;>cases b<;>rfl
   |_=>rfl
 rw[e]
 cases NT.get g (ap L t) with
 |none=>rfl
 |some v=>cases v with
  |bool q=>
   dsimp only
   unfold wQ ss
   cases (q==b)<;>simp
  |_=>rfl
theorem ue:wD P S (⟨dst,op,some (g,b),pre,idx⟩::l) hs rs ⟨ap L t,dfs,ctx,m⟩ K=wG (d8 g L (NT.get g t)) b (ss fun t dfs ctx m=>wX (ai op) (ae op t m) P S (ae op t) dst pre idx l hs rs ⟨t,dfs,ctx,m⟩ K) (ss fun t dfs ctx m=>wD P S l hs rs ⟨ay dst aA t,dfs,ctx,m⟩ K) ⟨ap L t,dfs,ctx,m⟩:=by
 unfold wG
 rw[←fo]
 have e:aj (ap L t) (some (g,b))=(match NT.get g (ap L t) with|some (.bool q)=>some (q==b)|some _=>some false|none=>none):=by
  show Option.rec (motive:=fun _=>Option Bool) none (fun v=>NV.onBool (some false) (fun c=>some (dx b c)) v) (NT.get g (ap L t))=_
  cases NT.get g (ap L t) with
  |none=>rfl
  |some v=>cases v with
   |bool q=>cases q<;>cases b<;>rfl
   |_=>rfl
 have e2:wD P S (⟨dst,op,some (g,b),pre,idx⟩::l) hs rs ⟨ap L t,dfs,ctx,m⟩ K=(match aj (ap L t) (some (g,b)) with
  |some true=>wX (ai op) (ae op (ap L t) m) P S (ae op (ap L t)) dst pre idx l hs rs ⟨ap L t,dfs,ctx,m⟩ K
  |some false=>wD P S l hs rs ⟨ay dst aA (ap L t),dfs,ctx,m⟩ K
  |none=>False):=by
  unfold wX
  simp only[wD]
  all_goals (cases aj (ap L t) (some (g,b)) with
   |none=>rfl
   |some q=>cases q with
    |false=>rfl
    |true=>cases ai op<;>cases ae op (ap L t) m<;>rfl)
 rw[e2,e]
 cases NT.get g (ap L t) with
 |none=>rfl
 |some v=>cases v with
  |bool q=>
   dsimp only
   unfold wQ ss
   cases (q==b)<;>simp
  |_=>rfl
theorem xB {i:Nat} {f:NH->NR} {u:NV}:aK pre m ((i,f,u)::rs)=cond (Nat.testBit pre i) (aK pre m rs) (t6 (f m) u&&aK pre m rs):=by
 show cond (Nat.testBit pre i) (aK pre m rs) (match f m with| .val v=>cond (bH 4 v u) (aK pre m rs) false|_=>false)=_
 congr 1
 cases f m with
 |val u'=>show cond (bH 4 u' u) _ false=(bH 4 u' u&&_);cases bH 4 u' u<;>rfl
 |_=>rfl
theorem xq {i:Nat}:ahead pre ((i,m)::hs)=cond (Nat.testBit pre i) (ahead pre hs) false:=_root_.id rfl
theorem uh {u:NV}:t6 (.val u) v=bH 4 u v:=_root_.id rfl
end
theorem eG (d:D4):aP d d=true:=jW d
theorem mU (l:List Nat):sg l l=true:=by
 induction l with
 |nil=>rfl
 |cons x l ih=>show cond (Nat.beq x x) (sg l l) false=true;rw[Nat.beq_refl];exact ih
def re (v:NV):Prop:=match v with| .agg _| .tup _| .fn _ _| .ifc _ _=>False|_=>True
theorem fv  {v:NV} (h:re v):bH (n+1) v v=true:=by
 show rB (bH n) v v=true
 have hi:∀z:Int,mE z z=true:=fun z=>by rw[cY];simp
 cases v with
 |bool b=>cases b<;>rfl
 |int k x=>cases x with
  |lit z=>show cond (rY k k) (mE z z) false=true;rw[hi];cases k<;>rfl
 |str s=>exact mU s
 |ptr id o=>show cond (aP id id) (Nat.beq o o) false=true;rw[eG];simp
 |slc id o n e k=>show cond (aP id id) (cond (Nat.beq o o) (cond (Nat.beq n n) (cond (Nat.beq e e) (Nat.beq k k) false) false) false) false=true;rw[eG];simp
 |map id=>exact eG id
 |yld id=>exact eG id
 |agg l=>exact h.elim
 |tup l=>exact h.elim
 |fn f c=>exact h.elim
 |ifc t v=>exact h.elim
 |_=>rfl
theorem oC  {l:List NV} (h:∀v∈l,re v):fk (bH (n+1)) l l=true:=by
 induction l with
 |nil=>rfl
 |cons x l ih=>
  show cond (bH (n+1) x x) (fk (bH (n+1)) l l) false=true
  rw[fv (h x (List.mem_cons_self ..))]
  exact ih fun v hv=>h v (List.mem_cons_of_mem _ hv)
theorem tI  {l:List NV} (h:∀v∈l,re v):bH (n+2) (.agg l) (.agg l)=true:=oC h
theorem wx  {k:IntKind} {z:Int}:bH (n+1) (.int k (.lit z)) (.int k (.lit z))=true:=fv trivial
theorem wA  {l:List Nat}:bH (n+1) (.str l) (.str l)=true:=fv trivial
end Nm
namespace Nm
open Go Go.RowKit
variable {n:Nat} {id:D4} {l cs:List NV} {ps:List (Nat×Nat×NOpd)} {a b:Int} {k:IntKind}
theorem Dt  (h:-9223372036854775808<=a - b) (h':a - b<9223372036854775808):da .num .sub (.int .i64 (.lit a)) (.int .i64 (.lit b))=some (.int .i64 (.lit (a - b))):=by
 refine (iY rfl).trans ?_
 show bG .i64 (bz .i64 (pL a b))=_
 rw[gE,wrap_small h h']
 exact ib _ _
theorem yu {p:Prop} [Decidable p] (h:p):decide p=true:=by simp[h]
theorem wj {p:Prop} [Decidable p] (h:¬p):decide p=false:=by simp[h]
section
variable {m:NH}
theorem yS:zZ .nils= .val (.int .i64 (.lit 0)):=_root_.id rfl
theorem qo  {off len e kc:Nat} {ik:IntKind} {z:Int} (h0:0<=z) (h1:z<len):ud n (.slc id off len e kc) (.int ik (.lit z))= .val (.ptr id (off+z.toNat*n)):=by
 obtain ⟨i,rfl⟩:=FG h0
 show (if i<len then NR.val (.ptr id (off+i*n)) else .fail)= .val (.ptr id (off+i*n))
 rw[FA (by omega)]
noncomputable def DN (off:Nat) (o:Option NO):NR:=match o with|some (.cells _ c)=>oN c[off]? .val|_=> .fail
noncomputable def D8 (n off:Nat) (o:Option NO):NR:=match o with|some (.cells _ c)=>if off+n<=c.length then .val (.agg ((c.drop off).take n)) else .fail|_=> .fail
theorem DO  {off:Nat}:xz m (.ptr id off)=DN off (m.get id):=_root_.id rfl
theorem CV  {off:Nat}:vB n m (.ptr id off)=D8 n off (m.get id):=_root_.id rfl
theorem zm {off:Nat} {w:Bool} {c:List NV}:DN off (some (.cells w c))=oN c[off]? .val:=_root_.id rfl
theorem ze  {off:Nat} {w:Bool} {c:List NV} (h:off+n<=c.length):D8 n off (some (.cells w c))= .val (.agg ((c.drop off).take n)):=FA h
noncomputable def EM (n:Nat) (id:D4) (off:Nat) (m:NH) (cs:Option (List NV)) (o:Option NO):NR:=match cs with
 |some cs=>if cs.length=n then (match o with
  |some (.cells true c)=>if off+cs.length<=c.length then .mem aA (m.put id (.cells true (c.take off++cs++c.drop (off+cs.length)))) else .fail
  |_=> .fail) else .fail
 |none=> .fail
theorem EP  {off:Nat} {v:NV}:Em n m (.ptr id off) v=EM n id off m (cellsOf v) (m.get id):=_root_.id rfl
theorem fH {c:List NV} {off:Nat} {x:NV} (h:off<c.length):c.take off++ [x]++c.drop (off+1)=c.set off x:=by
 rw[List.set_eq_take_append_cons_drop,FA h]
 simp
theorem CF {off:Nat} {x:NV} {c:List NV} (h:off<c.length):EM 1 id off m (some [x]) (some (.cells true c))= .mem aA (m.put id (.cells true (c.set off x))):=by
 show (if [x].length=1 then (if off+ [x].length<=c.length then NR.mem aA (m.put id (.cells true (c.take off++ [x]++c.drop (off+ [x].length)))) else .fail) else .fail)=_
 rw[FA (show [x].length=1 from rfl),FA (by show off+1<=_;omega)]
 show NR.mem aA (m.put id (.cells true (c.take off++ [x]++c.drop (off+1))))=_
 rw[fH h]
theorem DK  {off:Nat} {c:List NV} (h:cs.length=n+2) (h':off+(n+2)<=c.length):EM (n+2) id off m (some cs) (some (.cells true c))= .mem aA (m.put id (.cells true (c.take off++cs++c.drop (off+(n+2))))):=by
 rw[←h] at h' ⊢
 show (if cs.length=cs.length then (if off+cs.length<=c.length then NR.mem aA (m.put id (.cells true (c.take off++cs++c.drop (off+cs.length)))) else .fail) else .fail)=_
 rw[FA rfl,FA h']
end
section
variable {t:Tm} {m:NH}
def qQ (c:NV) (a b:Option NV):NR:=match c with| .bool c=>(if c then oN a .val else oN b .val)|_=> .fail
theorem zg {c a b:NOpd}:ae (.pick c a b) t m=oN (ρ t c) fun c=>qQ c (ρ t a) (ρ t b):=by
 show wV t c (fun c=>match c with| .bool c=>Bool.rec (wV t b .val) (wV t a .val) c|_=> .fail)=_
 rw[bn]
 cases ρ t c with
 |none=>rfl
 |some v=>
  cases v with
  |bool q=>show Bool.rec (wV t b .val) (wV t a .val) q=if q then oN (ρ t a) .val else oN (ρ t b) .val;rw[bn,bn];cases q<;>rfl
  |_=>rfl
theorem vw {a b:Option NV}:qQ (.bool true) a b=oN a .val:=_root_.id rfl
theorem vR {a b:Option NV}:qQ (.bool false) a b=oN b .val:=_root_.id rfl
theorem vS {q p r:Bool}:qQ (.bool q) (some (.bool p)) (some (.bool r))= .val (.bool (if q then p else r)):=by cases q<;>rfl
theorem tM {mx:Bool} {l:List NOpd}:ae (.minmax mx l) t m=vp t l fun l=>oN (rZ mx l) .val:=by
 show od t l .fail (fun l=>aC (rZ mx l) .val)=_
 rw[lS]
 congr 1
 funext l
 cases rZ mx l<;>rfl
theorem Cx :rZ true [.int k (.lit a),.int k (.lit b)]=some (.int k (.lit (max a b))):=by
 show Option.rec (motive:=fun _=>Option NV) none some (cond (cond true (nX a b) (nX b a)) (some (NV.int k (.lit b))) (some (.int k (.lit a))))=_
 rw[eu]
 by_cases h:a<b
 ·simp[h,Int.max_def,show a<=b by omega]
 ·simp[h,Int.max_def];omega
theorem Ed :rZ false [.int k (.lit a),.int k (.lit b)]=some (.int k (.lit (min a b))):=by
 show Option.rec (motive:=fun _=>Option NV) none some (cond (cond false (nX a b) (nX b a)) (some (NV.int k (.lit b))) (some (.int k (.lit a))))=_
 rw[eu a b,eu b a]
 by_cases h:b<a
 ·rw[FC h,Int.min_eq_right (by omega)];rfl
 ·rw[FB h,Int.min_eq_left (by omega)];rfl
theorem zA  {K:Nat->NR} (h:0<=a):aC (iK (.int k (.lit a))) K=K a.toNat:=by
 obtain ⟨i,rfl⟩:=FG h
 rfl
noncomputable def u7 (n bytes:Nat) (m:NH) (s x:NV):NR:=dv n m x fun k new=>di n bytes m s k new
theorem tg  {bytes ty:Nat} {s x:NOpd}:ae (.append n bytes ty s x) t m=oN (ρ t s) fun s=>oN (ρ t x) fun x=>u7 n bytes m s x:=by
 show wV t s (fun s=>wV t x fun x=>dv n m x fun k new=>di n bytes m s k new)=_
 rw[bn];congr 1;funext s;rw[bn];rfl
noncomputable def Fv (o:Option (List NV)):NR:=match o with|some l=> .val (.agg l)|none=> .fail
theorem wR {z:List NV}:ae (.build z ps) t m=Fv (bN t ps z):=by
 show aC (bN t ps z) (fun l=> .val (.agg l))=_
 cases bN t ps z<;>rfl
theorem Fo :Fv (some l)= .val (.agg l):=_root_.id rfl
theorem Cy :bN t [] l=some l:=_root_.id rfl
noncomputable def CB (t:Tm) (ps:List (Nat×Nat×NOpd)) (off k:Nat) (l:List NV) (o:Option (List NV)):Option (List NV):=match o with
 |some cs=>if cs.length=k then (match cl cs off l with|some l=>bN t ps l|none=>none) else none
 |none=>none
theorem Fl  {off k:Nat} {x:NOpd}:bN t ((off,k,x)::ps) l=oO (ρ t x) fun v=>CB t ps off k l (cellsOf v):=by
 show Option.rec (motive:=fun _=>Option (List NV)) none (fun v:NV=>Option.rec (motive:=fun _=>Option (List NV)) none (fun cs=>cg cs fun j=>cond (Nat.beq j k) (Option.rec (motive:=fun _=>Option (List NV)) none (bN t ps) (cl cs off l)) none) (cellsOf v)) (ρ t x)=_
 cases ρ t x with
 |none=>rfl
 |some v=>
  show Option.rec (motive:=fun _=>Option (List NV)) none (fun cs=>cg cs fun j=>cond (Nat.beq j k) (Option.rec (motive:=fun _=>Option (List NV)) none (bN t ps) (cl cs off l)) none) (cellsOf v)=CB t ps off k l (cellsOf v)
  cases cellsOf v with
  |none=>rfl
  |some cs=>
   show cg cs (fun j=>cond (Nat.beq j k) (Option.rec (motive:=fun _=>Option (List NV)) none (bN t ps) (cl cs off l)) none)=if cs.length=k then _ else _
   rw[aZ]
   cases hb:Nat.beq cs.length k with
   |false=>rw[Fz (Nat.ne_of_beq_eq_false hb)];rfl
   |true=>rw[FA (FF hb)];cases cl cs off l<;>rfl
theorem D9  {off:Nat} {x:NV} (h:off<l.length):CB t ps off 1 l (some [x])=bN t ps (l.set off x):=by
 show (if [x].length=1 then (match cl [x] off l with|some l=>bN t ps l|none=>none) else none)=_
 rw[FA (show [x].length=1 from rfl),cS,FA (by show off+1<=_;omega)]
 show bN t ps (l.take off++ [x]++l.drop (off+1))=_
 rw[fH h]
theorem xM  {off k:Nat} (h:cs.length=k) (h':off+k<=l.length):CB t ps off k l (some cs)=bN t ps (l.take off++cs++l.drop (off+k)):=by
 subst h
 show (if cs.length=cs.length then (match cl cs off l with|some l=>bN t ps l|none=>none) else none)=_
 rw[FA rfl,cS,FA h']
theorem BM  {off k:Nat} (h:cs.length=k+2) (h':off+(k+2)<=l.length):CB t ps off (k+2) l (some cs)=bN t ps (l.take off++cs++l.drop (off+(k+2))):=xM h h'
end
end Nm
namespace Nm
open Go Go.RowKit
section
variable {t:Tm} {m:NH}
noncomputable def sU (t:Tm) (x:Option NOpd) (d:Nat) (K:Nat->NR):NR:=match x with|none=>K d|some x=>oN (ρ t x) fun v=>aC (iK v) K
theorem lg {x:Option NOpd} {d:Nat} {K:Nat->NR}:cW t x d K=sU t x d K:=by
 cases x with
 |none=>rfl
 |some x=>show wV t x _=_;rw[bn];rfl
theorem BY {x:NOpd} {d:Nat} {K:Nat->NR}:sU t (some x) d K=oN (ρ t x) fun v=>aC (iK v) K:=_root_.id rfl
end
end Nm
namespace Nm
open Go Go.RowKit
variable {B m:NH} {n:Nat} {C D:List (List NV)}
def ids:NV->List D4
 | .slc id _ _ _ _=> [id]
 |_=> []
def Sl (m:NH) (v:NV) (e:Nat) (C:List (List NV)):Prop:=(∀x∈C,x.length=e)/\((v= .nils/\C= [])∨
 ∃id off kc w c,v= .slc id off C.length e kc/\m.get id=some (.cells w c)/\aI m id/\off+C.length*e<=c.length/\(c.drop off).take (C.length*e)=C.flatten)
def c9 (B m:NH) (v:NV) (e:Nat) (C:List (List NV)):Prop:=(∀x∈C,x.length=e)/\((v= .nils/\C= [])∨
 ∃id off kc c,v= .slc id off C.length e kc/\¬aI B id/\m.get id=some (.cells true c)/\aI m id/\off+C.length*e<=c.length/\off+kc*e<=c.length/\(c.drop off).take (C.length*e)=C.flatten)
theorem e6 {e:Nat} (h:∀x∈C,x.length=e):C.flatten.length=C.length*e:=by
 induction C with
 |nil=>simp
 |cons a C ih=>
  rw[List.flatten_cons,List.length_append,h a (List.mem_cons_self ..),ih fun x hx=>h x (List.mem_cons_of_mem _ hx),List.length_cons,Nat.succ_mul]
  omega
theorem sR {e:Nat}:∀{C:List (List NV)} (_:∀x∈C,x.length=e) (i:Nat) (hi:i<C.length),(C.flatten.drop (i*e)).take e=C[i]:=by
 intro C
 induction C with
 |nil=>intro _ i hi;simp at hi
 |cons a C ih=>
  intro h i hi
  have ha:=h a (List.mem_cons_self ..)
  cases i with
  |zero=>
   rw[Nat.zero_mul,List.drop_zero,List.flatten_cons,List.take_append,ha,Nat.sub_self,List.take_zero,List.append_nil,←ha]
   simp
  |succ i=>
   rw[List.flatten_cons,List.drop_append,Nat.succ_mul,List.drop_eq_nil_of_le (by omega),List.nil_append,ha,Nat.add_sub_cancel]
   exact ih (fun x hx=>h x (List.mem_cons_of_mem _ hx)) i (by simpa using hi)
theorem c9.sl  {v:NV} {e:Nat} (h:c9 B m v e C):Sl m v e C:=by
 obtain ⟨h0,h|⟨id,off,kc,c,h1,_,h2,h3,h4,_,h5⟩⟩:=h
 ·exact ⟨h0,Or.inl h⟩
 ·exact ⟨h0,Or.inr ⟨id,off,kc,true,c,h1,h2,h3,h4,h5⟩⟩
section
variable {m:NH} {v:NV} {e:Nat} {C:List (List NV)}
theorem Sl.len (h:Sl m v e C):zZ v= .val (.int .i64 (.lit (C.length:Int))):=by
 obtain ⟨_,⟨rfl,rfl⟩|⟨id,off,kc,w,c,rfl,_⟩⟩:=h<;>rfl
theorem Sl.one (h:Sl m v e C):cellsOf v=some [v]:=by
 obtain ⟨_,⟨rfl,rfl⟩|⟨id,off,kc,w,c,rfl,_⟩⟩:=h<;>rfl
theorem ra {c:List NV} {off e:Nat} (h:∀x∈C,x.length=e) (hn:C.length=n) (hc:off+n*e<=c.length) (hf:(c.drop off).take (n*e)=C.flatten) (i:Nat) (hi:i<C.length):
 off+i*e+e<=c.length/\(c.drop (off+i*e)).take e=C[i]:=by
 subst hn
 have h1:i*e+e<=C.length*e:=by rw[←Nat.succ_mul];exact Nat.mul_le_mul_right e hi
 refine ⟨by omega, ?_⟩
 rw[←sR h i hi,←hf,List.drop_take,List.take_take,List.drop_drop,Nat.min_eq_left (by omega)]
theorem Sl.at (h:Sl m v e C) (i:Nat) (hi:i<C.length):∃id off w c,ud e v (.int .i64 (.lit (i:Int)))= .val (.ptr id off)/\m.get id=some (.cells w c)/\aI m id/\off+e<=c.length/\(c.drop off).take e=C[i]:=by
 obtain ⟨h0,⟨rfl,rfl⟩|⟨id,off,kc,w,c,rfl,h1,h2,h3,h4⟩⟩:=h
 ·simp at hi
 ·obtain ⟨h5,h6⟩:=ra h0 rfl h3 h4 i hi
  exact ⟨id,off+i*e,w,c,qo (by omega) (by omega),h1,h2,h5,h6⟩
theorem Sl.chg {T:List D4} {m':NH} (h:Sl m v e C) (hc:Chg T m m') (ht:∀id∈ids v,id∉T):Sl m' v e C:=by
 obtain ⟨h0,⟨rfl,rfl⟩|⟨id,off,kc,w,c,rfl,h1,h2,h3,h4⟩⟩:=h
 ·exact ⟨h0,Or.inl ⟨rfl,rfl⟩⟩
 ·exact ⟨h0,Or.inr ⟨id,off,kc,w,c,rfl,(hc.get h2 (ht id (List.mem_cons_self ..))).trans h1,hc.old h2,h3,h4⟩⟩
theorem Sl.grew {m':NH} (h:Sl m v e C) (hc:Chg [] m m'):Sl m' v e C:=h.chg hc fun _ _=>FD
theorem Sl.old (h:Sl m v e C):∀id∈ids v,aI m id:=by
 obtain ⟨h0,⟨rfl,rfl⟩|⟨id,off,kc,w,c,rfl,h1,h2,h3,h4⟩⟩:=h
 ·intro id hid;simp[ids] at hid
 ·intro i hi;simp[ids] at hi;rw[hi];exact h2
theorem c9.chg  {T:List D4} {m':NH} (h:c9 B m v e C) (hc:Chg T m m') (ht:∀id∈ids v,id∉T):c9 B m' v e C:=by
 obtain ⟨h0,⟨rfl,rfl⟩|⟨id,off,kc,c,rfl,hb,h1,h2,h3,h4⟩⟩:=h
 ·exact ⟨h0,Or.inl ⟨rfl,rfl⟩⟩
 ·exact ⟨h0,Or.inr ⟨id,off,kc,c,rfl,hb,(hc.get h2 (ht id (List.mem_cons_self ..))).trans h1,hc.old h2,h3,h4⟩⟩
theorem c9.new  (h:c9 B m v e C):∀id∈ids v,¬aI B id:=by
 obtain ⟨h0,⟨rfl,rfl⟩|⟨id,off,kc,c,rfl,hb,h1,h2,h3,h4⟩⟩:=h
 ·intro id hid;simp[ids] at hid
 ·intro i hi;simp[ids] at hi;rw[hi];exact hb
theorem c9.nil :c9 B m .nils e []:=⟨fun x hx=>by simp at hx,Or.inl ⟨rfl,rfl⟩⟩
theorem Sl.nil:Sl m .nils e []:=⟨fun x hx=>by simp at hx,Or.inl ⟨rfl,rfl⟩⟩
theorem c9.of  {id:D4} {k:Nat} {c:List NV} (h:∀x∈C,x.length=e) (hb:¬aI B id) (hg:m.get id=some (.cells true c)) (ho:aI m id) (hc:c=C.flatten) (hn:n=C.length) (hk:k=C.length):c9 B m (.slc id 0 n e k) e C:=by
 subst hn hk hc
 have hl:=e6 h
 exact ⟨h,Or.inr ⟨id,0,_,_,rfl,hb,hg,ho,by omega,by omega,by rw[List.drop_zero,←hl,List.take_length]⟩⟩
theorem c9.back  {B':NH} (h:c9 B m v e C) (hb:∀id,aI B' id->aI B id):c9 B' m v e C:=by
 obtain ⟨h0,⟨rfl,rfl⟩|⟨id,off,kc,c,rfl,hb',h1,h2,h3,h4⟩⟩:=h
 ·exact ⟨h0,Or.inl ⟨rfl,rfl⟩⟩
 ·exact ⟨h0,Or.inr ⟨id,off,kc,c,rfl,fun q=>hb' (hb _ q),h1,h2,h3,h4⟩⟩
theorem k7  {x:NV} (h:Sl m x n D) {K:Nat->List NV->NR}:dv n m x K=K D.length D.flatten:=by
 obtain ⟨h0,⟨rfl,rfl⟩|⟨id,off,kc,w,c,rfl,h1,h2,h3,h4⟩⟩:=h
 ·rfl
 ·show cond (Nat.beq n n) (bo m id fun c=>aC (cV c off (Nat.mul D.length n)) fun l=>K D.length l) .fail=_
  rw[Nat.beq_refl]
  show bo m id (fun c=>aC (cV c off (Nat.mul D.length n)) fun l=>K D.length l)=_
  unfold bo
  rw[h1]
  show aC (cV c off (D.length*n)) (fun l=>K D.length l)=_
  rw[dz,FA h3,h4];rfl
theorem Chg.put (m:NH) (id:D4) (o:NO):Chg [id] m (m.put id o):=
 ⟨Nat.le_refl _,fun {i} _ hn=>NH.get_put_ne m o (by simpa using hn)⟩
theorem aI.next_ne  {i:D4} (h:aI m i):i≠m.next:=by
 intro e;rw[e] at h;exact Nat.lt_irrefl _ h
theorem Chg.add (m:NH) (o:NO):Chg [] m (m.add o):=
 ⟨by show m.next.toNat<=m.next.nxt.toNat;rw[D4.toNat_nxt];omega,fun {i} ho _=>NH.get_add_ne m o ho.next_ne⟩
theorem gv (m:NH) (o:NO):aI (m.add o) m.next:=by
 show m.next.toNat<m.next.nxt.toNat;rw[D4.toNat_nxt];omega
theorem qX  {bytes:Nat} (h:n*bytes<=1099511627776) (h':n<=1099511627776):room n bytes=true:=by
 unfold room
 rw[show Nat.ble (Nat.mul n bytes) 1099511627776=true from Nat.ble_eq_true_of_le h,show Nat.ble n 1099511627776=true from Nat.ble_eq_true_of_le h']
 rfl
theorem c9.app  {x:NV} {bytes:Nat} (hv:c9 B m v e C) (hx:Sl m x e D) (hD:D≠ []) (hB:∀id,aI B id->aI m id) (hr:(C.length+D.length)*bytes<=1099511627776) (hr':C.length+D.length<=1099511627776):
 ∃v' m',u7 e bytes m v x= .mem v' m'/\c9 B m' v' e (C++D)/\Chg (ids v) m m':=by
 unfold u7
 rw[k7 hx]
 have hDl:∀y∈D,y.length=e:=hx.1
 have hDp:0<D.length:=List.length_pos_iff.mpr hD
 obtain ⟨k,hk⟩:∃k,D.length=k+1:=⟨D.length - 1,by omega⟩
 have hall:∀y∈C++D,y.length=e:=fun y hy=>(List.mem_append.mp hy).elim (hv.1 y) (hDl y)
 have hnext:¬aI B m.next:=fun q=>Nat.lt_irrefl _ (hB _ q)
 obtain ⟨h0,⟨rfl,rfl⟩|⟨id,off,kc,c,rfl,hb,h1,h2,h3,h3',h4⟩⟩:=hv
 ·refine ⟨.slc m.next 0 D.length e D.length,m.add (.cells true D.flatten), ?_, ?_,Chg.add m _⟩
  ·show Nat.rec (motive:=fun _=>NR) (.val .nils) (fun _ _=>cond (room D.length bytes) (m.new (.cells true D.flatten) fun id h=> .mem (.slc id 0 D.length e D.length) h) .fail) D.length=_
   rw[qX (by simpa using hr) (by simpa using hr'),NH.new_eq,hk];rfl
  ·exact c9.of hall hnext (NH.get_add_same m _) (gv m _) (by simp) (by simp) (by simp)
 ·have e1:di e bytes m (.slc id off C.length e kc) D.length D.flatten=(cond (Nat.ble (C.length+D.length) kc)
   (aC (cl D.flatten (off+C.length*e) c) fun c=>m.set id (.cells true c) fun h=> .mem (.slc id off (C.length+D.length) e kc) h)
   (aC (cj off c) fun c=>aC (d6 (C.length*e) c) fun old=>cond (room (C.length+D.length) bytes)
    (eL old D.flatten fun l=>m.set id .dead fun h=>h.new (.cells true l) fun id h=> .mem (.slc id 0 (C.length+D.length) e (C.length+D.length)) h) .fail)):=by
   show cond (Nat.beq e e) (Nat.rec (motive:=fun _=>NR) (.val (.slc id off C.length e kc)) (fun _ _=>cM m id fun c=>ak (Nat.add C.length D.length) fun n=>cond (Nat.ble n kc)
    (aC (cl D.flatten (Nat.add off (Nat.mul C.length e)) c) fun c=>m.set id (.cells true c) fun h=> .mem (.slc id off n e kc) h)
    (aC (cj off c) fun c=>aC (d6 (Nat.mul C.length e) c) fun old=>cond (room n bytes)
     (eL old D.flatten fun l=>m.set id .dead fun h=>h.new (.cells true l) fun id h=> .mem (.slc id 0 n e n) h) .fail)) D.length) .fail=_
   rw[Nat.beq_refl,hk]
   show cM m id _=_
   unfold cM
   rw[h1]
   show ak (C.length+(k+1)) _=_
   rw[af]
   rfl
  rw[e1]
  have fl:=e6 hDl
  have fc:=e6 h0
  cases hle:Nat.ble (C.length+D.length) kc with
  |true=>
   have hle:=Nat.le_of_ble_eq_true hle
   have hm:C.length*e+D.length*e<=kc*e:=by rw[←Nat.add_mul];exact Nat.mul_le_mul_right e hle
   refine ⟨.slc id off (C.length+D.length) e kc,m.put id (.cells true (c.take (off+C.length*e)++D.flatten++c.drop (off+C.length*e+D.flatten.length))), ?_, ?_,Chg.put m id _⟩
   ·show aC (cl D.flatten (off+C.length*e) c) _=_
    rw[cS,FA (by omega)]
    show m.set id _ _=_
    rw[NH.set_eq]
   ·refine ⟨hall,Or.inr ⟨id,off,kc,_,by rw[List.length_append],hb,NH.get_put_same m id _,h2, ?_, ?_, ?_⟩⟩
    ·simp only[List.length_append,List.length_take,List.length_drop,Nat.add_mul];omega
    ·simp only[List.length_append,List.length_take,List.length_drop];omega
    ·have e3:c.take (off+C.length*e)=c.take off++C.flatten:=by rw[List.take_add,h4]
     have e4:(c.take off).length=off:=by rw[List.length_take];omega
     have e5:(c.take off++C.flatten++D.flatten++c.drop (off+C.length*e+D.flatten.length)).drop off=C.flatten++D.flatten++c.drop (off+C.length*e+D.flatten.length):=by
      rw[List.append_assoc,List.append_assoc]
      have:=List.drop_left (l₁:=c.take off) (l₂:=C.flatten++(D.flatten++c.drop (off+C.length*e+D.flatten.length)))
      rw[e4] at this
      rw[this,List.append_assoc]
     rw[e3,e5,List.flatten_append,List.length_append,Nat.add_mul]
     rw[show C.length*e+D.length*e=(C.flatten++D.flatten).length by rw[List.length_append,fl,fc]]
     exact List.take_left
  |false=>
   refine ⟨.slc m.next 0 (C.length+D.length) e (C.length+D.length),(m.put id .dead).add (.cells true (C.flatten++D.flatten)), ?_, ?_, ?_⟩
   ·show aC (cj off c) _=_
    rw[dL,FA (by omega)]
    show aC (d6 (C.length*e) (c.drop off)) _=_
    rw[d9,FA (by rw[List.length_drop];omega),h4]
    show cond (room (C.length+D.length) bytes) _ _=_
    rw[qX hr hr']
    show eL C.flatten D.flatten _=_
    rw[dc,NH.set_eq,NH.new_eq];rfl
   ·exact c9.of hall hnext (NH.get_add_same (m.put id .dead) _) (gv (m.put id .dead) _) (by simp) (by simp) (by simp)
   ·exact (Chg.put m id .dead).trans (Chg.add _ _) fun i hi _=>by simp at hi
def jH (off:Nat):List (Nat×NV)->List NV->List NV
 | [],c=>c
 |(k,x)::us,c=>jH off us (c.set (off+k) x)
theorem jN {off:Nat}:∀(us:List (Nat×NV)) (c:List NV),(jH off us c).length=c.length:=by
 intro us
 induction us with
 |nil=>intro c;rfl
 |cons u us ih=>intro c;obtain ⟨k,x⟩:=u;show (jH off us (c.set (off+k) x)).length=_;rw[ih,List.length_set]
theorem c9.at  (h:c9 B m v e C) (i:Nat) (hi:i<C.length):∃id off c,ud e v (.int .i64 (.lit (i:Int)))= .val (.ptr id off)/\ids v= [id]/\¬aI B id/\m.get id=some (.cells true c)/\aI m id/\off+e<=c.length/\(c.drop off).take e=C[i]/\
 ∀(us:List (Nat×NV)) (M:NH),(∀u∈us,u.1<e)->M.get id=some (.cells true (jH off us c))->aI M id->c9 B M v e (C.set i (jH 0 us C[i])):=by
 obtain ⟨h0,⟨rfl,rfl⟩|⟨id,off,kc,c,rfl,hb,h1,h2,h3,h3',h4⟩⟩:=h
 ·simp at hi
 ·obtain ⟨h5,h6⟩:=ra h0 rfl h3 h4 i hi
  refine ⟨id,off+i*e,c,qo (by omega) (by omega),rfl,hb,h1,h2,h5,h6,fun us M hk hM hMo=> ?_⟩
  have hlen:∀y∈C.set i (jH 0 us C[i]),y.length=e:=by
   intro y hy
   rcases List.mem_or_eq_of_mem_set hy with hy|hy
   ·exact h0 y hy
   ·rw[hy,jN];exact h0 _ (List.getElem_mem hi)
  refine ⟨hlen,Or.inr ⟨id,off,kc,_,by rw[List.length_set],hb,hM,hMo,by rw[jN,List.length_set];exact h3,by rw[jN];exact h3', ?_⟩⟩
  rw[List.length_set]
  have hone:∀(k:Nat) (x:NV) (_:k<e) (C:List (List NV)) (_:∀x∈C,x.length=e) (i:Nat) (hi:i<C.length),(C.set i (C[i].set k x)).flatten=C.flatten.set (i*e+k) x:=by
   intro k x hk C
   induction C with
   |nil=>intro _ i hi;simp at hi
   |cons a C ih=>
    intro h i hi
    have ha:=h a (List.mem_cons_self ..)
    cases i with
    |zero=>simp only[List.set_cons_zero,List.flatten_cons,List.getElem_cons_zero,Nat.zero_mul,Nat.zero_add];rw[List.set_append_left _ _ (by omega)]
    |succ i=>
     simp only[List.set_cons_succ,List.flatten_cons,List.getElem_cons_succ]
     rw[ih (fun x hx=>h x (List.mem_cons_of_mem _ hx)) i (by simpa using hi),List.set_append_right _ _ (by rw[ha,Nat.succ_mul];omega),ha,Nat.succ_mul]
     congr 2;omega
  have hall:∀(us:List (Nat×NV)) (_:∀u∈us,u.1<e) (c:List NV) (C:List (List NV)) (_:∀x∈C,x.length=e) (hi:i<C.length),(c.drop off).take (C.length*e)=C.flatten->
   ((jH (off+i*e) us c).drop off).take (C.length*e)=(C.set i (jH 0 us C[i])).flatten:=by
   intro us
   induction us with
   |nil=>intro _ c C _ hi hf;simp[jH];exact hf
   |cons u us ih=>
    obtain ⟨k,x⟩:=u
    intro hk c C hC hi hf
    have hk0:k<e:=hk (k,x) (List.mem_cons_self ..)
    have:=ih (fun u hu=>hk u (List.mem_cons_of_mem _ hu)) (c.set (off+i*e+k) x) (C.set i (C[i].set k x))
     (fun y hy=>by
      rcases List.mem_or_eq_of_mem_set hy with hy|hy
      ·exact hC y hy
      ·rw[hy,List.length_set];exact hC _ (List.getElem_mem hi))
     (by rw[List.length_set];exact hi)
     (by rw[List.length_set,hone k x hk0 C hC i hi,←hf,List.drop_set,Fz (by omega),List.take_set];congr 1;omega)
    rw[List.getElem_set_self,List.set_set] at this
    simp only[List.length_set] at this
    show ((jH (off+i*e) us (c.set (off+i*e+k) x)).drop off).take (C.length*e)=(C.set i (jH 0 us (C[i].set (0+k) x))).flatten
    rw[Nat.zero_add];exact this
  exact hall us hk c C h0 hi h4
theorem Sl.flat (h:Sl m v e C):re v:=by
 obtain ⟨_,⟨rfl,rfl⟩|⟨id,off,kc,w,c,rfl,_⟩⟩:=h<;>trivial
theorem Sl.same (h:Sl m v e C):bH (n+1) v v=true:=fv h.flat
theorem qn {c cs:List NV} {off e:Nat} (h:(c.drop off).take e=cs) (k:Nat) (hk:k<e):c[off+k]? =cs[k]? :=by
 rw[←h,List.getElem?_take_of_lt hk,List.getElem?_drop]
end
end Nm
namespace Nm
open Go Go.RowKit
variable {m:NH} {l cs:List NV} {t:Tm} {k cur:Nat} {ps:List (Nat×Nat×NOpd)} {S:Nat->List NV->Option NV} {C:List (List NV)}
section
variable {L:List (D4×NV)} {t:Tm} {ctx:Option NV} {m:NH} {K:NV->NH->Prop}
theorem zt {q:Bool}:(q==true)=q:=by cases q<;>rfl
theorem AH {q:Bool}:(q==false)= !q:=by cases q<;>rfl
theorem aX {l:List (AK×NO)} {S:List D4} (h:cA l=S):Chg S m (hp l k m):=h▸pP l k m
def wt (f:List NV->List NV) (o:Option (List NV)):Option (List NV):=match o with|some l=>some (f l)|none=>none
theorem yD {f:List NV->List NV}:wt f (some l)=some (f l):=_root_.id rfl
noncomputable def EW (t:Tm) (ps:List (Nat×Nat×NOpd)) (off k cur:Nat) (l:List NV) (o:Option (List NV)):Option (List NV):=match o with
 |some cs=>if cs.length=k/\cur<=off/\off - cur+k<=l.length then wt (fun r=>l.take (off - cur)++(cs++r)) (bK t ps (off+k) (l.drop (off - cur+k))) else none
 |none=>none
theorem Dn :bK t [] cur l=some l:=_root_.id rfl
theorem uA {α:Type} (K:List α->Option (List α)):∀(k:Nat) (l:List α),dO k K l=if k<=l.length then (match K (l.drop k) with|some r=>some (l.take k++r)|none=>none) else none:=by
 intro k
 induction k with
 |zero=>intro l;show K l=_;simp;cases K l<;>rfl
 |succ k ih=>
  intro l
  cases l with
  |nil=>simp;rfl
  |cons a l=>
   show Option.rec (motive:=fun _=>Option (List α)) none (fun t'=>some (a::t')) (dO k K l)=_
   rw[ih]
   by_cases h:k<=l.length
   ·rw[FA h,FA (by simpa using h),List.drop_succ_cons]
    cases K (l.drop k)<;>rfl
   ·rw[Fz h,Fz (by simpa using h)]
theorem Fk  {off:Nat} {x:NOpd}:bK t ((off,k,x)::ps) cur l=oO (ρ t x) fun v=>EW t ps off k cur l (cellsOf v):=by
 show Option.rec (motive:=fun _=>Option (List NV)) none (fun v:NV=>Option.rec (motive:=fun _=>Option (List NV)) none (fun cs=>cg cs fun j=>cond (Nat.beq j k) (cond (Nat.ble cur off)
  (dO (Nat.sub off cur) (fun l=>Option.rec (motive:=fun _=>Option (List NV)) none (fun l=>Option.rec (motive:=fun _=>Option (List NV)) none (fun l=>eL cs l some) (bK t ps (Nat.add off j) l)) (cj j l)) l) none) none) (cellsOf v)) (ρ t x)=_
 cases ρ t x with
 |none=>rfl
 |some v=>
  show Option.rec (motive:=fun _=>Option (List NV)) none (fun cs=>cg cs fun j=>cond (Nat.beq j k) (cond (Nat.ble cur off)
   (dO (Nat.sub off cur) (fun l=>Option.rec (motive:=fun _=>Option (List NV)) none (fun l=>Option.rec (motive:=fun _=>Option (List NV)) none (fun l=>eL cs l some) (bK t ps (Nat.add off j) l)) (cj j l)) l) none) none) (cellsOf v)=EW t ps off k cur l (cellsOf v)
  cases cellsOf v with
  |none=>rfl
  |some cs=>
   show cg cs (fun j=>cond (Nat.beq j k) (cond (Nat.ble cur off)
    (dO (Nat.sub off cur) (fun l=>Option.rec (motive:=fun _=>Option (List NV)) none (fun l=>Option.rec (motive:=fun _=>Option (List NV)) none (fun l=>eL cs l some) (bK t ps (Nat.add off j) l)) (cj j l)) l) none) none)=if cs.length=k/\cur<=off/\off - cur+k<=l.length then _ else _
   rw[aZ]
   cases hb:Nat.beq cs.length k with
   |false=>rw[Fz (fun h=>Nat.ne_of_beq_eq_false hb h.1)];rfl
   |true=>
    have hk:=FF hb
    subst hk
    cases hle:Nat.ble cur off with
    |false=>rw[Fz (fun h=>by rw[Nat.ble_eq_true_of_le h.2.1] at hle;cases hle)];rfl
    |true=>
     have hle:=Nat.le_of_ble_eq_true hle
     show dO (off - cur) (fun l=>Option.rec (motive:=fun _=>Option (List NV)) none (fun l=>Option.rec (motive:=fun _=>Option (List NV)) none (fun l=>eL cs l some) (bK t ps (off+cs.length) l)) (cj cs.length l)) l=_
     rw[uA]
     by_cases h1:off - cur<=l.length
     ·rw[FA h1,dL,List.length_drop]
      by_cases h2:cs.length<=l.length - (off - cur)
      ·rw[FA h2,FA ⟨rfl,hle,by omega⟩,List.drop_drop]
       dsimp only
       cases bK t ps (off+cs.length) (l.drop (off - cur+cs.length)) with
       |none=>rfl
       |some r=>dsimp only[wt];rw[dc]
      ·rw[Fz h2,Fz (fun h=>h2 (by omega))]
     ·rw[Fz h1,Fz (fun h=>h1 (by omega))]
theorem Di  {off:Nat} (h1:cs.length=k) (h2:cur<=off) (h3:off - cur+k<=l.length):
 EW t ps off k cur l (some cs)=wt (fun r=>l.take (off - cur)++(cs++r)) (bK t ps (off+k) (l.drop (off - cur+k))):=FA ⟨h1,h2,h3⟩
theorem mF.wf' {P:Program} {E:NV->NH->Prop} {f:Nat} {args:List NV} {m':NH} {v:NV} (h:mF P S f args m v m') {K:NV->NH->Prop}:WF ⟨P,E⟩ S f args m K=K v m':=by
 rw[h.wf,ag]
theorem u3 (m:NH) (o:NO):hp [(.n 0,o)] 1 m=m.add o:=by
 have:=tz (m:=m) (l:= []) (k:=0) (o:=o)
 rw[ag] at this
 exact this.symm
theorem c9.app1  {B:NH} {v:NV} {e:Nat} {x:D4} {w:Bool} {kc bytes:Nat} (hv:c9 B m v e C) (hx:m.get x=some (.cells w cs)) (hox:aI m x) (hl:cs.length=e) (hB:∀id,aI B id->aI m id)
 (hr:(C.length+1)*bytes<=1099511627776) (hr':C.length+1<=1099511627776):∃v' m',u7 e bytes m v (.slc x 0 1 e kc)= .mem v' m'/\c9 B m' v' e (C++ [cs])/\Chg (ids v) m m':=
 hv.app (D:= [cs]) ⟨fun y hy=>by simp at hy;rw[hy];exact hl,Or.inr ⟨x,0,kc,w,cs,rfl,hx,hox,by subst hl;simp,by subst hl;simp⟩⟩ (by simp) hB hr hr'
theorem vV {P:PE} {dst:D4} {L:List (D4×NV)} {dfs:List Dfr} {ctx:Option NV} {K:Dyn->Prop} {B:NH} {v:NV} {e:Nat} {x:D4} {w:Bool} {kc bytes:Nat} (hv:c9 B m v e C) (hx:m.get x=some (.cells w cs)) (hox:aI m x) (hl:cs.length=e) (hB:∀id,aI B id->aI m id)
 (hr:(C.length+1)*bytes<=1099511627776) (hr':C.length+1<=1099511627776) (h:∀v' m',c9 B m' v' e (C++ [cs])->Chg (ids v) m m'->K ⟨ap ((dst,v')::L) t,dfs,ctx,hp [] 0 m'⟩):
 wN P S (some dst) (ap L t) dfs ctx m (u7 e bytes m v (.slc x 0 1 e kc)) K:=by
 obtain ⟨v',m',h1,h2,h3⟩:=hv.app1 (bytes:=bytes) (kc:=kc) hx hox hl hB hr hr'
 have:=h v' m' h2 h3
 rw[ag] at this
 rw[h1];exact this
theorem zV {b:Bool}:cellsOf (.bool b)=some [.bool b]:=_root_.id rfl
theorem BO {k:IntKind} {x:SI}:cellsOf (.int k x)=some [.int k x]:=_root_.id rfl
theorem DL {l:List Nat}:cellsOf (.str l)=some [.str l]:=_root_.id rfl
theorem DY {i:D4} {o:Nat}:cellsOf (.ptr i o)=some [.ptr i o]:=_root_.id rfl
theorem AT:cellsOf (.nils)=some [.nils]:=_root_.id rfl
theorem CP {i:D4} {o n e:Nat}:cellsOf (.slc i o n e k)=some [.slc i o n e k]:=_root_.id rfl
theorem CC :cellsOf (.agg l)=some l:=_root_.id rfl
noncomputable def D0 (m:NH) (o:Option (List NV)):NR:=match o with|some cs=> .mem (.ptr m.next 0) (m.add (.cells true cs))|none=> .fail
theorem BU  {x:NOpd} {ty:Nat}:ae (.box x ty) t m=oN (ρ t x) fun v=>D0 m (cellsOf v):=zB
theorem CL :D0 m (some cs)= .mem (.ptr m.next 0) (m.add (.cells true cs)):=_root_.id rfl
abbrev ii (z:Int):NV:= .int .i64 (.lit z)
end
end Nm
namespace Nm
open Go Go.RowKit
variable {K Φ:NV->NH->Prop} {t:Tm} {dfs:List Dfr} {v:NV} {m':NH} {ps:List D4} {a b:NC} {tm:NT NV} {o:Out} {rs:List NRes} {Q:Out->Dyn->Prop}
def lU (P:Program) (S:Nat->List NV->Option NV) (q:D4) (args:List NV) (m:NH) (v:NV) (m':NH):Prop:=∃c,oh P S q args m (.val v c m')
def WY (P:Program) (S:Nat->List NV->Option NV) (q:D4) (args:List NV) (m:NH) (K:NV->NH->Prop):Prop:=∃v c m',oh P S q args m (.val v c m')/\K v m'
section
variable {P:Program} {S:Nat->List NV->Option NV} {f:Nat} {q:D4} {args:List NV} {m:NH}
theorem oh.det {x y:CR} (h:oh P S q args m x) (h':oh P S q args m y):x=y:=by
 obtain ⟨hn,n,e⟩:=h
 obtain ⟨hn',k,e'⟩:=h'
 rw[←dD (bc (Nat.le_max_left n k)) e hn,dD (bc (Nat.le_max_right n k)) e' hn']
theorem lU.wy  (h:lU P S q args m v m'):WY P S q args m K=K v (hp [] 0 m'):=by
 rw[ag]
 apply propext
 constructor
 ·rintro ⟨u,c,n,hc,hk⟩
  obtain ⟨c',h'⟩:=h
  have:=oh.det hc h'
  injection this with a _ b
  rw[←a,←b];exact hk
 ·intro hk
  obtain ⟨c,h⟩:=h
  exact ⟨v,c,m',h,hk⟩
def xu (q:D4) (K:NV->NH->Prop) (o:Out) (d:Dyn):Prop:=match d.h.get q with
 |some (.loop _ _ tm ps a b)=>(match o with
  | .norm=>K (.bool true) (d.h.put q (.loop 0 .none tm ps a b))
  | .ret=>K (.bool false) (d.h.put q (.loop 2 .ret tm ps a b))
  | .exit i=>K (.bool false) (d.h.put q (.loop 2 (.exit i) tm ps a b))
  | .pan _=>False)
 |_=>False
theorem WY.of_wp {p:Jump} {A B:NC} (hm:m.get q=some (.loop 0 p tm ps a b)) (hlen:args.length=ps.length) (ea:a=A) (eb:b=B)
 (h:wp P S (some q) A ⟨kW ps args tm, [],none,hp [] 0 m⟩ (fun o d=>o= .norm/\d.dfs= []/\d.h.get q=some (.loop 0 p tm ps a b)/\wp P S (some q) B ⟨d.t, [],none,d.h.put q (.loop 1 p tm ps a b)⟩ (xu q K))):WY P S q args m K:=by
 subst ea eb
 rw[ag] at h
 obtain ⟨o,d1,h1,h2⟩:=bu _ _ _ h
 cases o with
 |pan v=>exact h2.2.elim
 |ret=>exact Fy h2.1 (by simp)
 |exit i=>exact Fy h2.1 (by simp)
 |norm=>
 obtain ⟨-,hd,hq,h2⟩:=h2
 obtain ⟨o,d2,h3,h4⟩:=bu _ _ _ h2
 have h4:xu q K o d2:=by
  cases o with
  |pan v=>exact h4.2.elim
  |_=>exact h4
 unfold xu at h4
 cases hg:d2.h.get q with
 |none=>rw[hg] at h4;exact h4.elim
 |some w=>
  rw[hg] at h4
  cases w with
  |loop st p2 tm2 ps2 a2 b2=>
   cases o with
   |norm=>exact ⟨_,none,_,oh.of hm hlen h1 hd hq h3 (by simp) (by unfold cw;rw[hg];exact NH.set_eq _ _ _ _) (by simp),h4⟩
   |ret=>exact ⟨_,none,_,oh.of hm hlen h1 hd hq h3 (by simp) (by unfold cw;rw[hg];exact NH.set_eq _ _ _ _) (by simp),h4⟩
   |exit i=>exact ⟨_,none,_,oh.of hm hlen h1 hd hq h3 (by simp) (by unfold cw;rw[hg];exact NH.set_eq _ _ _ _) (by simp),h4⟩
   |pan v=>exact h4.elim
  |_=>exact h4.elim
noncomputable def Fw (q:D4) (K:NV->NH->Prop) (o:Out) (m:NH) (x:Option NO):Prop:=match x with
 |some (.loop _ _ tm ps a b)=>(match o with
  | .norm=>K (.bool true) (m.put q (.loop 0 .none tm ps a b))
  | .ret=>K (.bool false) (m.put q (.loop 2 .ret tm ps a b))
  | .exit i=>K (.bool false) (m.put q (.loop 2 (.exit i) tm ps a b))
  | .pan _=>False)
 |_=>False
theorem zr  {ctx:Option NV}:xu q K o ⟨t,dfs,ctx,m⟩=Fw q K o m (m.get q):=_root_.id rfl
section
variable {K:NV->NH->Prop} {st:Nat} {p:Jump} {tm:NT NV} {ps:List D4} {a b:NC} {i:Nat}
theorem BQ:Fw q K .norm m (some (.loop st p tm ps a b))=K (.bool true) (m.put q (.loop 0 .none tm ps a b)):=_root_.id rfl
end
theorem WY.ret  (h:WY P S q args m K):∃v m',lU P S q args m v m'/\K v m':=by
 obtain ⟨v,c,m',hc,hk⟩:=h;exact ⟨v,m',⟨c,hc⟩,hk⟩
theorem WY.ex  (h:∀K:NV->NH->Prop,(∀v m',Φ v m'->K v m')->WY P S q args m K):∃v m',lU P S q args m v m'/\Φ v m':=(h Φ fun _ _ h=>h).ret
theorem WF.ex  (h:∀K:NV->NH->Prop,(∀v m',Φ v m'->K v m')->WF P S f args m K):∃v m',mF P S f args m v m'/\Φ v m':=(h Φ fun _ _ h=>h).ret
def nD (ks:List D4) (t t':Tm):Prop:=∀k,k∉ks->NT.get k t'=NT.get k t
theorem nD.refl (ks:List D4) (t:Tm):nD ks t t:=fun _ _=>rfl
theorem nD.get {ks:List D4} {t':Tm} (h:nD ks t t') {k:D4} {v:Option NV} (g:NT.get k t=v) (hk:k∉ks):NT.get k t'=v:=(h k hk).trans g
theorem nD.trans {ks ls:List D4} {a b c:Tm} (h:nD ks a b) (h':nD ls b c) (hs:∀k∈ls,k∈ks):nD ks a c:=fun k hk=>(h' k fun q=>hk (hs k q)).trans (h k hk)
noncomputable def r9:List Dfr->NH->Option NH
 | [],m=>some m
 | .mark id::l,m=>(match m.get id with|some (.defd true)=>r9 l (m.put id (.defd false))|_=>none)
 | .call ..::_,_=>none
def zl (rs:List NRes) (K:NV->NH->Prop) (o:Out) (d:Dyn):Prop:=(o= .norm∨o= .ret)/\∃m',r9 d.dfs d.h=some m'/\∃v,bE m' d.t rs .fail (fun l=> .val (ez l) d.ctx m')= .val v d.ctx m'/\K v m'
theorem jz {F:Nat->List NV->Option NV->NH->CR} {K:Option NV->NH->CR}:∀(l:List Dfr) (m m':NH) (p:Option NV),r9 l m=some m'->unwind F K l p m=K p m':=by
 intro l
 induction l with
 |nil=>intro m m' p h;injection h with h;rw[←h];rfl
 |cons c l ih=>
  intro m m' p h
  cases c with
  |call f cap=>cases h
  |mark id=>
   show (match m.get id with
    |some (.defd true)=>m.set id (.defd false) fun h=>unwind F K l p h
    |_=>CR.fail)=_
   change (match m.get id with|some (.defd true)=>r9 l (m.put id (.defd false))|_=>none)=some m' at h
   cases hg:m.get id with
   |none=>rw[hg] at h;cases h
   |some o=>
    rw[hg] at h
    cases o with
    |defd b=>cases b with
     |true=>dsimp only at h ⊢;rw[NH.set_eq];exact ih _ _ _ h
     |false=>cases h
    |_=>cases h
theorem Call.of_runM {nf:NFun} (hs:∀l,S f l=none) (hf:av P f=some (.code nf)) {d:Dyn} (ho:o= .norm∨o= .ret) (h:b7 P S none nf.body ⟨bJ args 0 .leaf, [],none,m⟩ o d)
 (hd:r9 d.dfs d.h=some m') (hv:bE m' d.t nf.results .fail (fun l=> .val (ez l) d.ctx m')= .val v d.ctx m'):Call P S f args m (.val v d.ctx m'):=by
 obtain ⟨n,hn⟩:=h
 refine ⟨by simp,n, ?_⟩
 unfold bh
 rw[hs args]
 dsimp only
 rw[hf]
 show bI P (ev P S n) 3 f args none m=_
 rw[bV,hf]
 dsimp only
 rw[hn]
 rcases ho with rfl|rfl
 ·show unwind _ (finish nf.results d) d.dfs none d.h=_
  rw[jz _ _ _ _ hd];exact hv
 ·show unwind _ (finish nf.results d) d.dfs none d.h=_
  rw[jz _ _ _ _ hd];exact hv
theorem WF.of_wpM {nf:NFun} (hs:∀l,S f l=none) (hf:av P f=some (.code nf)) {L:List (D4×NV)} (hL:bJ args 0 .leaf=ap L .leaf)
 (h:wp P S none nf.body ⟨ap L .leaf, [],none,hp [] 0 m⟩ (zl nf.results K)):WF P S f args m K:=by
 rw[ag] at h
 obtain ⟨o,d,h1,h2⟩:=bu _ _ _ h
 rw[←hL] at h1
 cases o with
 |pan v=>exact h2.2.elim
 |_=>
  obtain ⟨ho,m',hd,v,hv,hK⟩:=h2
  exact Or.inl ⟨v,d.ctx,m',Call.of_runM hs hf ho h1 hd hv,hK⟩
noncomputable def Fp (rs:List NRes) (K:NV->NH->Prop) (t:Tm) (ctx:Option NV) (o:Option NH):Prop:=match o with|some m'=>wW rs K .ret ⟨t, [],ctx,m'⟩|none=>False
theorem v8  {ctx:Option NV} (ho:o= .norm∨o= .ret):zl rs K o ⟨t,dfs,ctx,m⟩=Fp rs K t ctx (r9 dfs m):=by
 apply propext
 constructor
 ·rintro ⟨_,m',h1,v,h2,h3⟩
  change r9 dfs m=some m' at h1
  rw[h1]
  exact ⟨Or.inr rfl,rfl,v,h2,h3⟩
 ·intro h
  cases hu:r9 dfs m with
  |none=>rw[hu] at h;exact h.elim
  |some m'=>
   rw[hu] at h
   obtain ⟨_,_,v,h2,h3⟩:=h
   exact ⟨ho,m',hu,v,h2,h3⟩
theorem xL  {ctx:Option NV}:zl rs K .ret ⟨t,dfs,ctx,m⟩=Fp rs K t ctx (r9 dfs m):=v8 (.inr rfl)
theorem D2  {ctx:Option NV}:Fp rs K t ctx (some m)=wW rs K .ret ⟨t, [],ctx,m⟩:=_root_.id rfl
theorem wv {P:PE} {r:Option D4} {g:NOpd} {d:Dyn}:wp P S r (.rangeFunc g ps a b) d Q=W P S r (.rangeFunc g ps a b) d Q:=_root_.id rfl
theorem x9:r9 [] m=some m:=_root_.id rfl
noncomputable def DV (l:List Dfr) (i:D4) (m:NH) (o:Option NO):Option NH:=match o with|some (.defd true)=>r9 l (m.put i (.defd false))|_=>none
theorem Ds {l:List Dfr} {i:D4}:r9 (.mark i::l) m=DV l i m (m.get i):=_root_.id rfl
theorem AD {l:List Dfr} {i:D4}:DV l i m (some (.defd true))=r9 l (m.put i (.defd false)):=_root_.id rfl
theorem W.range {cap:List NV} {fx:NOpd} {ctx:Option NV} {M:NH}
 (hf:ρ t fx=some (.fn f cap)) {x:D4} (hx:m.next=x) {y:D4} (hy:(m.add (.defd true)).next=y) (hM:(m.add (.defd true)).add (.loop 0 .none t ps a b)=M) (hc:mF P S f (.yld y::cap) M v m') {ps':List D4} {a' b':NC} (hl:m'.get y=some (.loop 0 .none tm ps' a' b')) (hQ:Q .norm ⟨t,.mark x::dfs,ctx,hp [] 0 (m'.put y (.loop 3 .none tm ps' a' b'))⟩):
 W P S none (.rangeFunc fx ps a b) ⟨t,dfs,ctx,m⟩ Q:=by
 subst hx hy hM
 rw[ag] at hQ
 obtain ⟨c,hc⟩:=hc
 refine ⟨.norm,_,b7.range hf hc ?_,hQ⟩
 unfold dK
 rw[hl]
 dsimp only
 rw[show Nat.beq 0 1=false from rfl,cond_false,NH.set_eq]
theorem W.rangeN {cap:List NV} {fx:NOpd} {ctx:Option NV}
 (hf:ρ t fx=some (.fn f cap)) (hc:mF P S f (.yld (na m 1)::cap) (hp [(.n 1,.loop 0 .none t ps a b),(.n 0,.defd true)] 2 m) v m') {ps':List D4} {a' b':NC} (hl:m'.get (na m 1)=some (.loop 0 .none tm ps' a' b')) (hQ:Q .norm ⟨t,.mark (na m 0)::dfs,ctx,hp [(.o (na m 1),.loop 3 .none tm ps' a' b')] 0 m'⟩) (ho:aI m' (na m 1)):
 W P S none (.rangeFunc fx ps a b) ⟨t,dfs,ctx,m⟩ Q:=by
 have e1:(m.add (.defd true)).next=na m 1:=by rw[←u3];rfl
 refine W.range hf (qK m).symm e1 ?_ hc hl ?_
 ·rw[←u3 m (.defd true),tz]
 ·rw[←my ho,ag] at hQ
  rw[ag];exact hQ
end
end Nm
namespace Nm
open Go Go.RowKit
variable {args:List NV} {f i:Nat}
section
variable (P:PE) (S:Nat->List NV->Option NV) (r:Option D4)
def Ef (c:NC) (Q:Out->Dyn->Prop) (d:Dyn):Prop:=wp P S r c d Q
def uZ (dst:Option D4) (t:Tm) (dfs:List Dfr) (ctx:Option NV) (m:NH) (x:NR) (l:List NOper) (K:Dyn->Prop):Prop:=wN P S dst t dfs ctx m x fun d=>wO P S l d K
def qz (dst:Option D4) (t:Tm) (dfs:List Dfr) (ctx:Option NV) (l:List NOper) (K:Dyn->Prop) (v:NV) (m:NH):Prop:=wO P S l ⟨ay dst v t,dfs,ctx,m⟩ K
def gA (dst:Option D4) (op:NOp) (l:List NOper) (K:Dyn->Prop) (d:Dyn):Prop:=uZ P S dst d.t d.dfs d.ctx d.h (ae op d.t d.h) l K
def gB (dst:Option D4) (l:List NOper) (K:Dyn->Prop) (d:Dyn):Prop:=wO P S l ⟨ay dst aA d.t,d.dfs,d.ctx,d.h⟩ K
def dA (dst:Option D4) (op:NOp) (pre idx:Nat) (l:List NOper) (hs:List (Nat×NH)) (rs:List (Nat×(NH->NR)×NV)) (K:Dyn->Prop) (d:Dyn):Prop:=wX (ai op) (ae op d.t d.h) P S (ae op d.t) dst pre idx l hs rs d K
def dB (dst:Option D4) (l:List NOper) (hs:List (Nat×NH)) (rs:List (Nat×(NH->NR)×NV)) (K:Dyn->Prop) (d:Dyn):Prop:=wD P S l hs rs ⟨ay dst aA d.t,d.dfs,d.ctx,d.h⟩ K
def Dg (pre idx:Nat) (m:NH) (l:List NOper) (hs:List (Nat×NH)) (rs:List (Nat×(NH->NR)×NV)) (K:Dyn->Prop) (d:Dyn):Prop:=aK pre d.h rs=true/\wD P S l ((idx,m)::hs) rs d K
def uV (dst:Option D4) (t:Tm) (dfs:List Dfr) (ctx:Option NV) (K:Dyn->Prop) (v:NV) (m:NH):Prop:=K ⟨ay dst v t,dfs,ctx,m⟩
end
section
variable {P:PE} {S:Nat->List NV->Option NV} {r:Option D4} {dst:Option D4} {op:NOp} {pre idx:Nat} {l:List NOper} {hs:List (Nat×NH)} {rs:List (Nat×(NH->NR)×NV)}
 {L:List (D4×NV)} {t:Tm} {dfs:List Dfr} {ctx:Option NV} {m m':NH} {v:NV} {k g:D4} {d:Dyn} {Q:Out->Dyn->Prop} {K:Dyn->Prop} {b:Bool}
theorem BW {x y:NC}:wp P S r (.seq x y) d Q=wp P S r x d (iu (Ef P S r y Q) Q):=_root_.id rfl
theorem CQ {c:NC}:Ef P S r c Q d=wp P S r c d Q:=_root_.id rfl
theorem zu {g:NOpd} {x y:NC}:wp P S r (.cond g x y) ⟨ap L t,dfs,ctx,m⟩ Q=wC (ρ (ap L t) g) (Ef P S r x Q) (Ef P S r y Q) ⟨ap L t,dfs,ctx,m⟩:=_root_.id rfl
theorem zS:wO P S (⟨dst,op,none,pre,idx⟩::l) ⟨ap L t,dfs,ctx,m⟩ K=uZ P S dst (ap L t) dfs ctx m (ae op (ap L t) m) l K:=_root_.id rfl
theorem Dj:uZ P S (some k) (ap L t) dfs ctx m (.val v) l K=wO P S l ⟨ap ((k,v)::L) t,dfs,ctx,m⟩ K:=_root_.id rfl
theorem Cu:uZ P S (some k) (ap L t) dfs ctx m (.mem v m') l K=wO P S l ⟨ap ((k,v)::L) t,dfs,ctx,m'⟩ K:=_root_.id rfl
theorem yX:uZ P S none (ap L t) dfs ctx m (.mem v m') l K=wO P S l ⟨ap L t,dfs,ctx,m'⟩ K:=_root_.id rfl
theorem xV :uZ P S dst t [] ctx m (.call f args) l K=WF P S f args m (qz P S dst t [] ctx l K):=_root_.id rfl
theorem xh {x:Dfr}:uZ P S dst t (x::dfs) ctx m (.call f args) l K=WF P.p S f args m (qz P S dst t (x::dfs) ctx l K):=_root_.id rfl
theorem CX {v:NV}:uZ P S dst t [] ctx m (.pan v) l K=P.E v m:=_root_.id rfl
theorem DP {q:D4}:uZ P S dst t dfs ctx m (.yld q args) l K=WY P.p S q args m (qz P S dst t dfs ctx l K):=_root_.id rfl
theorem xk:qz P S (some k) (ap L t) dfs ctx l K v m=wO P S l ⟨ap ((k,v)::L) t,dfs,ctx,m⟩ K:=_root_.id rfl
theorem vX:wO P S (⟨dst,op,some (g,b),pre,idx⟩::l) ⟨ap L t,dfs,ctx,m⟩ K=wG (d8 g L (NT.get g t)) b (gA P S dst op l K) (gB P S dst l K) ⟨ap L t,dfs,ctx,m⟩:=xm
theorem Eu:gA P S dst op l K ⟨ap L t,dfs,ctx,m⟩=uZ P S dst (ap L t) dfs ctx m (ae op (ap L t) m) l K:=_root_.id rfl
theorem E8:gB P S (some k) l K ⟨ap L t,dfs,ctx,m⟩=wO P S l ⟨ap ((k,aA)::L) t,dfs,ctx,m⟩ K:=_root_.id rfl
theorem ub:wD P S (⟨dst,op,some (g,b),pre,idx⟩::l) hs rs ⟨ap L t,dfs,ctx,m⟩ K=wG (d8 g L (NT.get g t)) b (dA P S dst op pre idx l hs rs K) (dB P S dst l hs rs K) ⟨ap L t,dfs,ctx,m⟩:=ue
theorem E6:dA P S dst op pre idx l hs rs K ⟨ap L t,dfs,ctx,m⟩=wX (ai op) (ae op (ap L t) m) P S (ae op (ap L t)) dst pre idx l hs rs ⟨ap L t,dfs,ctx,m⟩ K:=_root_.id rfl
theorem E3:dB P S (some k) l hs rs K ⟨ap L t,dfs,ctx,m⟩=wD P S l hs rs ⟨ap ((k,aA)::L) t,dfs,ctx,m⟩ K:=_root_.id rfl
def Dk (b:Bool) (P:PE) (S:Nat->List NV->Option NV) (dst:Option D4) (t:Tm) (dfs:List Dfr) (ctx:Option NV) (m:NH) (x:NR) (K:Dyn->Prop):Prop:=Fj P S b dst t dfs ctx m x K
section
variable {f:NH->NR}
theorem yj {x:NR}:wX .eff x P S f dst pre idx l hs rs ⟨t,dfs,ctx,m⟩ K=(ahead pre hs=true/\Dk (kG hs idx l) P S dst t dfs ctx m x (Dg P S pre idx m l hs rs K)):=_root_.id rfl
end
theorem zb:Dk b P S (some k) (ap L t) dfs ctx m (.mem v m') K=K ⟨ap ((k,v)::L) t,dfs,ctx,m'⟩:=by cases b<;>rfl
theorem vU:Dk b P S none (ap L t) dfs ctx m (.mem v m') K=K ⟨ap L t,dfs,ctx,m'⟩:=by cases b<;>rfl
theorem wz :Dk true P S dst t [] ctx m (.call f args) K=WF P S f args m (uV dst t [] ctx K):=_root_.id rfl
theorem tV {P:Program}:Dk b P S dst t dfs ctx m (.call f args) K=WF P S f args m (uV dst t dfs ctx K):=by cases b<;>cases dfs<;>rfl
theorem AE {x:Nat×NH}:kG (x::hs) i l=false:=_root_.id rfl
theorem vx :kG [] i l=aU i l:=_root_.id rfl
theorem AN :aU i []=true:=_root_.id rfl
theorem DT  {g:Option (D4×Bool)}:aU i (⟨dst,op,g,pre,idx⟩::l)=cond (Nat.testBit pre i) (aU i l) false:=_root_.id rfl
theorem wm:uV (some k) (ap L t) dfs ctx K v m=K ⟨ap ((k,v)::L) t,dfs,ctx,m⟩:=_root_.id rfl
theorem zP {m0:NH}:Dg P S pre idx m0 l hs rs K ⟨t,dfs,ctx,m⟩=(aK pre m rs=true/\wD P S l ((idx,m0)::hs) rs ⟨t,dfs,ctx,m⟩ K):=_root_.id rfl
theorem tQ {B:NH} {e:Nat} {C:List (List NV)} {x:D4} {w:Bool} {cs:List NV} {kc bytes:Nat} (hv:c9 B m v e C) (hx:m.get x=some (.cells w cs)) (hox:aI m x) (hl:cs.length=e) (hB:∀id,aI B id->aI m id)
 (hr:(C.length+1)*bytes<=1099511627776) (hr':C.length+1<=1099511627776) (h:∀v' m',c9 B m' v' e (C++ [cs])->Chg (ids v) m m'->wO P S l ⟨ap ((k,v')::L) t,dfs,ctx,hp [] 0 m'⟩ K):
 uZ P S (some k) (ap L t) dfs ctx m (u7 e bytes m v (.slc x 0 1 e kc)) l K:=vV hv hx hox hl hB hr hr' h
end
end Nm
namespace Nm
open Go Go.RowKit
variable {x:NOpd} {s:List Nat} {k:IntKind} {v:NV} {K:NV->NH->Prop} {b a:Nat} {n:Int} {rs l:List NRes} {lo hi:Option NOpd} {S:Nat->List NV->Option NV}
section
variable {t:Tm} {m:NH}
def xK (v:NV):NR:=match v with| .str s=> .val (.int .i64 (.lit (s.length:Int)))|_=> .fail
theorem yn :ae (.lenStr x) t m=oN (ρ t x) xK:=by
 show wV t x (fun v=>match v with| .str s=>cg s fun n=> .val (.int .i64 (.lit (.ofNat n)))|_=> .fail)=_
 rw[bn]
 congr 1
 funext v
 cases v with
 |str s=>exact aZ s (fun n=>NR.val (.int .i64 (.lit (.ofNat n))))
 |_=>rfl
theorem wa :xK (.str s)= .val (.int .i64 (.lit (s.length:Int))):=_root_.id rfl
noncomputable def AS (v i:NV):NR:=aC (iK i) fun i=>match v with| .str s=>aC s[i]? fun b=> .val (.int .u8 (.lit (.ofNat b)))|_=> .fail
theorem DI  {i:NOpd}:ae (.indexStr x i) t m=oN (ρ t x) fun v=>oN (ρ t i) fun i=>AS v i:=by
 show wV t x (fun v=>dk t i fun i=>match v with
  | .str s=>aC (eR s i) fun b=> .val (.int .u8 (.lit (.ofNat b)))
  |_=> .fail)=_
 rw[bn]
 congr 1
 funext v
 unfold dk
 rw[bn]
 congr 1
 funext i
 unfold AS
 congr 1
 funext i
 cases v with
 |str s=>dsimp only;rw[cL]
 |_=>rfl
def x0 (o:Option Nat):NR:=match o with|some b=> .val (.int .u8 (.lit (b:Int)))|none=> .fail
theorem DZ  {z:Int} (h0:0<=z):AS (.str s) (.int k (.lit z))=x0 s[z.toNat]? :=by
 obtain ⟨i,rfl⟩:=FG h0
 show aC s[i]? (fun b=> .val (.int .u8 (.lit (.ofNat b))))=x0 s[i]?
 cases s[i]? <;>rfl
theorem zO :x0 (some b)= .val (.int .u8 (.lit (b:Int))):=_root_.id rfl
noncomputable def wY (s:List Nat) (a b:Nat):NR:=cond (Nat.ble a b) (aC (d6 b s) fun s=>aC (cj a s) fun s=> .val (.str s)) .fail
noncomputable def zF (t:Tm) (lo hi:Option NOpd) (v:NV):NR:=match v with
 | .str s=>sU t hi s.length fun b=>sU t lo 0 fun a=>wY s a b
 |_=> .fail
theorem BR :ae (.sliceStr x lo hi) t m=oN (ρ t x) (zF t lo hi):=by
 show wV t x (fun v=>match v with
  | .str s=>cg s fun n=>cW t hi n fun b=>cW t lo 0 fun a=>cond (Nat.ble a b) (aC (d6 b s) fun s=>aC (cj a s) fun s=> .val (.str s)) .fail
  |_=> .fail)=_
 rw[bn]
 congr 1
 funext v
 cases v with
 |str s=>
  dsimp only[zF]
  rw[aZ,lg]
  congr 1
  funext b
  rw[lg]
  rfl
 |_=>rfl
theorem zn :zF t lo hi (.str s)=sU t hi s.length fun b=>sU t lo 0 fun a=>wY s a b:=_root_.id rfl
theorem BX  (h:a<=b) (h':b<=s.length):wY s a b= .val (.str ((s.take b).drop a)):=by
 unfold wY
 rw[Nat.ble_eq_true_of_le h,d9,FA h']
 show aC (cj a (s.take b)) _=_
 rw[dL,FA (by rw[List.length_take];omega)];rfl
abbrev tc (s:List Nat):List (List NV):=s.map fun (b:Nat)=> [NV.int .u8 (.lit (b:Int))]
noncomputable def w9 (m:NH) (v:NV):NR:=dv 1 m v fun _ l=>aC (cI l) fun s=> .val (.str s)
theorem D6 :ae (.bytesToStr x) t m=oN (ρ t x) (w9 m):=by
 show wV t x (fun v=>dv 1 m v fun _ l=>aC (cI l) fun s=> .val (.str s))=_
 rw[bn];rfl
theorem xo  (h:∀b∈s,b<256):cI (tc s).flatten=some s:=by
 induction s with
 |nil=>rfl
 |cons b s ih=>
  show xA (.int .u8 (.lit (.ofNat b))) (cI (tc s).flatten)=_
  rw[ih fun x hx=>h x (List.mem_cons_of_mem _ hx)]
  show cond (Nat.ble b 255) (some (b::s)) none=_
  rw[Nat.ble_eq_true_of_le (by have:=h b (List.mem_cons_self ..);omega)];rfl
theorem Sl.bts  (h:Sl m v 1 (tc s)) (hb:∀b∈s,b<256):w9 m v= .val (.str s):=by
 unfold w9
 rw[k7 h,xo hb];rfl
theorem DA {a b:List Nat}:da .num .eql (.str a) (.str b)=some (.bool (decide (a=b))):=by
 show bf (sg a b)=_
 rw[aJ]
 congr 2
 rw[Bool.eq_iff_iff,decide_eq_true_eq]
 constructor
 ·intro h
  induction a generalizing b with
  |nil=>cases b with
   |nil=>rfl
   |cons=>cases h
  |cons x a ih=>cases b with
   |nil=>cases h
   |cons y b=>
    change cond (Nat.beq x y) (sg a b) false=true at h
    cases hxy:Nat.beq x y with
    |false=>rw[hxy] at h;cases h
    |true=>rw[hxy] at h;rw[FF hxy,ih h]
 ·rintro rfl;exact mU a
theorem wrap_u64 :bz .u64 n=n % 18446744073709551616:=by rw[bq];rfl
theorem wrap_u8 :bz .u8 n=n % 256:=by rw[bq];rfl
theorem z8 {a b:Int}:da .num .add (.int .u64 (.lit a)) (.int .u64 (.lit b))=some (.int .u64 (.lit ((a+b) % 18446744073709551616))):=by
 refine (iY rfl).trans ?_
 show bG .u64 (bz .u64 (nY a b))=_
 rw[lZ,wrap_u64,aF]
theorem yJ {a b:Int}:da .num .mul (.int .u64 (.lit a)) (.int .u64 (.lit b))=some (.int .u64 (.lit ((a*b) % 18446744073709551616))):=by
 refine (iY rfl).trans ?_
 show bG .u64 (bz .u64 (pF a b))=_
 rw[gQ,wrap_u64,aF]
theorem AA {a b:Int}:da .num .sub (.int .u8 (.lit a)) (.int .u8 (.lit b))=some (.int .u8 (.lit ((a - b) % 256))):=by
 refine (iY rfl).trans ?_
 show bG .u8 (bz .u8 (pL a b))=_
 rw[gE,wrap_u8,aF]
theorem tE  {n:Nat} (hn:n<=64):da .num .shr (.int .u64 (.lit (a:Int))) (.int k (.lit (n:Int)))=some (.int .u64 (.lit ((a / 2 ^ n:Nat):Int))):=by
 show xe .u64 (Int.ofNat a) (Int.ofNat n)=_
 show bG .u64 (.ofNat (Nat.div a (Nat.pow 2 (rg .u64 n))))=_
 rw[show rg .u64 n=n from by unfold rg;rw[show Nat.ble n (IntKind.bits .u64)=true from Nat.ble_eq_true_of_le hn];rfl,aF];rfl
theorem tB  (ha:a<18446744073709551616) (hb:b<18446744073709551616):da .num .and (.int .u64 (.lit (a:Int))) (.int .u64 (.lit (b:Int)))=some (.int .u64 (.lit ((a&&& b:Nat):Int))):=by
 refine (iY rfl).trans ?_
 show dG .and .u64 (Int.ofNat a) (Int.ofNat b)=_
 unfold dG
 dsimp only
 rw[show Nat.ble (Nat.succ a) (aN .u64)=true from Nat.ble_eq_true_of_le ha,show Nat.ble (Nat.succ b) (aN .u64)=true from Nat.ble_eq_true_of_le hb]
 show bG .u64 (.ofNat (Nat.land a b))=_
 rw[aF];rfl
noncomputable def y8 (k:IntKind) (v:NV):NR:=match v with| .int _ (.lit n)=> .val (.int k (.lit (bz k n)))|_=> .fail
theorem Dp :ae (.toInt k x) t m=oN (ρ t x) (y8 k):=by
 show wV t x (fun v=>match v with| .int _ (.lit n)=>vr (bG k (bz k n))|_=> .fail)=_
 rw[bn]
 congr 1
 funext v
 cases v with
 |int k' x=>cases x with
  |lit n=>show vr (bG k (bz k n))=_;rw[aF];rfl
 |_=>rfl
theorem zN :y8 .u64 (.int k (.lit n))= .val (.int .u64 (.lit (n % 18446744073709551616))):=by show NR.val (.int .u64 (.lit (bz .u64 n)))=_;rw[wrap_u64]
noncomputable def xG (v:NV):NR:=match v with| .ptr i o=> .val (.ptr i o)| .fn f c=> .val (.fn f c)| .yld l=> .val (.yld l)|_=> .fail
theorem yL :ae (.nilCheck x) t m=oN (ρ t x) xG:=by
 show wV t x _=_
 rw[bn]
 cases ρ t x with
 |none=>rfl
 |some v=>cases v<;>rfl
theorem w7 {i:D4} {o:Nat}:xG (.ptr i o)= .val (.ptr i o):=_root_.id rfl
noncomputable def rR (x:NR) (K:NV->Prop):Prop:=match x with| .val v=>K v|_=>False
noncomputable def ky (t:Tm) (m:NH):List NRes->(List NV->Prop)->Prop
 | [],K=>K []
 | .tmp k::l,K=>rK (NT.get k t) fun v=>ky t m l fun vs=>K (v::vs)
 | .cell1 k::l,K=>rR (ae (.load1 (.tmp k)) t m) fun v=>ky t m l fun vs=>K (v::vs)
 | .cellN k n::l,K=>rR (ae (.loadN n (.tmp k)) t m) fun v=>ky t m l fun vs=>K (v::vs)
theorem kh:∀(rs:List NRes) (K:List NV->Prop) (G:List NV->CR),ky t m rs K->∃l,bE m t rs .fail G=G l/\K l:=by
 intro rs
 induction rs with
 |nil=>intro K G h;exact ⟨[],rfl,h⟩
 |cons r rs ih=>
  intro K G h
  cases r with
  |tmp k=>
   cases hv:NT.get k t with
   |none=>unfold ky at h;rw[hv] at h;exact h.elim
   |some v=>
    unfold ky at h;rw[hv] at h
    obtain ⟨l,h1,h2⟩:=ih (fun vs=>K (v::vs)) (fun l=>G (v::l)) h
    refine ⟨v::l, ?_,h2⟩
    show (match (match NT.get k t with|some v=>NR.val v|none=> .fail) with| .val v=>bE m t rs .fail (fun l=>G (v::l))|_=> .fail)=_
    rw[hv];exact h1
  |cell1 k=>
   cases hv:ae (.load1 (.tmp k)) t m with
   |val v=>
    unfold ky at h;rw[hv] at h
    obtain ⟨l,h1,h2⟩:=ih (fun vs=>K (v::vs)) (fun l=>G (v::l)) h
    refine ⟨v::l, ?_,h2⟩
    change dU (.tmp k) t m= .val v at hv
    show (match dU (.tmp k) t m with| .val v=>bE m t rs .fail (fun l=>G (v::l))|_=> .fail)=_
    rw[hv];exact h1
   |_=>unfold ky at h;rw[hv] at h;exact h.elim
  |cellN k n=>
   cases hv:ae (.loadN n (.tmp k)) t m with
   |val v=>
    unfold ky at h;rw[hv] at h
    obtain ⟨l,h1,h2⟩:=ih (fun vs=>K (v::vs)) (fun l=>G (v::l)) h
    refine ⟨v::l, ?_,h2⟩
    change dN n (.tmp k) t m= .val v at hv
    show (match dN n (.tmp k) t m with| .val v=>bE m t rs .fail (fun l=>G (v::l))|_=> .fail)=_
    rw[hv];exact h1
   |_=>unfold ky at h;rw[hv] at h;exact h.elim
def vG (rs:List NRes) (K:NV->NH->Prop) (o:Out) (d:Dyn):Prop:=(o= .norm∨o= .ret)/\d.dfs= []/\ky d.t d.h rs fun l=>K (ez l) d.h
theorem ml  {o:Out} {d:Dyn} (h:vG rs K o d):wW rs K o d:=by
 obtain ⟨h1,h2,h3⟩:=h
 obtain ⟨l,h4,h5⟩:=kh rs _ (fun l=> .val (ez l) d.ctx d.h) h3
 exact ⟨h1,h2,ez l,h4,h5⟩
theorem zo  {ctx:Option NV}:vG rs K .ret ⟨t, [],ctx,m⟩=ky t m rs (fun l=>K (ez l) m):=propext ⟨fun h=>h.2.2,fun h=>⟨.inr rfl,rfl,h⟩⟩
theorem vL  {ctx:Option NV}:vG rs K .norm ⟨t, [],ctx,m⟩=ky t m rs (fun l=>K (ez l) m):=propext ⟨fun h=>h.2.2,fun h=>⟨.inl rfl,rfl,h⟩⟩
theorem Ct {K:List NV->Prop}:ky t m [] K=K []:=_root_.id rfl
theorem Do {K:List NV->Prop} {k:D4}:ky t m (.tmp k::l) K=rK (NT.get k t) fun v=>ky t m l fun vs=>K (v::vs):=_root_.id rfl
theorem Da {K:List NV->Prop} {k:D4}:ky t m (.cell1 k::l) K=rR (ae (.load1 (.tmp k)) t m) fun v=>ky t m l fun vs=>K (v::vs):=_root_.id rfl
theorem Dl {K:List NV->Prop} {k:D4} {n:Nat}:ky t m (.cellN k n::l) K=rR (ae (.loadN n (.tmp k)) t m) fun v=>ky t m l fun vs=>K (v::vs):=_root_.id rfl
theorem EE  {K:NV->Prop}:rR (.val v) K=K v:=_root_.id rfl
theorem wo :ez [v]=v:=_root_.id rfl
theorem wi {a b:NV} {l:List NV}:ez (a::b::l)= .tup (a::b::l):=_root_.id rfl
theorem WF.of_wpG {P:Program} {E:NV->NH->Prop} {f:Nat} {args:List NV} {nf:NFun} (hs:∀l,S f l=none) (hf:av P f=some (.code nf)) {L:List (D4×NV)} (hL:bJ args 0 .leaf=ap L .leaf)
 (h:wp ⟨P,E⟩ S none nf.body ⟨ap L .leaf, [],none,hp [] 0 m⟩ (vG nf.results K)):WF ⟨P,E⟩ S f args m K:=by
 rw[ag] at h
 obtain ⟨o,d,h1,h2⟩:=bu _ _ _ h
 rw[←hL] at h1
 cases o with
 |pan v=>exact Or.inr ⟨v,d.ctx,d.h,Call.of_pan hs hf h1 h2.1,h2.2⟩
 |_=>
  obtain ⟨ho,hd,v,hv,hK⟩:=ml h2
  exact Or.inl ⟨v,d.ctx,d.h,Call.of_run hs hf ho h1 hd hv (by simp),hK⟩
theorem mF.ext {P:Program} {f:Nat} {args:List NV} {e:Ext} (hs:S f args=none) (hf:av P f=some (.ext e)) (hv:dX e args=some v):mF P S f args m v m:=by
 refine ⟨none,by simp,0, ?_⟩
 unfold bh
 rw[hs]
 dsimp only
 rw[hf]
 dsimp only
 rw[hv]
theorem nS (c:Nat):∀(l:List Nat) (i:Nat),(∃j,iW c l i=some j)↔c∈l:=by
 intro l
 induction l with
 |nil=>
  intro i;constructor
  ·rintro ⟨j,h⟩;cases h
  ·intro h;simp at h
 |cons x l ih=>
  intro i
  have e:iW c (x::l) i=cond (Nat.beq x c) (some i) (ak (Nat.succ i) (iW c l)):=rfl
  rw[e,af]
  cases hb:Nat.beq x c with
  |true=>rw[FF hb];simp
  |false=>
   have hne:=Nat.ne_of_beq_eq_false hb
   show (∃j,iW c l (i+1)=some j)↔_
   rw[ih,FE]
   exact ⟨fun h=>Or.inr h,fun h=>h.elim (fun q=>Fy q.symm hne) fun q=>q⟩
theorem wu (s:List Nat) {c:Nat} (hc:c<256):∃z:Int,dX .idxByte [.str s,.int .u8 (.lit (c:Int))]=some (.int .i64 (.lit z))/\(0<=z↔c∈s):=by
 have e:dX .idxByte [.str s,.int .u8 (.lit (c:Int))]=cond (Nat.ble c 255) (match iW c s 0 with|some i=>some (.int .i64 (.lit (.ofNat i)))|none=>some (.int .i64 (.lit (.negSucc 0)))) none:=rfl
 rw[e,Nat.ble_eq_true_of_le (by omega)]
 cases hi:iW c s 0 with
 |some i=>exact ⟨(i:Int),rfl,fun _=>(nS c s 0).mp ⟨i,hi⟩,fun _=>by omega⟩
 |none=>exact ⟨-1,rfl,fun h=>by omega,fun h=>by obtain ⟨j,hj⟩:=(nS c s 0).mpr h;rw[hi] at hj;cases hj⟩
theorem wk {x y c:Nat} (hc:c<=1):dX .add64 [.int .u64 (.lit (x:Int)),.int .u64 (.lit (y:Int)),.int .u64 (.lit (c:Int))]=some (NV.tup [NV.int .u64 (.lit (((x+y+c) % 18446744073709551616:Nat):Int)),.int .u64 (.lit (((x+y+c) / 18446744073709551616:Nat):Int))]):=by
 show cond (Nat.ble c 1) (ak (Nat.mod (Nat.add (Nat.add x y) c) 18446744073709551616) fun a=>ak (Nat.div (Nat.add (Nat.add x y) c) 18446744073709551616) fun b=>some (NV.tup [NV.int .u64 (.lit (.ofNat a)),.int .u64 (.lit (.ofNat b))])) none=_
 rw[Nat.ble_eq_true_of_le hc,af,af];rfl
end
end Nm
namespace Nm
open Go Go.RowKit
section
variable {t:Tm} {m:NH}
end
end Nm
