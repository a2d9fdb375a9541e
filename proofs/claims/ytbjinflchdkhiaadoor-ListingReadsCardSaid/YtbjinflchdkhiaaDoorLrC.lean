/- A machine that runs the given program with memory and order of evaluation taken apart, and what it shows of the law ListingReads: part 3. -/
import Derived.WideKeyArgs
import Derived.Carry
import Derived.ChangeArms
import Derived.HandedShaped
import Derived.Shelf.Strconv.Itoa3
import Derived.Shelf.Strconv.RangeError
import Derived.Shelf.Strconv.SyntaxError
import Derived.Shelf.Strconv.AtoiAll
import Derived.Test.YtbjinflchdkhiaaDoorLrB
set_option linter.unusedSimpArgs false
set_option linter.unusedVariables false
set_option linter.unusedSectionVars false
set_option linter.defProp false
namespace Nm
open Go Go.RowKit
def Le (a b:Option D4->NC->Dyn->Res):Prop:=∀r c d o d',a r c d= .mk o d'->b r c d= .mk o d'
section
variable {P:Program} {S:bN} {a b:Option D4->NC->Dyn->Res}
theorem fm {F G:Nat->List NV->Option NV->NH->CR} (h:∀f l p m r,F f l p m=r->r≠.fail->G f l p m=r) {K:Option NV->NH->CR}:∀(l:List Dfr) (p:Option NV) (m:NH) (r:CR),unwind F K l p m=r->r≠.fail->unwind G K l p m=r:=by
 intro l
 induction l with
 |nil=>exact fun p m r e _=>e
 |cons c l ih=>
  intro p m r e hr
  rw[jt] at e ⊢
  cases c with
  |mark id=>
   dsimp only at e ⊢
   split at e
   ·exact ih _ _ _ e hr
   ·exact G4 e.symm hr
  |call f cap=>
   dsimp only at e ⊢
   cases hf:F f cap p m with
   |fail=>rw[hf] at e;exact G4 e.symm hr
   |pan v x m'=>rw[hf] at e;exact G4 e.symm hr
   |val v x m'=>
    rw[hf] at e
    rw[h f cap p m _ hf (by simp)]
    exact ih _ _ _ e hr
theorem pI (h:Le a b):∀(d f:Nat) (l:List NV) (p:Option NV) (m:NH) (r:CR),cr P a d f l p m=r->r≠.fail->cr P b d f l p m=r:=by
 intro d
 induction d with
 |zero=>intro f l p m r e hr;exact G4 e.symm hr
 |succ d ih=>
  intro f l p m r e hr
  rw[dL] at e ⊢
  cases hc:am P f with
  |none=>rw[hc] at e;exact G4 e.symm hr
  |some x=>
   cases x with
   |ext x=>rw[hc] at e;exact G4 e.symm hr
   |code nf=>
    rw[hc] at e
    dsimp only at e ⊢
    cases ha:a none nf.body ⟨di l 0 .leaf, [],p,m⟩ with
    |fail=>rw[ha] at e;exact G4 e.symm hr
    |mk o d'=>
     rw[ha] at e
     rw[h _ _ _ _ _ ha]
     cases o with
     |norm=>exact fm (fun f l p m r=>ih f l p m r) _ _ _ _ e hr
     |ret=>exact fm (fun f l p m r=>ih f l p m r) _ _ _ _ e hr
     |pan v=>exact fm (fun f l p m r=>ih f l p m r) _ _ _ _ e hr
     |exit id=>exact G4 e.symm hr
theorem cF (h:Le a b) {f:Nat} {l:List NV} {m:NH} {r:CR} (e:bv P S a f l m=r) (hr:r≠.fail):bv P S b f l m=r:=by
 unfold bv at e ⊢
 cases hs:S f l m with
 |some v=>rw[hs] at e;exact e
 |none=>
  rw[hs] at e
  dsimp only at e ⊢
  cases hc:am P f with
  |none=>rw[hc] at e;exact e
  |some x=>
   rw[hc] at e
   cases x with
   |ext x=>exact e
   |code nf=>exact pI h _ _ _ _ _ _ e hr
theorem ke (h:Le a b) {l:D4} {bd:NC} {t:Tm} {m:NH} {r:CR} (e:bV a l bd t m=r) (hr:r≠.fail):bV b l bd t m=r:=by
 unfold bV at e ⊢
 split at e
 ·rename_i p tm ps assign body hm
  rw[NH.set_eq] at e ⊢
  cases ha:a (some l) bd ⟨t, [],none,m.put l (.loop 1 p tm ps assign body)⟩ with
  |fail=>rw[ha] at e;exact G4 e.symm hr
  |mk o d=>rw[ha] at e;rw[h _ _ _ _ _ ha];exact e
 ·exact G4 e.symm hr
theorem gu (h:Le a b) {l:D4} {args:List NV} {m:NH} {r:CR} (e:round a l args m=r) (hr:r≠.fail):round b l args m=r:=by
 unfold round at e ⊢
 split at e
 ·rename_i x tm ps assign body hm
  obtain ⟨h1,h2⟩:=js hr e
  have key:∀K:Tm->CR,cI .fail ps args tm K=K (mF ps args tm):=by
   clear e h2 hm
   intro K
   induction ps generalizing args tm with
   |nil=>cases args with
    |nil=>rfl
    |cons=>simp at h1
   |cons q ps ih=>
    cases args with
    |nil=>simp at h1
    |cons v vs=>
     have e:cI .fail (q::ps) (v::vs) tm K=NT.set q v tm fun t=>cI .fail ps vs t K:=rfl
     rw[e,NT.set_eq]
     exact ih _ (by simpa using h1)
  rw[key]
  cases ha:a (some l) assign ⟨mF ps args tm, [],none,m⟩ with
  |fail=>rw[ha] at h2;exact G4 h2.symm hr
  |mk o d=>
   rw[ha] at h2
   rw[h _ _ _ _ _ ha]
   cases o with
   |norm=>
    dsimp only at h2 ⊢
    split at h2
    ·exact ke h h2 hr
    ·exact G4 h2.symm hr
   |_=>exact G4 h2.symm hr
 ·exact G4 e.symm hr
theorem kY (h:Le a b) {rnd:Option D4} {dfs:List Dfr} {ctx:Option NV} {m:NH} {x:NR} {r:OpO} (e:cL P S a rnd dfs ctx m x=r) (hr:r≠.fail):cL P S b rnd dfs ctx m x=r:=by
 cases x with
 |call f l=>
  have e':pb dfs ctx (bv P S a f l m)=r:=e
  have hn:bv P S a f l m≠.fail:=fun hh=>by rw[hh] at e';exact hr e'.symm
  show pb dfs ctx (bv P S b f l m)=r
  rw[cF h rfl hn];exact e'
 |yld l args=>
  have e':pb dfs ctx (round a l args m)=r:=e
  have hn:round a l args m≠.fail:=fun hh=>by rw[hh] at e';exact hr e'.symm
  show pb dfs ctx (round b l args m)=r
  rw[gu h rfl hn];exact e'
 |_=>exact e
theorem vL {dst:Option D4} {K L:Dyn->Res} (hk:∀d o d',K d= .mk o d'->L d= .mk o d') {t:Tm} {dfs:List Dfr} {ctx:Option NV} {x:OpO} {o:Out} {d':Dyn} (e:pZ dst K t dfs ctx x= .mk o d'):pZ dst L t dfs ctx x= .mk o d':=by
 cases x with
 |fail=>cases e
 |next v dfs ctx h=>exact hk _ _ _ e
 |pan v h=>exact e
theorem BP {dst:Option D4} {K:Dyn->Res} {t:Tm} {dfs:List Dfr} {ctx:Option NV} {x:OpO} {o:Out} {d':Dyn} (e:pZ dst K t dfs ctx x= .mk o d'):x≠.fail:=by
 rintro rfl;cases e
theorem fp (h:Le a b) {rnd:Option D4}:∀(l:List NOper) (d:Dyn) (o:Out) (d':Dyn),ce P S a rnd l d= .mk o d'->ce P S b rnd l d= .mk o d':=by
 intro l
 induction l with
 |nil=>exact fun d o d' e=>e
 |cons x l ih=>
  rintro ⟨t,dfs,ctx,m⟩ o d' e
  rw[bB] at e ⊢
  cases hg:an t x.guard with
  |none=>rw[hg] at e;cases e
  |some on=>
   rw[hg] at e
   cases on with
   |false=>exact ih _ _ _ e
   |true=>
    dsimp only at e ⊢
    rw[kY h rfl (BP e)]
    exact vL ih e
theorem iN (h:Le a b) {rnd:Option D4}:∀(l:List NOper) (hs:List (Nat×NH)) (rs:List (Nat×(NH->NR)×NV)) (d:Dyn) (o:Out) (d':Dyn),br P S a rnd l hs rs d= .mk o d'->br P S b rnd l hs rs d= .mk o d':=by
 intro l
 induction l with
 |nil=>exact fun hs rs d o d' e=>e
 |cons x l ih=>
  rintro hs rs ⟨t,dfs,ctx,m⟩ o d' e
  rw[bw] at e ⊢
  cases hg:an t x.guard with
  |none=>rw[hg] at e;cases e
  |some on=>
   rw[hg] at e
   cases on with
   |false=>exact ih _ _ _ _ _ e
   |true=>
    dsimp only at e ⊢
    cases hcl:ak x.op with
    |pure=>
     rw[hcl] at e
     dsimp only at e ⊢
     cases hop:af x.op t m<;>rw[hop] at e<;>first|exact ih _ _ _ _ _ e|cases e
    |alloc=>
     rw[hcl] at e
     dsimp only at e ⊢
     cases ha:ahead x.pre hs with
     |false=>rw[ha] at e;cases e
     |true=>
      rw[ha] at e
      simp only[cond_true] at e ⊢
      cases hop:af x.op t m<;>rw[hop] at e<;>first|exact ih _ _ _ _ _ e|cases e
    |read=>
     rw[hcl] at e
     dsimp only at e ⊢
     cases hop:af x.op t m with
     |val v=>
      rw[hop] at e
      dsimp only at e ⊢
      cases hst:cw x.pre (af x.op t) v hs with
      |false=>rw[hst] at e;cases e
      |true=>rw[hst] at e;exact ih _ _ _ _ _ e
     |_=>rw[hop] at e;cases e
    |eff=>
     rw[hcl] at e
     dsimp only at e ⊢
     cases ha:ahead x.pre hs with
     |false=>rw[ha] at e;cases e
     |true=>
      rw[ha] at e
      simp only[cond_true] at e ⊢
      have hk:∀d o d',cond (aS x.pre d.h rs) (br P S a rnd l ((x.idx,m)::hs) rs d) .fail= .mk o d'->cond (aS x.pre d.h rs) (br P S b rnd l ((x.idx,m)::hs) rs d) .fail= .mk o d':=by
       intro d o d' e
       cases hs':aS x.pre d.h rs with
       |false=>rw[hs'] at e;cases e
       |true=>rw[hs'] at e;exact ih _ _ _ _ _ e
      have hne:cL P S a rnd dfs ctx m (af x.op t m)≠.fail:=by
       intro hh
       rw[hh] at e
       cases e
      rw[kY h rfl hne]
      cases hoo:cL P S a rnd dfs ctx m (af x.op t m) with
      |fail=>exact G4 hoo hne
      |pan v m'=>rw[hoo] at e;exact e
      |next v dfs1 ctx1 m'=>
       rw[hoo] at e
       have e':cq (bf x.idx l) (cond (aS x.pre m' rs) (br P S a rnd l ((x.idx,m)::hs) rs ⟨aA x.dst v t,dfs1,ctx1,m'⟩) .fail)= .mk o d':=e
       show cq (bf x.idx l) (cond (aS x.pre m' rs) (br P S b rnd l ((x.idx,m)::hs) rs ⟨aA x.dst v t,dfs1,ctx1,m'⟩) .fail)= .mk o d'
       cases hin:cond (aS x.pre m' rs) (br P S a rnd l ((x.idx,m)::hs) rs ⟨aA x.dst v t,dfs1,ctx1,m'⟩) .fail with
       |fail=>rw[hin] at e';cases e'
       |mk o2 d2=>
        have:=hk ⟨aA x.dst v t,dfs1,ctx1,m'⟩ o2 d2 hin
        rw[hin] at e'
        rw[show cond (aS x.pre m' rs) (br P S b rnd l ((x.idx,m)::hs) rs ⟨aA x.dst v t,dfs1,ctx1,m'⟩) .fail= .mk o2 d2 from this]
        exact e'
theorem gW (h:Le a b) {f:Nat} {cap:List NV} {ps:List D4} {x y:NC} {t:Tm} {dfs:List Dfr} {ctx:Option NV} {m:NH} {o:Out} {d':Dyn} (e:bH P S a f cap ps x y t dfs ctx m= .mk o d'):bH P S b f cap ps x y t dfs ctx m= .mk o d':=by
 unfold bH at e ⊢
 rw[NH.new_eq] at e ⊢
 cases hc:bv P S a f (.yld m.next::cap) (m.add (.loop 0 .none t ps x y)) with
 |fail=>rw[hc] at e;cases e
 |val v c m'=>rw[hc] at e;rw[cF h hc (by simp)];exact e
 |pan v c m'=>rw[hc] at e;rw[cF h hc (by simp)];exact e
theorem rg (h:Le a b):Le (kw P S a) (kw P S b):=by
 intro r c d o d' e
 cases c with
 |skip=>exact e
 |reg l=>exact fp h _ _ _ _ e
 |regD l=>
  have e':(match br P S a r l [] [] d with| .mk (.pan v) d=>Res.mk (.pan v) ⟨gV l d.t,d.dfs,d.ctx,d.h⟩|r=>r)= .mk o d':=e
  show (match br P S b r l [] [] d with| .mk (.pan v) d=>Res.mk (.pan v) ⟨gV l d.t,d.dfs,d.ctx,d.h⟩|r=>r)= .mk o d'
  cases hr:br P S a r l [] [] d with
  |fail=>rw[hr] at e';cases e'
  |mk o2 d2=>rw[hr] at e';rw[iN h _ _ _ _ _ _ hr];exact e'
 |seq x y=>
  have e':(match a r x d with| .mk o d=>(match o with| .norm=>a r y d|o=> .mk o d)| .fail=> .fail)=Res.mk o d':=(qc (cf:=P) (S:=S)).symm.trans e
  refine (qc (cf:=P) (S:=S)).trans ?_
  show (match b r x d with| .mk o d=>(match o with| .norm=>b r y d|o=> .mk o d)| .fail=> .fail)=Res.mk o d'
  cases hx:a r x d with
  |fail=>rw[hx] at e';cases e'
  |mk o2 d2=>
   rw[hx] at e'
   rw[h _ _ _ _ _ hx]
   cases o2 with
   |norm=>exact h _ _ _ _ _ e'
   |_=>exact e'
 |cond g x y=>
  have e':(match ρ d.t g with|some (.bool c)=>(Bool.rec (a r y d) (a r x d) c:Res)|_=> .fail)=Res.mk o d':=(mP (cf:=P) (S:=S)).symm.trans e
  refine (mP (cf:=P) (S:=S)).trans ?_
  show (match ρ d.t g with|some (.bool c)=>(Bool.rec (b r y d) (b r x d) c:Res)|_=> .fail)=Res.mk o d'
  cases hg:ρ d.t g with
  |none=>rw[hg] at e';cases e'
  |some v=>
   rw[hg] at e'
   cases v with
   |bool q=>cases q<;>exact h _ _ _ _ _ e'
   |_=>cases e'
 |block id x=>
  have e':(match a r x d with| .mk o d=>(match o with| .exit i=>cond (Nat.beq i id) (.mk .norm d) (.mk (.exit i) d)|o=> .mk o d)| .fail=> .fail)=Res.mk o d':=(ky (cf:=P) (S:=S)).symm.trans e
  refine (ky (cf:=P) (S:=S)).trans ?_
  show (match b r x d with| .mk o d=>(match o with| .exit i=>cond (Nat.beq i id) (.mk .norm d) (.mk (.exit i) d)|o=> .mk o d)| .fail=> .fail)=Res.mk o d'
  cases hx:a r x d with
  |fail=>rw[hx] at e';cases e'
  |mk o2 d2=>rw[hx] at e';rw[h _ _ _ _ _ hx];exact e'
 |loop x=>
  have e':(match a r x d with| .mk o d=>(match o with| .norm=>a r (.loop x) d|o=> .mk o d)| .fail=> .fail)=Res.mk o d':=(m9 (cf:=P) (S:=S)).symm.trans e
  refine (m9 (cf:=P) (S:=S)).trans ?_
  show (match b r x d with| .mk o d=>(match o with| .norm=>b r (.loop x) d|o=> .mk o d)| .fail=> .fail)=Res.mk o d'
  cases hx:a r x d with
  |fail=>rw[hx] at e';cases e'
  |mk o2 d2=>
   rw[hx] at e'
   rw[h _ _ _ _ _ hx]
   cases o2 with
   |norm=>exact h _ _ _ _ _ e'
   |_=>exact e'
 |rangeFunc f ps x y=>
  obtain ⟨t,dfs,ctx,m⟩:=d
  have e':(match ρ t f with
   |some (.fn f cap)=>(match (generalizing:=false) r with
    |none=>m.new (.defd true) fun q m=>bH P S a f cap ps x y t (.mark q::dfs) ctx m
    |some l=>(match m.get l with
     |some (.loop ..)=>bH P S a f cap ps x y t dfs ctx m
     |_=> .fail))
   |_=> .fail)=Res.mk o d':=e
  show (match ρ t f with
   |some (.fn f cap)=>(match (generalizing:=false) r with
    |none=>m.new (.defd true) fun q m=>bH P S b f cap ps x y t (.mark q::dfs) ctx m
    |some l=>(match m.get l with
     |some (.loop ..)=>bH P S b f cap ps x y t dfs ctx m
     |_=> .fail))
   |_=> .fail)=Res.mk o d'
  cases hf:ρ t f with
  |none=>rw[hf] at e';cases e'
  |some v=>
   rw[hf] at e'
   cases v with
   |fn f cap=>
    dsimp only at e' ⊢
    cases r with
    |none=>
     dsimp only at e' ⊢
     rw[NH.new_eq] at e' ⊢
     exact gW h e'
    |some l=>
     dsimp only at e' ⊢
     split at e'
     ·exact gW h e'
     ·cases e'
   |_=>cases e'
 |exit id=>exact e
 |ret=>exact e
theorem w9:∀n,Le (ev P S n) (ev P S (n+1)):=by
 intro n
 induction n with
 |zero=>intro r c d o d' e;cases e
 |succ n ih=>exact rg ih
theorem bI {n m:Nat} (hnm:n<=m):Le (ev P S n) (ev P S m):=by
 induction m with
 |zero=>
  have:n=0:=by omega
  subst this;exact fun _ _ _ _ _ e=>e
 |succ m ih=>
  by_cases h:n=m+1
  ·subst h;exact fun _ _ _ _ _ e=>e
  ·exact fun r c d o d' e=>w9 m r c d o d' (ih (by omega) r c d o d' e)
end
def cX (P:Program) (S:bN) (r:Option D4) (c:NC) (d:Dyn) (o:Out) (d':Dyn):Prop:=∃n,ev P S n r c d= .mk o d'
def Call (P:Program) (S:bN) (f:Nat) (l:List NV) (m:NH) (x:CR):Prop:=x≠.fail/\∃n,bv P S (ev P S n) f l m=x
def gh (P:Program) (S:bN) (r:Option D4) (l:List NOper) (d:Dyn) (o:Out) (d':Dyn):Prop:=∃n,ce P S (ev P S n) r l d= .mk o d'
section
variable {P:Program} {S:bN} {r:Option D4}
theorem cX.skip (d:Dyn):cX P S r .skip d .norm d:=⟨1,rfl⟩
theorem cX.ret (d:Dyn):cX P S r .ret d .ret d:=⟨1,rfl⟩
theorem cX.exit (id:Nat) (d:Dyn):cX P S r (.exit id) d (.exit id) d:=⟨1,rfl⟩
theorem cX.seq {x y:NC} {d d1 d2:Dyn} {o:Out} (hx:cX P S r x d .norm d1) (hy:cX P S r y d1 o d2):cX P S r (.seq x y) d o d2:=by
 obtain ⟨n,hn⟩:=hx
 obtain ⟨m,hm⟩:=hy
 refine ⟨max n m+1, ?_⟩
 refine pg.trans ?_
 show (match ev P S (max n m) r x d with| .mk o d=>(match o with| .norm=>ev P S (max n m) r y d|o=> .mk o d)| .fail=> .fail)=Res.mk o d2
 rw[bI (Nat.le_max_left n m) _ _ _ _ _ hn]
 exact bI (Nat.le_max_right n m) _ _ _ _ _ hm
theorem cX.seq_out {x y:NC} {d d1:Dyn} {o:Out} (hx:cX P S r x d o d1) (ho:o≠.norm):cX P S r (.seq x y) d o d1:=by
 obtain ⟨n,hn⟩:=hx
 refine ⟨n+1, ?_⟩
 refine pg.trans ?_
 show (match ev P S n r x d with| .mk o d=>(match o with| .norm=>ev P S n r y d|o=> .mk o d)| .fail=> .fail)=Res.mk o d1
 rw[hn]
 cases o<;>first|rfl|exact G4 rfl ho
theorem cX.cond {g:NOpd} {q:Bool} {x y:NC} {d d1:Dyn} {o:Out} (hg:ρ d.t g=some (.bool q)) (h:cX P S r (if q then x else y) d o d1):cX P S r (.cond g x y) d o d1:=by
 obtain ⟨n,hn⟩:=h
 refine ⟨n+1, ?_⟩
 refine rL.trans ?_
 show (match ρ d.t g with|some (.bool c)=>(Bool.rec (ev P S n r y d) (ev P S n r x d) c:Res)|_=> .fail)=Res.mk o d1
 rw[hg]
 cases q<;>exact hn
theorem cX.block {id:Nat} {x:NC} {d d1:Dyn} {o:Out} (h:cX P S r x d o d1):cX P S r (.block id x) d (match o with| .exit i=>_root_.cond (Nat.beq i id) .norm (.exit i)|o=>o) d1:=by
 obtain ⟨n,hn⟩:=h
 refine ⟨n+1, ?_⟩
 refine oF.trans ?_
 show (match ev P S n r x d with| .mk o d=>(match o with| .exit i=>_root_.cond (Nat.beq i id) (Res.mk .norm d) (Res.mk (.exit i) d)|o=>Res.mk o d)| .fail=>Res.fail)=_
 rw[hn]
 cases o with
 |exit i=>dsimp only;cases Nat.beq i id<;>rfl
 |_=>rfl
theorem cX.loop {x:NC} {d d1 d2:Dyn} {o:Out} (hx:cX P S r x d .norm d1) (hy:cX P S r (.loop x) d1 o d2):cX P S r (.loop x) d o d2:=by
 obtain ⟨n,hn⟩:=hx
 obtain ⟨m,hm⟩:=hy
 refine ⟨max n m+1, ?_⟩
 refine mn.trans ?_
 show (match ev P S (max n m) r x d with| .mk o d=>(match o with| .norm=>ev P S (max n m) r (.loop x) d|o=> .mk o d)| .fail=> .fail)=Res.mk o d2
 rw[bI (Nat.le_max_left n m) _ _ _ _ _ hn]
 exact bI (Nat.le_max_right n m) _ _ _ _ _ hm
theorem cX.loop_out {x:NC} {d d1:Dyn} {o:Out} (hx:cX P S r x d o d1) (ho:o≠.norm):cX P S r (.loop x) d o d1:=by
 obtain ⟨n,hn⟩:=hx
 refine ⟨n+1, ?_⟩
 refine mn.trans ?_
 show (match ev P S n r x d with| .mk o d=>(match o with| .norm=>ev P S n r (.loop x) d|o=> .mk o d)| .fail=> .fail)=Res.mk o d1
 rw[hn]
 cases o<;>first|rfl|exact G4 rfl ho
theorem cX.reg {l:List NOper} {d d1:Dyn} {o:Out} (h:gh P S r l d o d1):cX P S r (.reg l) d o d1:=by
 obtain ⟨n,hn⟩:=h
 exact ⟨n+1,hn⟩
theorem gh.nil (d:Dyn):gh P S r [] d .norm d:=⟨0,rfl⟩
theorem gh.val {x:NOper} {l:List NOper} {t:Tm} {dfs:List Dfr} {ctx:Option NV} {m:NH} {o:Out} {d1:Dyn} {v:NV} (hg:an t x.guard=some true) (hop:af x.op t m= .val v)
 (h:gh P S r l ⟨aA x.dst v t,dfs,ctx,m⟩ o d1):gh P S r (x::l) ⟨t,dfs,ctx,m⟩ o d1:=by
 obtain ⟨n,hn⟩:=h
 refine ⟨n, ?_⟩
 rw[bB,hg,hop]
 exact hn
theorem gh.mem {x:NOper} {l:List NOper} {t:Tm} {dfs:List Dfr} {ctx:Option NV} {m m':NH} {o:Out} {d1:Dyn} {v:NV} (hg:an t x.guard=some true) (hop:af x.op t m= .mem v m')
 (h:gh P S r l ⟨aA x.dst v t,dfs,ctx,m'⟩ o d1):gh P S r (x::l) ⟨t,dfs,ctx,m⟩ o d1:=by
 obtain ⟨n,hn⟩:=h
 refine ⟨n, ?_⟩
 rw[bB,hg,hop]
 exact hn
theorem gh.off {x:NOper} {l:List NOper} {t:Tm} {dfs:List Dfr} {ctx:Option NV} {m:NH} {o:Out} {d1:Dyn} (hg:an t x.guard=some false)
 (h:gh P S r l ⟨aA x.dst aI t,dfs,ctx,m⟩ o d1):gh P S r (x::l) ⟨t,dfs,ctx,m⟩ o d1:=by
 obtain ⟨n,hn⟩:=h
 refine ⟨n, ?_⟩
 rw[bB,hg]
 exact hn
theorem gh.call {x:NOper} {l:List NOper} {t:Tm} {dfs:List Dfr} {ctx:Option NV} {m m':NH} {o:Out} {d1:Dyn} {f:Nat} {args:List NV} {v:NV} {c:Option NV} (hg:an t x.guard=some true) (hop:af x.op t m= .call f args)
 (hc:Call P S f args m (.val v c m')) (h:gh P S r l ⟨aA x.dst v t,dfs,ctx,m'⟩ o d1):gh P S r (x::l) ⟨t,dfs,ctx,m⟩ o d1:=by
 obtain ⟨n,hn⟩:=h
 obtain ⟨hne,k,hk⟩:=hc
 refine ⟨max n k, ?_⟩
 rw[bB,hg,hop]
 show pZ x.dst (ce P S (ev P S (max n k)) r l) t dfs ctx (pb dfs ctx (bv P S (ev P S (max n k)) f args m))=_
 rw[cF (bI (Nat.le_max_right n k)) hk hne]
 exact fp (bI (Nat.le_max_left n k)) _ _ _ _ hn
theorem Call.of_run {f:Nat} {nf:NFun} (hs:∀l,S f l=fun _=>none) (hf:am P f=some (.code nf)) {args:List NV} {m:NH} {o:Out} {d:Dyn} (ho:o= .norm∨o= .ret) (h:cX P S none nf.body ⟨di args 0 .leaf, [],none,m⟩ o d) (hd:d.dfs= [])
 {x:CR} (hx:cB d.h d.t nf.results .fail (fun l=> .val (jF l) d.ctx d.h)=x) (hne:x≠.fail):Call P S f args m x:=by
 obtain ⟨n,hn⟩:=h
 refine ⟨hne,n, ?_⟩
 unfold bv
 rw[hs]
 dsimp only
 rw[hf]
 dsimp only
 rw[dL,hf]
 dsimp only
 rw[hn]
 rcases ho with rfl|rfl<;>(dsimp only;rw[hd];exact hx)
variable [Val] in
theorem uI (hM:P.follows .mixedOrders=true) (hP:P.check= .ok ()) (hS:de P S) {f:Nat} {args:List NV} {m m':NH} {v:NV} {c:Option NV} {nf:NFun} (hf:am P f=some (.code nf)) (hs:S f args=fun _=>none) (hc:Call P S f args m (.val v c m'))
 {ι:aC} {w:World} (hR:Rel P ι w.heap.size m w) (hlive:∀i p,ι i=some p->¬Live (m.get i)) {args':List Value} (ha:VRL ι args args'):
 Calls P f args'.toArray w fun e w'=>(∃ι' v',e= .returned v'/\VR ι' v v'/\ι.le ι'/\Rel P ι' w.heap.size m' w')/\Below w.heap.size w w':=by
 intro cs
 obtain ⟨_,n,hn⟩:=hc
 have hn':cr P (ev P S n) 3 f args none m= .val v c m':=by
  unfold bv at hn
  rw[hs] at hn
  dsimp only at hn
  rw[hf] at hn
  exact hn
 obtain ⟨hO,_⟩:=kj hM (g8 hP) hS n
 have hD:=fI (g8 hP) hO 3 f args none m
 obtain ⟨_,hF⟩:=hD (by rw[hn'];simp)
 have hF:=hF w.heap.size ι w args' .normal cs hR (Nat.le_refl _) ha (fun b hb=>by unfold tryRecover;rw[hb])
 rw[hn'] at hF
 obtain ⟨ι',v',w',cs',fr,f1,f2,f3,f4,f5,f6,f7,f8,f9⟩:=hF
 obtain ⟨rfl,_⟩:=f5.none
 refine ⟨.returned v',w',fr,⟨⟨ι',v',rfl,f1,f4.le,f2⟩,⟨f4.os,f4.tape,f4.output,f4.size,fun k hk=>f4.frame k hk fun i p hi hl=>G4 hl (hlive i p hi)⟩⟩,f6,f8,cW f7 f9⟩
end
end Nm
namespace Nm
open Go Go.RowKit
noncomputable def aE:List (D4×NV)->Tm->Tm
 | [],t=>t
 |p::l,t=>NT.put p.1 p.2 (aE l t)
noncomputable def ei (k:D4):List (D4×NV)->Option NV->Option NV
 | [],d=>d
 |p::l,d=>cond (aX k p.1) (some p.2) (ei k l d)
theorem kE (k:D4):aX k k=true:=by
 induction k with
 |e=>rfl
 |a d ih=>exact ih
 |b d ih=>exact ih
 |c d ih=>exact ih
 |f d ih=>exact ih
theorem fK (k:D4) (l:List (D4×NV)) (t:Tm):NT.get k (aE l t)=ei k l (NT.get k t):=by
 induction l with
 |nil=>rfl
 |cons p l ih=>
  show NT.get k (NT.put p.1 p.2 (aE l t))=cond (aX k p.1) (some p.2) (ei k l (NT.get k t))
  cases h:aX k p.1 with
  |true=>rw[fB h,NT.get_put_same];rfl
  |false=>
   have hne:k≠p.1:=fun e=>by rw[e,kE] at h;cases h
   rw[NT.get_put_ne hne,ih];rfl
def bh (P:Program) (S:bN) (r:Option D4) (l:List NOper) (hs:List (Nat×NH)) (rs:List (Nat×(NH->NR)×NV)) (d:Dyn) (o:Out) (d':Dyn):Prop:=∃n,br P S (ev P S n) r l hs rs d= .mk o d'
section
variable {P:Program} {S:bN} {r:Option D4} {x:NOper} {l:List NOper} {hs:List (Nat×NH)} {rs:List (Nat×(NH->NR)×NV)} {t:Tm} {dfs:List Dfr} {ctx:Option NV} {m m':NH} {o:Out} {d d1:Dyn} {v:NV}
theorem cX.regD (h:bh P S r l [] [] d .norm d1):cX P S r (.regD l) d .norm d1:=by
 obtain ⟨n,hn⟩:=h
 refine ⟨n+1, ?_⟩
 show (match br P S (ev P S n) r l [] [] d with| .mk (.pan v) d=>Res.mk (.pan v) ⟨gV l d.t,d.dfs,d.ctx,d.h⟩|r=>r)=_
 rw[hn]
theorem bh.nil (d:Dyn):bh P S r [] hs rs d .norm d:=⟨0,rfl⟩
theorem bh.off (hg:an t x.guard=some false) (h:bh P S r l hs rs ⟨aA x.dst aI t,dfs,ctx,m⟩ o d1):bh P S r (x::l) hs rs ⟨t,dfs,ctx,m⟩ o d1:=by
 obtain ⟨n,hn⟩:=h
 exact ⟨n,by rw[bw,hg];exact hn⟩
theorem bh.pure (hg:an t x.guard=some true) (hc:ak x.op= .pure) (hop:af x.op t m= .val v) (h:bh P S r l hs rs ⟨aA x.dst v t,dfs,ctx,m⟩ o d1):bh P S r (x::l) hs rs ⟨t,dfs,ctx,m⟩ o d1:=by
 obtain ⟨n,hn⟩:=h
 exact ⟨n,by rw[bw,hg];dsimp only;rw[hc];dsimp only;rw[hop];exact hn⟩
theorem bh.alloc (hg:an t x.guard=some true) (hc:ak x.op= .alloc) (ha:ahead x.pre hs=true) (hop:af x.op t m= .mem v m') (h:bh P S r l hs rs ⟨aA x.dst v t,dfs,ctx,m'⟩ o d1):bh P S r (x::l) hs rs ⟨t,dfs,ctx,m⟩ o d1:=by
 obtain ⟨n,hn⟩:=h
 exact ⟨n,by rw[bw,hg];dsimp only;rw[hc];dsimp only;rw[ha,hop];exact hn⟩
theorem bh.read (hg:an t x.guard=some true) (hc:ak x.op= .read) (hop:af x.op t m= .val v) (ha:cw x.pre (af x.op t) v hs=true)
 (h:bh P S r l hs ((x.idx,af x.op t,v)::rs) ⟨aA x.dst v t,dfs,ctx,m⟩ o d1):bh P S r (x::l) hs rs ⟨t,dfs,ctx,m⟩ o d1:=by
 obtain ⟨n,hn⟩:=h
 exact ⟨n,by rw[bw,hg];dsimp only;rw[hc];dsimp only;rw[hop];dsimp only;rw[ha];exact hn⟩
theorem bh.eff (hg:an t x.guard=some true) (hc:ak x.op= .eff) (ha:ahead x.pre hs=true) (hop:af x.op t m= .mem v m') (hst:aS x.pre m' rs=true)
 (h:bh P S r l ((x.idx,m)::hs) rs ⟨aA x.dst v t,dfs,ctx,m'⟩ .norm d1):bh P S r (x::l) hs rs ⟨t,dfs,ctx,m⟩ .norm d1:=by
 obtain ⟨n,hn⟩:=h
 refine ⟨n, ?_⟩
 rw[bw,hg];dsimp only;rw[hc];dsimp only;rw[ha,hop]
 show cq (bf x.idx l) (cond (aS x.pre m' rs) (br P S (ev P S n) r l ((x.idx,m)::hs) rs ⟨aA x.dst v t,dfs,ctx,m'⟩) .fail)=_
 rw[hst]
 show cq (bf x.idx l) (br P S (ev P S n) r l ((x.idx,m)::hs) rs ⟨aA x.dst v t,dfs,ctx,m'⟩)=_
 rw[hn];rfl
theorem bh.effv (hg:an t x.guard=some true) (hc:ak x.op= .eff) (ha:ahead x.pre hs=true) (hop:af x.op t m= .val v) (hst:aS x.pre m rs=true)
 (h:bh P S r l ((x.idx,m)::hs) rs ⟨aA x.dst v t,dfs,ctx,m⟩ .norm d1):bh P S r (x::l) hs rs ⟨t,dfs,ctx,m⟩ .norm d1:=by
 obtain ⟨n,hn⟩:=h
 refine ⟨n, ?_⟩
 rw[bw,hg];dsimp only;rw[hc];dsimp only;rw[ha,hop]
 show cq (bf x.idx l) (cond (aS x.pre m rs) (br P S (ev P S n) r l ((x.idx,m)::hs) rs ⟨aA x.dst v t,dfs,ctx,m⟩) .fail)=_
 rw[hst]
 show cq (bf x.idx l) (br P S (ev P S n) r l ((x.idx,m)::hs) rs ⟨aA x.dst v t,dfs,ctx,m⟩)=_
 rw[hn];rfl
theorem bh.call {f:Nat} {args:List NV} {c:Option NV} (hg:an t x.guard=some true) (hc:ak x.op= .eff) (ha:ahead x.pre hs=true) (hop:af x.op t m= .call f args) (hcall:Call P S f args m (.val v c m')) (hst:aS x.pre m' rs=true)
 (h:bh P S r l ((x.idx,m)::hs) rs ⟨aA x.dst v t,dfs,ctx,m'⟩ .norm d1):bh P S r (x::l) hs rs ⟨t,dfs,ctx,m⟩ .norm d1:=by
 obtain ⟨n,hn⟩:=h
 obtain ⟨hne,k,hk⟩:=hcall
 refine ⟨max n k, ?_⟩
 rw[bw,hg];dsimp only;rw[hc];dsimp only;rw[ha,hop]
 show cq (bf x.idx l) (pZ x.dst (fun d=>cond (aS x.pre d.h rs) (br P S (ev P S (max n k)) r l ((x.idx,m)::hs) rs d) .fail) t dfs ctx (pb dfs ctx (bv P S (ev P S (max n k)) f args m)))=_
 rw[cF (bI (Nat.le_max_right n k)) hk hne]
 show cq (bf x.idx l) (cond (aS x.pre m' rs) (br P S (ev P S (max n k)) r l ((x.idx,m)::hs) rs ⟨aA x.dst v t,dfs,ctx,m'⟩) .fail)=_
 rw[hst]
 show cq (bf x.idx l) (br P S (ev P S (max n k)) r l ((x.idx,m)::hs) rs ⟨aA x.dst v t,dfs,ctx,m'⟩)=_
 rw[iN (bI (Nat.le_max_left n k)) _ _ _ _ _ _ hn];rfl
end
def zR (P:Program) (S:bN) (l:D4) (args:List NV) (m:NH) (x:CR):Prop:=x≠.fail/\∃n,round (ev P S n) l args m=x
section
variable {P:Program} {S:bN} {r:Option D4} {x:NOper} {l:List NOper} {hs:List (Nat×NH)} {rs:List (Nat×(NH->NR)×NV)} {t:Tm} {dfs:List Dfr} {ctx:Option NV} {m m':NH} {o:Out} {d1:Dyn} {v:NV} {q:D4} {args:List NV} {c:Option NV}
theorem gh.yld (hg:an t x.guard=some true) (hop:af x.op t m= .yld q args) (hc:zR P S q args m (.val v c m')) (h:gh P S r l ⟨aA x.dst v t,dfs,ctx,m'⟩ o d1):gh P S r (x::l) ⟨t,dfs,ctx,m⟩ o d1:=by
 obtain ⟨n,hn⟩:=h
 obtain ⟨hne,k,hk⟩:=hc
 refine ⟨max n k, ?_⟩
 rw[bB,hg,hop]
 show pZ x.dst (ce P S (ev P S (max n k)) r l) t dfs ctx (pb dfs ctx (round (ev P S (max n k)) q args m))=_
 rw[gu (bI (Nat.le_max_right n k)) hk hne]
 exact fp (bI (Nat.le_max_left n k)) _ _ _ _ hn
theorem bh.yld (hg:an t x.guard=some true) (hc:ak x.op= .eff) (ha:ahead x.pre hs=true) (hop:af x.op t m= .yld q args) (hcall:zR P S q args m (.val v c m')) (hst:aS x.pre m' rs=true)
 (h:bh P S r l ((x.idx,m)::hs) rs ⟨aA x.dst v t,dfs,ctx,m'⟩ .norm d1):bh P S r (x::l) hs rs ⟨t,dfs,ctx,m⟩ .norm d1:=by
 obtain ⟨n,hn⟩:=h
 obtain ⟨hne,k,hk⟩:=hcall
 refine ⟨max n k, ?_⟩
 rw[bw,hg];dsimp only;rw[hc];dsimp only;rw[ha,hop]
 show cq (bf x.idx l) (pZ x.dst (fun d=>cond (aS x.pre d.h rs) (br P S (ev P S (max n k)) r l ((x.idx,m)::hs) rs d) .fail) t dfs ctx (pb dfs ctx (round (ev P S (max n k)) q args m)))=_
 rw[gu (bI (Nat.le_max_right n k)) hk hne]
 show cq (bf x.idx l) (cond (aS x.pre m' rs) (br P S (ev P S (max n k)) r l ((x.idx,m)::hs) rs ⟨aA x.dst v t,dfs,ctx,m'⟩) .fail)=_
 rw[hst]
 show cq (bf x.idx l) (br P S (ev P S (max n k)) r l ((x.idx,m)::hs) rs ⟨aA x.dst v t,dfs,ctx,m'⟩)=_
 rw[iN (bI (Nat.le_max_left n k)) _ _ _ _ _ _ hn];rfl
end
section
variable {P:Program} {S:bN} {r:Option D4} {x:NOper} {l:List NOper} {hs:List (Nat×NH)} {rs:List (Nat×(NH->NR)×NV)} {L:List (D4×NV)} {t:Tm} {dfs:List Dfr} {ctx:Option NV} {m m':NH} {o:Out} {d1:Dyn} {v:NV} {k:D4}
theorem bh.p (hd:x.dst=some k) (hg:an (aE L t) x.guard=some true) (hc:ak x.op= .pure) (hop:af x.op (aE L t) m= .val v) (h:bh P S r l hs rs ⟨aE ((k,v)::L) t,dfs,ctx,m⟩ o d1):bh P S r (x::l) hs rs ⟨aE L t,dfs,ctx,m⟩ o d1:=
 bh.pure hg hc hop (by rw[hd];exact h)
theorem bh.e (hd:x.dst=some k) (hg:an (aE L t) x.guard=some true) (hc:ak x.op= .eff) (ha:ahead x.pre hs=true) (hop:af x.op (aE L t) m= .mem v m') (hst:aS x.pre m' rs=true)
 (h:bh P S r l ((x.idx,m)::hs) rs ⟨aE ((k,v)::L) t,dfs,ctx,m'⟩ .norm d1):bh P S r (x::l) hs rs ⟨aE L t,dfs,ctx,m⟩ .norm d1:=
 bh.eff hg hc ha hop hst (by rw[hd];exact h)
theorem bh.c {f:Nat} {args:List NV} {c:Option NV} (hd:x.dst=some k) (hg:an (aE L t) x.guard=some true) (hc:ak x.op= .eff) (ha:ahead x.pre hs=true) (hop:af x.op (aE L t) m= .call f args) (hcall:Call P S f args m (.val v c m')) (hst:aS x.pre m' rs=true)
 (h:bh P S r l ((x.idx,m)::hs) rs ⟨aE ((k,v)::L) t,dfs,ctx,m'⟩ .norm d1):bh P S r (x::l) hs rs ⟨aE L t,dfs,ctx,m⟩ .norm d1:=
 bh.call hg hc ha hop hcall hst (by rw[hd];exact h)
end
section
variable {t:Tm} {m:NH}
theorem qJ {op:BinOp} {k:IntKind} {a b:Int} (h:b9 op=false):cK .num op (.int k (.lit a)) (.int k (.lit b))=bj op k a b:=by
 show cond (b9 op) (bj op k a b) (cond (eU k k) (bj op k a b) none)=_
 rw[show eU k k=true by cases k<;>rfl,h];rfl
theorem Dj {k:IntKind} {a b:Int}:cK .num .lss (.int k (.lit a)) (.int k (.lit b))=some (.bool (decide (a<b))):=
 (qJ rfl).trans (by show aT (gi a b)=_;rw[bE,aB])
theorem E0 {k:IntKind} {a b:Int}:cK .num .gtr (.int k (.lit a)) (.int k (.lit b))=some (.bool (decide (b<a))):=
 (qJ rfl).trans (by show aT (gi b a)=_;rw[bE,aB])
theorem Di {k:IntKind} {a b:Int}:cK .num .geq (.int k (.lit a)) (.int k (.lit b))=some (.bool (decide (b<=a))):=
 (qJ rfl).trans (by show aT (iC b a)=_;rw[bP,aB])
theorem ED {k:IntKind} {a b:Int}:cK .num .eql (.int k (.lit a)) (.int k (.lit b))=some (.bool (decide (a=b))):=
 (qJ rfl).trans (by show aT (fV a b)=_;rw[bp,aB];rfl)
theorem Ea {k:IntKind} {a b:Int}:cK .num .neq (.int k (.lit a)) (.int k (.lit b))=some (.bool (decide (a≠b))):=
 (qJ rfl).trans (by show aT (dq (fV a b))=_;rw[bp,aB,bD];by_cases h:a=b<;>simp[h])
theorem wrap_small {n:Int} (h:-9223372036854775808<=n) (h':n<9223372036854775808):bA .i64 n=n:=by
 cases n with
 |ofNat m=>
  show cond (Nat.ble (Nat.succ m) 9223372036854775808) (Int.ofNat m) _=_
  rw[Nat.ble_eq_true_of_le (by have:(m:Int)<9223372036854775808:=h';omega)];rfl
 |negSucc m=>
  show cond (Nat.ble (Nat.succ m) 9223372036854775808) (Int.negSucc m) _=_
  rw[Nat.ble_eq_true_of_le (by have:-9223372036854775808<=Int.negSucc m:=h;omega)];rfl
theorem ET {a b:Int} (h:-9223372036854775808<=a+b) (h':a+b<9223372036854775808):cK .num .add (.int .i64 (.lit a)) (.int .i64 (.lit b))=some (.int .i64 (.lit (a+b))):=by
 refine (qJ rfl).trans ?_
 show bG .i64 (bA .i64 (mY a b))=_
 have e:mY a b=a+b:=by cases a<;>cases b<;>rfl
 rw[e,wrap_small h h']
 exact ch _ _
end
end Nm
namespace Nm
open Go Go.RowKit
section
variable {P:Program} {S:bN} {r:Option D4}
theorem gh.callp {x:NOper} {l:List NOper} {t:Tm} {dfs:List Dfr} {ctx:Option NV} {m m':NH} {f:Nat} {args:List NV} {v:NV} {c:Option NV} (hg:an t x.guard=some true) (hop:af x.op t m= .call f args)
 (hc:Call P S f args m (.pan v c m')):gh P S r (x::l) ⟨t,dfs,ctx,m⟩ (.pan v) ⟨t,dfs,ctx,m'⟩:=by
 obtain ⟨hne,k,hk⟩:=hc
 refine ⟨k, ?_⟩
 rw[bB,hg,hop]
 show pZ x.dst (ce P S (ev P S k) r l) t dfs ctx (pb dfs ctx (bv P S (ev P S k) f args m))=_
 rw[hk];rfl
theorem cX.regDp {l:List NOper} {d d1:Dyn} {v:NV} (h:bh P S r l [] [] d (.pan v) d1):cX P S r (.regD l) d (.pan v) ⟨gV l d1.t,d1.dfs,d1.ctx,d1.h⟩:=by
 obtain ⟨n,hn⟩:=h
 refine ⟨n+1, ?_⟩
 show (match br P S (ev P S n) r l [] [] d with| .mk (.pan v) d=>Res.mk (.pan v) ⟨gV l d.t,d.dfs,d.ctx,d.h⟩|r=>r)=_
 rw[hn]
theorem bh.callp {x:NOper} {l:List NOper} {rs:List (Nat×(NH->NR)×NV)} {t:Tm} {dfs:List Dfr} {ctx:Option NV} {m m':NH} {f:Nat} {args:List NV} {v:NV} {c:Option NV} (hg:an t x.guard=some true) (hc:ak x.op= .eff) (hop:af x.op t m= .call f args)
 (hb:bf x.idx l=true) (hcall:Call P S f args m (.pan v c m')):bh P S r (x::l) [] rs ⟨t,dfs,ctx,m⟩ (.pan v) ⟨t,dfs,ctx,m'⟩:=by
 obtain ⟨hne,k,hk⟩:=hcall
 refine ⟨k, ?_⟩
 rw[bw,hg];dsimp only;rw[hc];dsimp only;rw[hop]
 rw[show ahead x.pre []=true from rfl]
 show cq (bf x.idx l) (pZ x.dst (fun d=>cond (aS x.pre d.h rs) (br P S (ev P S k) r l ((x.idx,m):: []) rs d) .fail) t dfs ctx (pb dfs ctx (bv P S (ev P S k) f args m)))=_
 rw[hk,hb];rfl
theorem gh.pan {x:NOper} {l:List NOper} {t:Tm} {dfs:List Dfr} {ctx:Option NV} {m:NH} {v:NV} (hg:an t x.guard=some true) (hop:af x.op t m= .pan v):gh P S r (x::l) ⟨t,dfs,ctx,m⟩ (.pan v) ⟨t,dfs,ctx,m⟩:=by
 refine ⟨0, ?_⟩
 rw[bB,hg,hop];rfl
end
structure PE where
 p:Program
 E:NV->NH->Prop
instance:Coe Program PE:=⟨fun P=>⟨P,fun _ _=>False⟩⟩
def WF (P:PE) (S:bN) (f:Nat) (args:List NV) (m:NH) (K:NV->NH->Prop):Prop:=(∃v c m',Call P.p S f args m (.val v c m')/\K v m')∨∃v c m',Call P.p S f args m (.pan v c m')/\P.E v m'
def qE (P:PE) (Q:Out->Dyn->Prop) (o:Out) (d:Dyn):Prop:=match o with| .pan v=>d.dfs= []/\P.E v d.h|o=>Q o d
def qN (P:PE) (K:Dyn->Prop) (o:Out) (d:Dyn):Prop:=match o with| .norm=>K d| .pan v=>d.dfs= []/\P.E v d.h|_=>False
def kP (K:Dyn->Prop) (Q:Out->Dyn->Prop) (o:Out) (d:Dyn):Prop:=match o with| .norm=>K d|o=>Q o d
def jX (i:Nat) (Q:Out->Dyn->Prop) (o:Out) (d:Dyn):Prop:=match o with| .exit j=>Q (if j=i then .norm else .exit j) d|o=>Q o d
def wB (o:Option NV) (A B:Prop):Prop:=match o with|some (.bool q)=>(q=true->A)/\(q=false->B)|_=>False
section
variable (P:PE) (S:bN) (r:Option D4)
def W (c:NC) (d:Dyn) (Q:Out->Dyn->Prop):Prop:=∃o d',cX P.p S r c d o d'/\qE P Q o d'
def wN (dst:Option D4) (t:Tm) (dfs:List Dfr) (ctx:Option NV) (m:NH) (x:NR) (K:Dyn->Prop):Prop:=match x with
 | .val v=>K ⟨aA dst v t,dfs,ctx,m⟩
 | .mem v m'=>K ⟨aA dst v t,dfs,ctx,m'⟩
 | .call f args=>(match dfs with| []=>WF P S f args m fun v m'=>K ⟨aA dst v t, [],ctx,m'⟩|x::l=>WF P.p S f args m fun v m'=>K ⟨aA dst v t,x::l,ctx,m'⟩)
 | .yld q args=>∃v c m',zR P.p S q args m (.val v c m')/\K ⟨aA dst v t,dfs,ctx,m'⟩
 | .pan v=>(match dfs with| []=>P.E v m|_=>False)
 |_=>False
def Fa (dst:Option D4) (t:Tm) (dfs:List Dfr) (ctx:Option NV) (m:NH) (x:NR) (K:Dyn->Prop):Prop:=match x with
 | .val v=>K ⟨aA dst v t,dfs,ctx,m⟩
 | .mem v m'=>K ⟨aA dst v t,dfs,ctx,m'⟩
 | .call f args=>WF P.p S f args m fun v m'=>K ⟨aA dst v t,dfs,ctx,m'⟩
 | .yld q args=>∃v c m',zR P.p S q args m (.val v c m')/\K ⟨aA dst v t,dfs,ctx,m'⟩
 |_=>False
noncomputable def lD (hs:List (Nat×NH)) (i:Nat) (l:List NOper):Bool:=match hs with| []=>bf i l|_=>false
def Gw (b:Bool) (dst:Option D4) (t:Tm) (dfs:List Dfr) (ctx:Option NV) (m:NH) (x:NR) (K:Dyn->Prop):Prop:=match b,x with
 |true,.call f args=>wN P S dst t dfs ctx m (.call f args) K
 |_,x=>Fa P S dst t dfs ctx m x K
def wO:List NOper->Dyn->(Dyn->Prop)->Prop
 | [],d,K=>K d
 |x::l,d,K=>match an d.t x.guard with
  |some true=>wN P S x.dst d.t d.dfs d.ctx d.h (af x.op d.t d.h) fun d=>wO l d K
  |some false=>wO l ⟨aA x.dst aI d.t,d.dfs,d.ctx,d.h⟩ K
  |none=>False
def wD:List NOper->List (Nat×NH)->List (Nat×(NH->NR)×NV)->Dyn->(Dyn->Prop)->Prop
 | [],_,_,d,K=>K d
 |x::l,hs,rs,d,K=>match an d.t x.guard with
  |some true=>(match ak x.op with
   | .pure=>(match af x.op d.t d.h with| .val v=>wD l hs rs ⟨aA x.dst v d.t,d.dfs,d.ctx,d.h⟩ K|_=>False)
   | .alloc=>ahead x.pre hs=true/\(match af x.op d.t d.h with| .mem v m'=>wD l hs rs ⟨aA x.dst v d.t,d.dfs,d.ctx,m'⟩ K|_=>False)
   | .read=>(match af x.op d.t d.h with| .val v=>cw x.pre (af x.op d.t) v hs=true/\wD l hs ((x.idx,af x.op d.t,v)::rs) ⟨aA x.dst v d.t,d.dfs,d.ctx,d.h⟩ K|_=>False)
   | .eff=>ahead x.pre hs=true/\Gw P S (lD hs x.idx l) x.dst d.t d.dfs d.ctx d.h (af x.op d.t d.h) fun d'=>aS x.pre d'.h rs=true/\wD l ((x.idx,d.h)::hs) rs d' K)
  |some false=>wD l hs rs ⟨aA x.dst aI d.t,d.dfs,d.ctx,d.h⟩ K
  |none=>False
def wp:NC->Dyn->(Out->Dyn->Prop)->Prop
 | .skip,d,Q=>Q .norm d
 | .ret,d,Q=>Q .ret d
 | .exit i,d,Q=>Q (.exit i) d
 | .seq a b,d,Q=>wp a d (kP (fun d=>wp b d Q) Q)
 | .cond g a b,d,Q=>wB (ρ d.t g) (wp a d Q) (wp b d Q)
 | .block i a,d,Q=>wp a d (jX i Q)
 | .reg l,d,Q=>wO P S l d (Q .norm)
 | .regD l,d,Q=>wD P S l [] [] d (Q .norm)
 | .loop a,d,Q=>W P S r (.loop a) d Q
 | .rangeFunc f ps a b,d,Q=>W P S r (.rangeFunc f ps a b) d Q
end
section
variable {P:PE} {S:bN} {r:Option D4}
theorem WF.ret' {P:Program} {f:Nat} {args:List NV} {m:NH} {K:NV->NH->Prop} (h:WF P S f args m K):∃v c m',Call P S f args m (.val v c m')/\K v m':=by
 rcases h with h|⟨_,_,_,_,h⟩
 ·exact h
 ·exact h.elim
theorem u9:∀(l:List NOper) (d:Dyn) (K:Dyn->Prop),wO P S l d K->∃o d',gh P.p S r l d o d'/\qN P K o d':=by
 intro l
 induction l with
 |nil=>exact fun d K h=>⟨_,d,gh.nil d,h⟩
 |cons x l ih=>
  rintro ⟨t,dfs,ctx,m⟩ K h
  unfold wO at h
  dsimp only at h
  split at h
  ·rename_i hg
   cases hop:af x.op t m with
   |val v=>rw[hop] at h;obtain ⟨o,d',h1,h2⟩:=ih _ _ h;exact ⟨o,d',gh.val hg hop h1,h2⟩
   |mem v m'=>rw[hop] at h;obtain ⟨o,d',h1,h2⟩:=ih _ _ h;exact ⟨o,d',gh.mem hg hop h1,h2⟩
   |call f args=>
    rw[hop] at h
    cases dfs with
    |nil=>
     rcases h with ⟨v,c,m',hc,h⟩|⟨v,c,m',hc,h⟩
     ·obtain ⟨o,d',h1,h2⟩:=ih _ _ h
      exact ⟨o,d',gh.call hg hop hc h1,h2⟩
     ·exact ⟨_,_,gh.callp hg hop hc,rfl,h⟩
    |cons y dfs=>
     obtain ⟨v,c,m',hc,h⟩:=WF.ret' h
     obtain ⟨o,d',h1,h2⟩:=ih _ _ h
     exact ⟨o,d',gh.call hg hop hc h1,h2⟩
   |yld q args=>
    rw[hop] at h
    obtain ⟨v,c,m',hc,h⟩:=h
    obtain ⟨o,d',h1,h2⟩:=ih _ _ h
    exact ⟨o,d',gh.yld hg hop hc h1,h2⟩
   |pan v=>
    rw[hop] at h
    cases dfs with
    |nil=>exact ⟨_,_,gh.pan hg hop,rfl,h⟩
    |cons=>exact h.elim
   |_=>rw[hop] at h;exact h.elim
  ·rename_i hg
   obtain ⟨o,d',h1,h2⟩:=ih _ _ h;exact ⟨o,d',gh.off hg h1,h2⟩
  ·exact h.elim
theorem uL:∀(l:List NOper) (hs:List (Nat×NH)) (rs:List (Nat×(NH->NR)×NV)) (d:Dyn) (K:Dyn->Prop),wD P S l hs rs d K->∃o d',bh P.p S r l hs rs d o d'/\qN P K o d'/\(o= .norm∨hs= []):=by
 intro l
 induction l with
 |nil=>exact fun hs rs d K h=>⟨_,d,bh.nil d,h,Or.inl rfl⟩
 |cons x l ih=>
  rintro hs rs ⟨t,dfs,ctx,m⟩ K h
  unfold wD at h
  dsimp only at h
  split at h
  ·rename_i hg
   split at h
   ·rename_i hcl
    cases hop:af x.op t m with
    |val v=>rw[hop] at h;obtain ⟨o,d',h1,h2,h3⟩:=ih _ _ _ _ h;exact ⟨o,d',bh.pure hg hcl hop h1,h2,h3⟩
    |_=>rw[hop] at h;exact h.elim
   ·rename_i hcl
    obtain ⟨ha,h⟩:=h
    cases hop:af x.op t m with
    |mem v m'=>rw[hop] at h;obtain ⟨o,d',h1,h2,h3⟩:=ih _ _ _ _ h;exact ⟨o,d',bh.alloc hg hcl ha hop h1,h2,h3⟩
    |_=>rw[hop] at h;exact h.elim
   ·rename_i hcl
    cases hop:af x.op t m with
    |val v=>rw[hop] at h;obtain ⟨ha,h⟩:=h;obtain ⟨o,d',h1,h2,h3⟩:=ih _ _ _ _ h;exact ⟨o,d',bh.read hg hcl hop ha h1,h2,h3⟩
    |_=>rw[hop] at h;exact h.elim
   ·rename_i hcl
    obtain ⟨ha,h⟩:=h
    have fin:∀{a:Nat×NH} {o:Out},o= .norm∨a::hs= []->o= .norm:=fun h=>h.elim id fun h=>by cases h
    cases hop:af x.op t m with
    |val v=>
     rw[hop] at h
     have h:Fa P S x.dst t dfs ctx m (.val v) (fun d'=>aS x.pre d'.h rs=true/\wD P S l ((x.idx,m)::hs) rs d' K):=by cases he:lD hs x.idx l<;>rw[he] at h<;>exact h
     obtain ⟨hst,h⟩:=h
     obtain ⟨o,d',h1,h2,h3⟩:=ih _ _ _ _ h
     obtain rfl:=fin h3
     exact ⟨_,d',bh.effv hg hcl ha hop hst h1,h2,Or.inl rfl⟩
    |mem v m'=>
     rw[hop] at h
     have h:Fa P S x.dst t dfs ctx m (.mem v m') (fun d'=>aS x.pre d'.h rs=true/\wD P S l ((x.idx,m)::hs) rs d' K):=by cases he:lD hs x.idx l<;>rw[he] at h<;>exact h
     obtain ⟨hst,h⟩:=h
     obtain ⟨o,d',h1,h2,h3⟩:=ih _ _ _ _ h
     obtain rfl:=fin h3
     exact ⟨_,d',bh.eff hg hcl ha hop hst h1,h2,Or.inl rfl⟩
    |call f args=>
     rw[hop] at h
     have key:WF P.p S f args m (fun v m'=>aS x.pre m' rs=true/\wD P S l ((x.idx,m)::hs) rs ⟨aA x.dst v t,dfs,ctx,m'⟩ K)∨(hs= []/\dfs= []/\bf x.idx l=true/\WF P S f args m (fun v m'=>aS x.pre m' rs=true/\wD P S l ((x.idx,m)::hs) rs ⟨aA x.dst v t,dfs,ctx,m'⟩ K)):=by
      cases he:lD hs x.idx l with
      |false=>rw[he] at h;exact Or.inl h
      |true=>
       rw[he] at h
       cases hs with
       |cons a hs=>cases he
       |nil=>
        cases dfs with
        |nil=>exact Or.inr ⟨rfl,rfl,he,h⟩
        |cons y dfs=>exact Or.inl h
     have go:∀{v:NV} {c:Option NV} {m':NH},Call P.p S f args m (.val v c m')->aS x.pre m' rs=true/\wD P S l ((x.idx,m)::hs) rs ⟨aA x.dst v t,dfs,ctx,m'⟩ K->∃o d',bh P.p S r (x::l) hs rs ⟨t,dfs,ctx,m⟩ o d'/\qN P K o d'/\(o= .norm∨hs= []):=by
      rintro v c m' hc ⟨hst,h⟩
      obtain ⟨o,d',h1,h2,h3⟩:=ih _ _ _ _ h
      obtain rfl:=fin h3
      exact ⟨_,d',bh.call hg hcl ha hop hc hst h1,h2,Or.inl rfl⟩
     rcases key with h|⟨rfl,rfl,hb,⟨v,c,m',hc,h⟩|⟨v,c,m',hc,h⟩⟩
     ·obtain ⟨v,c,m',hc,h⟩:=WF.ret' h
      exact go hc h
     ·exact go hc h
     ·exact ⟨_,_,bh.callp hg hcl hop hb hc,⟨rfl,h⟩,Or.inr rfl⟩
    |yld q args=>
     rw[hop] at h
     have h:Fa P S x.dst t dfs ctx m (.yld q args) (fun d'=>aS x.pre d'.h rs=true/\wD P S l ((x.idx,m)::hs) rs d' K):=by cases he:lD hs x.idx l<;>rw[he] at h<;>exact h
     obtain ⟨v,c,m',hc,hst,h⟩:=h
     obtain ⟨o,d',h1,h2,h3⟩:=ih _ _ _ _ h
     obtain rfl:=fin h3
     exact ⟨_,d',bh.yld hg hcl ha hop hc hst h1,h2,Or.inl rfl⟩
    |_=>rw[hop] at h;cases he:lD hs x.idx l<;>rw[he] at h<;>exact h.elim
  ·rename_i hg
   obtain ⟨o,d',h1,h2,h3⟩:=ih _ _ _ _ h;exact ⟨o,d',bh.off hg h1,h2,h3⟩
  ·exact h.elim
theorem eh:∀(c:NC) (d:Dyn) (Q:Out->Dyn->Prop),wp P S r c d Q->W P S r c d Q:=by
 intro c
 induction c with
 |skip=>exact fun d Q h=>⟨_,_,cX.skip d,h⟩
 |ret=>exact fun d Q h=>⟨_,_,cX.ret d,h⟩
 |exit i=>exact fun d Q h=>⟨_,_,cX.exit i d,h⟩
 |seq a b iha ihb=>
  intro d Q h
  obtain ⟨o,d1,h1,h2⟩:=iha _ _ h
  cases o with
  |norm=>obtain ⟨o,d2,h3,h4⟩:=ihb _ _ h2;exact ⟨o,d2,cX.seq h1 h3,h4⟩
  |_=>exact ⟨_,_,cX.seq_out h1 (by simp),h2⟩
 |cond g a b iha ihb=>
  intro d Q h
  unfold wp wB at h
  split at h
  ·rename_i q hq
   cases q with
   |true=>obtain ⟨o,d1,h1,h2⟩:=iha _ _ (h.1 rfl);exact ⟨o,d1,cX.cond hq (by simpa using h1),h2⟩
   |false=>obtain ⟨o,d1,h1,h2⟩:=ihb _ _ (h.2 rfl);exact ⟨o,d1,cX.cond hq (by simpa using h1),h2⟩
  ·exact h.elim
 |block i a iha=>
  intro d Q h
  obtain ⟨o,d1,h1,h2⟩:=iha _ _ h
  refine ⟨_,d1,cX.block h1, ?_⟩
  cases o with
  |exit j=>
   dsimp only
   change Q (if j=i then .norm else .exit j) d1 at h2
   by_cases e:j=i
   ·subst e;rw[G6 rfl] at h2;rw[Nat.beq_refl];exact h2
   ·rw[G5 e] at h2
    rw[show Nat.beq j i=false from by cases hb:Nat.beq j i with|false=>rfl|true=>exact G4 (Hb hb) e];exact h2
  |_=>exact h2
 |reg l=>
  intro d Q h
  obtain ⟨o,d',h1,h2⟩:=u9 (r:=r) _ _ _ h
  cases o with
  |norm=>exact ⟨_,_,cX.reg h1,h2⟩
  |pan v=>exact ⟨_,_,cX.reg h1,h2⟩
  |_=>exact h2.elim
 |regD l=>
  intro d Q h
  obtain ⟨o,d',h1,h2,h3⟩:=uL (r:=r) _ _ _ _ _ h
  cases o with
  |norm=>exact ⟨_,_,cX.regD h1,h2⟩
  |pan v=>exact ⟨_,_,cX.regDp h1,h2⟩
  |_=>exact h2.elim
 |loop a _=>exact fun d Q h=>h
 |rangeFunc f ps a b _ _=>exact fun d Q h=>h
theorem W.loop {c:NC} {Q:Out->Dyn->Prop} (I:Nat->Dyn->Prop) (h:∀k d,I k d->W P S r c d (fun o d'=>match o with| .norm=>∃j,j<k/\I j d'|o=>Q o d')):∀k d,I k d->W P S r (.loop c) d Q:=by
 intro k
 induction k using Nat.strongRecOn with
 |ind k ih=>
  intro d hd
  obtain ⟨o,d',h1,h2⟩:=h k d hd
  cases o with
  |norm=>
   obtain ⟨j,hj,hI⟩:=h2
   obtain ⟨o,d2,h3,h4⟩:=ih j hj d' hI
   exact ⟨o,d2,cX.loop h1 h3,h4⟩
  |_=>exact ⟨_,_,cX.loop_out h1 (by simp),h2⟩
theorem W.mono {c:NC} {d:Dyn} {Q Q':Out->Dyn->Prop} (h:W P S r c d Q) (hq:∀o d,Q o d->Q' o d):W P S r c d Q':=by
 obtain ⟨o,d',h1,h2⟩:=h
 refine ⟨o,d',h1, ?_⟩
 cases o with
 |pan v=>exact h2
 |_=>exact hq _ _ h2
end
end Nm
namespace Nm
open Go Go.RowKit
section
variable {P:PE} {S:bN} {r:Option D4} {dst:Option D4} {op:NOp} {pre idx:Nat} {l:List NOper} {hs:List (Nat×NH)} {rs:List (Nat×(NH->NR)×NV)}
 {L:List (D4×NV)} {t:Tm} {dfs:List Dfr} {ctx:Option NV} {m m':NH} {v:NV} {k k':D4} {d:Dyn} {Q:Out->Dyn->Prop} {K:Dyn->Prop} {A B:Prop}
theorem AI:wp P S r .skip d Q=Q .norm d:=_root_.id rfl
theorem Ew:wp P S r .ret d Q=Q .ret d:=_root_.id rfl
theorem Cn {i:Nat}:wp P S r (.exit i) d Q=Q (.exit i) d:=_root_.id rfl
theorem zh {i:Nat} {a:NC}:wp P S r (.block i a) d Q=wp P S r a d (jX i Q):=_root_.id rfl
theorem Dt:wp P S r (.reg l) d Q=wO P S l d (Q .norm):=_root_.id rfl
theorem BR:wp P S r (.regD l) d Q=wD P S l [] [] d (Q .norm):=_root_.id rfl
theorem Ao {a:NC}:wp P S r (.loop a) d Q=W P S r (.loop a) d Q:=_root_.id rfl
theorem AX:kP K Q .norm d=K d:=_root_.id rfl
theorem Bq:kP K Q .ret d=Q .ret d:=_root_.id rfl
theorem yd {i:Nat}:kP K Q (.exit i) d=Q (.exit i) d:=_root_.id rfl
theorem xJ {i:Nat}:jX i Q .norm d=Q .norm d:=_root_.id rfl
theorem Af {i:Nat}:jX i Q .ret d=Q .ret d:=_root_.id rfl
theorem yF {i j:Nat}:jX i Q (.exit j) d=Q (if j=i then .norm else .exit j) d:=_root_.id rfl
theorem Dw:wO P S [] d K=K d:=_root_.id rfl
def wX (c:Cls) (x:NR) (P:PE) (S:bN) (f:NH->NR) (dst:Option D4) (pre idx:Nat) (l:List NOper) (hs:List (Nat×NH)) (rs:List (Nat×(NH->NR)×NV)) (d:Dyn) (K:Dyn->Prop):Prop:=
 match c with
 | .pure=>(match x with| .val v=>wD P S l hs rs ⟨aA dst v d.t,d.dfs,d.ctx,d.h⟩ K|_=>False)
 | .alloc=>ahead pre hs=true/\(match x with| .mem v m'=>wD P S l hs rs ⟨aA dst v d.t,d.dfs,d.ctx,m'⟩ K|_=>False)
 | .read=>(match x with| .val v=>cw pre f v hs=true/\wD P S l hs ((idx,f,v)::rs) ⟨aA dst v d.t,d.dfs,d.ctx,d.h⟩ K|_=>False)
 | .eff=>ahead pre hs=true/\Gw P S (lD hs idx l) dst d.t d.dfs d.ctx d.h x fun d'=>aS pre d'.h rs=true/\wD P S l ((idx,d.h)::hs) rs d' K
theorem Au:wD P S [] hs rs d K=K d:=_root_.id rfl
theorem xV:wD P S (⟨dst,op,none,pre,idx⟩::l) hs rs ⟨aE L t,dfs,ctx,m⟩ K=wX (ak op) (af op (aE L t) m) P S (af op (aE L t)) dst pre idx l hs rs ⟨aE L t,dfs,ctx,m⟩ K:=by
 cases h:ak op<;>simp only[wD,an,h,wX]<;>cases af op (aE L t) m<;>rfl
section
variable {f:NH->NR}
theorem w6:wX .pure (.val v) P S f (some k) pre idx l hs rs ⟨aE L t,dfs,ctx,m⟩ K=wD P S l hs rs ⟨aE ((k,v)::L) t,dfs,ctx,m⟩ K:=_root_.id rfl
theorem u7:wX .alloc (.mem v m') P S f (some k) pre idx l hs rs ⟨aE L t,dfs,ctx,m⟩ K=(ahead pre hs=true/\wD P S l hs rs ⟨aE ((k,v)::L) t,dfs,ctx,m'⟩ K):=_root_.id rfl
theorem za:wX .read (.val v) P S f (some k) pre idx l hs rs ⟨aE L t,dfs,ctx,m⟩ K=(cw pre f v hs=true/\wD P S l hs ((idx,f,v)::rs) ⟨aE ((k,v)::L) t,dfs,ctx,m⟩ K):=_root_.id rfl
theorem vR:cw pre f v []=true:=_root_.id rfl
theorem uF:ahead pre []=true:=_root_.id rfl
theorem vC:aS pre m []=true:=_root_.id rfl
end
theorem DZ:NT.get k (aE L t)=ei k L (NT.get k t):=fK k L t
theorem Dq:ρ (aE L t) (.tmp k)=ei k L (NT.get k t):=fK k L t
theorem yE:ρ t (.const v)=some v:=_root_.id rfl
theorem xH {o:Option NV}:ei k [] o=o:=_root_.id rfl
theorem Bf {o:Option NV}:ei k ((k',v)::L) o=cond (aX k k') (some v) (ei k L o):=_root_.id rfl
theorem Gi:aX .e .e=true:=_root_.id rfl
theorem FG:aX .e (.a k)=false:=_root_.id rfl
theorem Fm:aX .e (.b k)=false:=_root_.id rfl
theorem Fd:aX .e (.c k)=false:=_root_.id rfl
theorem FQ:aX .e (.f k)=false:=_root_.id rfl
theorem Fj:aX (.a k) .e=false:=_root_.id rfl
theorem F3:aX (.a k) (.a k')=aX k k':=_root_.id rfl
theorem FO:aX (.a k) (.b k')=false:=_root_.id rfl
theorem F8:aX (.a k) (.c k')=false:=_root_.id rfl
theorem Gd:aX (.a k) (.f k')=false:=_root_.id rfl
theorem FV:aX (.b k) .e=false:=_root_.id rfl
theorem FL:aX (.b k) (.a k')=false:=_root_.id rfl
theorem Gm:aX (.b k) (.b k')=aX k k':=_root_.id rfl
theorem F1:aX (.b k) (.c k')=false:=_root_.id rfl
theorem F6:aX (.b k) (.f k')=false:=_root_.id rfl
theorem FP:aX (.c k) .e=false:=_root_.id rfl
theorem FU:aX (.c k) (.a k')=false:=_root_.id rfl
theorem FT:aX (.c k) (.b k')=false:=_root_.id rfl
theorem FB:aX (.c k) (.c k')=aX k k':=_root_.id rfl
theorem Gv:aX (.c k) (.f k')=false:=_root_.id rfl
theorem Gu:aX (.f k) .e=false:=_root_.id rfl
theorem Fe:aX (.f k) (.a k')=false:=_root_.id rfl
theorem Ft:aX (.f k) (.b k')=false:=_root_.id rfl
theorem FR:aX (.f k) (.c k')=false:=_root_.id rfl
theorem Gx:aX (.f k) (.f k')=aX k k':=_root_.id rfl
end
def oN (o:Option NV) (K:NV->NR):NR:=match o with|some v=>K v|none=> .fail
theorem Fs {v:NV} {K:NV->NR}:oN (some v) K=K v:=_root_.id rfl
theorem bK {t:Tm} {x:NOpd} {K:NV->NR}:wV t x K=oN (ρ t x) K:=by
 unfold wV oN;cases ρ t x<;>rfl
theorem F0 {v:NV}:vr (some v)= .val v:=_root_.id rfl
def Ck (v:NV):NR:=match v with| .slc _ _ n _ _=> .val (.int .i64 (.lit (.ofNat n)))| .nils=> .val (.int .i64 (.lit (.ofNat 0)))|_=> .fail
def sH (n:Nat) (s i:NV):NR:=match s,i with| .slc id off len _ _,.int _ (.lit (.ofNat i))=>if i<len then .val (.ptr id (off+i*n)) else .fail|_,_=> .fail
noncomputable def y8 (m:NH) (p:NV):NR:=match p with| .ptr id off=>(match m.get id with|some (.cells _ c)=>oN c[off]? .val|_=> .fail)|_=> .fail
noncomputable def yB (n:Nat) (m:NH) (p:NV):NR:=match p with| .ptr id off=>(match m.get id with|some (.cells _ c)=>if off+n<=c.length then .val (.agg ((c.drop off).take n)) else .fail|_=> .fail)|_=> .fail
def CM (k:Nat) (p:NV):NR:=match p with| .ptr id off=> .val (.ptr id (off+k))|_=> .fail
section
variable {t:Tm} {m:NH}
theorem Ai {x:NOpd}:af (.move x) t m=oN (ρ t x) .val:=bK
theorem EA {c:BC} {op:BinOp} {x y:NOpd}:af (.bin c op x y) t m=oN (ρ t x) fun a=>oN (ρ t y) fun b=>vr (cK c op a b):=by
 show wV t x (fun a=>wV t y fun b=>vr (cK c op a b))=_
 simp only[bK]
theorem Gs {u:UnOp} {x:NOpd}:af (.un u x) t m=oN (ρ t x) fun v=>vr (EM u v):=bK
theorem DQ {x:NOpd}:af (.lenSlc x) t m=oN (ρ t x) Ck:=by
 show wV t x _=_
 rw[bK];cases ρ t x with
 |none=>rfl
 |some v=>cases v<;>rfl
theorem CN {n:Nat} {x i:NOpd}:af (.indexSlc n x i) t m=oN (ρ t x) fun s=>oN (ρ t i) fun i=>sH n s i:=by
 show wV t x (fun v=>cM t i fun i=>match v with
  | .slc id off len _ _=>cond (Nat.ble (Nat.succ i) len) (ai (Nat.add off (Nat.mul i n)) fun o=> .val (.ptr id o)) .fail
  |_=> .fail)=_
 unfold cM
 simp only[bK]
 cases ρ t x with
 |none=>rfl
 |some s=>
  show oN (ρ t i) _=oN (ρ t i) _
  cases ρ t i with
  |none=>rfl
  |some j=>
   show aQ (gf j) _=sH n s j
   cases j with
   |int k z=>
    cases z with
    |lit z=>
     cases z with
     |ofNat q=>
      cases s with
      |slc id off len e kc=>
       show cond (Nat.ble (Nat.succ q) len) (ai (Nat.add off (Nat.mul q n)) fun o=>NR.val (.ptr id o)) .fail=if q<len then _ else _
       rw[ae]
       by_cases hq:q<len
       ·rw[G6 hq,Nat.ble_eq_true_of_le hq];rfl
       ·rw[G5 hq,show Nat.ble (Nat.succ q) len=false from by cases hb:Nat.ble (Nat.succ q) len with|false=>rfl|true=>exact G4 (Nat.le_of_ble_eq_true hb) hq];rfl
      |_=>rfl
     |negSucc q=>cases s<;>rfl
    |_=>cases s<;>rfl
   |_=>cases s<;>rfl
theorem CE {x:NOpd}:af (.load1 x) t m=oN (ρ t x) (y8 m):=by
 show wV t x (fun a=>match a with| .ptr id off=>bY m id fun c=>aQ (gK c off) .val|_=> .fail)=_
 rw[bK]
 cases ρ t x with
 |none=>rfl
 |some v=>
  cases v with
  |ptr id off=>
   show bY m id (fun c=>aQ (gK c off) .val)=y8 m (.ptr id off)
   unfold bY y8
   dsimp only
   split<;>rename_i hm
   ·rw[hm];dsimp only;rw[dr];cases (_:List NV)[off]? <;>rfl
   ·split<;>rename_i h2
    ·exact G4 h2 (hm _ _)
    ·rfl
  |_=>rfl
theorem Ef {k:Nat} {x:NOpd}:af (.fieldAddr k x) t m=oN (ρ t x) (CM k):=by
 show wV t x (fun v=>match v with| .ptr id o=>ai (Nat.add o k) fun o=> .val (.ptr id o)|_=> .fail)=_
 rw[bK]
 cases ρ t x with
 |none=>rfl
 |some v=>cases v<;>first|rfl|exact ae (R:=NR) _ (fun o=> .val (.ptr _ o))
theorem Ez {k off:Nat} {id:D4}:CM k (.ptr id off)= .val (.ptr id (off+k)):=_root_.id rfl
end
theorem DG {b:Bool}:EM .not (.bool b)=some (.bool (!b)):=by cases b<;>rfl
end Nm
namespace Nm
open Go Go.RowKit
def rK (o:Option NV) (K:NV->Prop):Prop:=match o with|some v=>K v|none=>False
def Fu (rs:List NRes) (K:NV->NH->Prop) (o:Out) (d:Dyn):Prop:=(o= .norm∨o= .ret)/\d.dfs= []/\∃v,cB d.h d.t rs .fail (fun l=> .val (jF l) d.ctx d.h)= .val v d.ctx d.h/\K v d.h
section
variable {P:Program} {S:bN} {L:List (D4×NV)} {t:Tm} {ctx:Option NV} {m:NH} {K:NV->NH->Prop} {k k1 k2 k3:D4}
theorem FF {v:NV} {K:NV->Prop}:rK (some v) K=K v:=_root_.id rfl
theorem Call.of_pan {P:Program} {f:Nat} {nf:NFun} (hs:∀l,S f l=fun _=>none) (hf:am P f=some (.code nf)) {args:List NV} {m:NH} {v:NV} {d:Dyn} (h:cX P S none nf.body ⟨di args 0 .leaf, [],none,m⟩ (.pan v) d) (hd:d.dfs= []):Call P S f args m (.pan v d.ctx d.h):=by
 obtain ⟨n,hn⟩:=h
 refine ⟨by simp,n, ?_⟩
 unfold bv
 rw[hs]
 dsimp only
 rw[hf]
 dsimp only
 rw[dL,hf]
 dsimp only
 rw[hn]
 dsimp only
 rw[hd];rfl
end
end Nm
namespace Nm
open Go Go.RowKit
def na (m:NH) (j:Nat):D4:=D4.of (m.next.toNat+j)
def bQ (m:NH) (id:D4):Prop:=id.toNat<m.next.toNat
instance (m:NH) (id:D4):Decidable (bQ m id):=inferInstanceAs (Decidable (_<_))
inductive AK where
 |n (j:Nat)
 |o (id:D4)
noncomputable def nZ (m:NH):List (AK×NO)->NT NO
 | []=>m.m
 |(.n j,x)::l=>NT.put (na m j) x (nZ m l)
 |(.o id,x)::l=>if bQ m id then NT.put id x (nZ m l) else nZ m l
noncomputable def hp (l:List (AK×NO)) (k:Nat) (m:NH):NH:=⟨nZ m l,na m k⟩
def jB (j:Nat):List (AK×NO)->Option NO->Option NO
 | [],d=>d
 |(.n i,x)::l,d=>if j=i then some x else jB j l d
 |(.o _,_)::l,d=>jB j l d
noncomputable def fC (id:D4):List (AK×NO)->Option NO->Option NO
 | [],d=>d
 |(.n _,_)::l,d=>fC id l d
 |(.o i,x)::l,d=>@ite _ (id=i) (Classical.propDecidable _) (some x) (fC id l d)
theorem As {m:NH} {i j:Nat} (h:na m i=na m j):i=j:=by
 have:=D4.of_inj h;omega
theorem By (m:NH) (k:Nat):(na m k).nxt=na m (k+1):=by
 apply D4.toNat_inj
 rw[D4.toNat_nxt];unfold na;rw[D4.toNat_of,D4.toNat_of];omega
theorem yi (m:NH):na m 0=m.next:=D4.of_toNat _
theorem aG (m:NH):hp [] 0 m=m:=by
 show NH.mk m.m (na m 0)=m
 rw[yi]
theorem bQ.ne {m:NH} {id:D4} (h:bQ m id) (j:Nat):id≠na m j:=by
 intro e
 unfold bQ at h
 rw[e] at h;unfold na at h;rw[D4.toNat_of] at h;omega
section
variable {m:NH} {l:List (AK×NO)} {k j:Nat} {o:NO} {id:D4}
theorem Bg:(hp l k m).next=na m k:=_root_.id rfl
theorem EY:(hp l k m).add o=hp ((.n k,o)::l) (k+1) m:=by
 show NH.mk (NT.put (na m k) o (nZ m l)) (na m k).nxt=NH.mk (NT.put (na m k) o (nZ m l)) (na m (k+1))
 rw[By]
theorem Cb:(hp l k m).put (na m j) o=hp ((.n j,o)::l) k m:=_root_.id rfl
theorem Cy (h:bQ m id):(hp l k m).put id o=hp ((.o id,o)::l) k m:=by
 show NH.mk (NT.put id o (nZ m l)) (na m k)=NH.mk (if bQ m id then NT.put id o (nZ m l) else nZ m l) (na m k)
 rw[G6 h]
theorem aH:(hp l k m).get (na m j)=jB j l (m.get (na m j)):=by
 show NT.get (na m j) (nZ m l)=_
 induction l with
 |nil=>rfl
 |cons p l ih=>
  obtain ⟨a,x⟩:=p
  cases a with
  |n i=>
   show NT.get (na m j) (NT.put (na m i) x (nZ m l))=if j=i then some x else jB j l _
   split
   ·rename_i h;rw[h];exact NT.get_put_same _ _ _
   ·rename_i h;rw[NT.get_put_ne (fun e=>h (As e))];exact ih
  |o i=>
   show NT.get (na m j) (if bQ m i then NT.put i x (nZ m l) else nZ m l)=jB j l _
   split
   ·rename_i h;rw[NT.get_put_ne (fun e=>h.ne j e.symm)];exact ih
   ·exact ih
theorem pP (h:bQ m id):(hp l k m).get id=fC id l (m.get id):=by
 show NT.get id (nZ m l)=_
 induction l with
 |nil=>rfl
 |cons p l ih=>
  obtain ⟨a,x⟩:=p
  cases a with
  |n i=>
   show NT.get id (NT.put (na m i) x (nZ m l))=fC id l _
   rw[NT.get_put_ne (h.ne _)];exact ih
  |o i=>
   show NT.get id (if bQ m i then NT.put i x (nZ m l) else nZ m l)=@ite _ (id=i) (Classical.propDecidable _) (some x) (fC id l _)
   by_cases e:id=i
   ·rw[G6 e,←e,G6 h];exact NT.get_put_same _ _ _
   ·rw[G5 e]
    split
    ·rw[NT.get_put_ne e];exact ih
    ·exact ih
theorem vw {i:Nat} {d:Option NO}:jB j ((.n i,o)::l) d=if j=i then some o else jB j l d:=_root_.id rfl
theorem wn {d:Option NO}:fC id [] d=d:=_root_.id rfl
theorem oy {i:Nat} {d:Option NO}:fC id ((.n i,o)::l) d=fC id l d:=_root_.id rfl
theorem nV {d:Option NO}:fC id ((.o id,o)::l) d=some o:=G6 rfl
theorem oZ {i:D4} {d:Option NO} (h:id≠i):fC id ((.o i,o)::l) d=fC id l d:=G5 h
end
structure Chg (S:List D4) (m m':NH):Prop where
 next:m.next.toNat<=m'.next.toNat
 get:∀{id},bQ m id->id∉S->m'.get id=m.get id
theorem Chg.old {S:List D4} {m m':NH} {id:D4} (h:Chg S m m') (ho:bQ m id):bQ m' id:=Nat.lt_of_lt_of_le ho h.next
theorem Chg.refl (m:NH):Chg [] m m:=⟨Nat.le_refl _,fun _ _=>rfl⟩
theorem Chg.weak {S T:List D4} {a b:NH} (h:Chg S a b) (hs:∀id,id∈S->bQ a id->id∈T):Chg T a b:=
 ⟨h.1,fun {id} ho hi=>h.2 ho fun q=>hi (hs id q ho)⟩
theorem Chg.trans {S T:List D4} {a b c:NH} (h:Chg S a b) (h':Chg T b c) (hs:∀id,id∈T->bQ a id->id∈S):Chg S a c:=
 ⟨Nat.le_trans h.1 h'.1,fun {id} ho hi=>(h'.2 (h.old ho) fun q=>hi (hs id q ho)).trans (h.2 ho hi)⟩
def pE:List (AK×NO)->List D4
 | []=> []
 |(.n _,_)::l=>pE l
 |(.o i,_)::l=>i::pE l
theorem qw (l:List (AK×NO)) (k:Nat) (m:NH):Chg (pE l) m (hp l k m):=by
 refine ⟨by show m.next.toNat<=(na m k).toNat;unfold na;rw[D4.toNat_of];omega,fun {id} ho hi=> ?_⟩
 rw[pP ho]
 induction l with
 |nil=>rfl
 |cons p l ih=>
  obtain ⟨a,x⟩:=p
  cases a with
  |n i=>rw[oy];exact ih hi
  |o i=>
   have hi:id∉i::pE l:=hi
   rw[Ha] at hi
   rw[oZ (fun e=>hi (Or.inl e))]
   exact ih fun q=>hi (Or.inr q)
theorem ab {l:List (AK×NO)} {k j:Nat} {m:NH} (h:j<k):bQ (hp l k m) (na m j):=by
 show (na m j).toNat<(na m k).toNat
 unfold na;rw[D4.toNat_of,D4.toNat_of];omega
theorem aa {l:List (AK×NO)} {k:Nat} {m:NH} {id:D4} (h:bQ m id):bQ (hp l k m) id:=(qw l k m).old h
theorem aY {m:NH} {j:Nat}:¬bQ m (na m j):=by
 show ¬(na m j).toNat<m.next.toNat
 unfold na;rw[D4.toNat_of];omega
def bo (P:Program) (S:bN) (f:Nat) (args:List NV) (m:NH) (v:NV) (m':NH):Prop:=∃c,Call P S f args m (.val v c m')
section
variable {P:Program} {S:bN} {f:Nat} {args:List NV} {m:NH}
theorem WF.ret {K:NV->NH->Prop} (h:WF P S f args m K):∃v m',bo P S f args m v m'/\K v m':=by
 obtain ⟨v,c,m',hc,hk⟩:=WF.ret' h;exact ⟨v,m',⟨c,hc⟩,hk⟩
theorem Call.det {x y:CR} (h:Call P S f args m x) (h':Call P S f args m y):x=y:=by
 obtain ⟨hn,n,e⟩:=h
 obtain ⟨hn',k,e'⟩:=h'
 rw[←cF (bI (Nat.le_max_left n k)) e hn,cF (bI (Nat.le_max_right n k)) e' hn']
theorem bo.wf {E:NV->NH->Prop} {v:NV} {m':NH} (h:bo P S f args m v m') {K:NV->NH->Prop}:WF ⟨P,E⟩ S f args m K=K v (hp [] 0 m'):=by
 rw[aG]
 apply propext
 constructor
 ·rintro (⟨u,c,n,hc,hk⟩|⟨u,c,n,hc,hk⟩)
  ·obtain ⟨c',h'⟩:=h
   have:=Call.det hc h'
   injection this with a _ b
   rw[←a,←b];exact hk
  ·obtain ⟨c',h'⟩:=h
   exact G4 (Call.det hc h') (by simp)
 ·intro hk
  obtain ⟨c,h⟩:=h
  exact Or.inl ⟨v,c,m',h,hk⟩
def GK (P:Program) (S:bN) (f:Nat) (args:List NV) (m:NH) (v:NV) (m':NH):Prop:=∃c,Call P S f args m (.pan v c m')
theorem GK.wf {E:NV->NH->Prop} {v:NV} {m':NH} (h:GK P S f args m v m') {K:NV->NH->Prop}:WF ⟨P,E⟩ S f args m K=E v m':=by
 apply propext
 constructor
 ·rintro (⟨u,c,n,hc,hk⟩|⟨u,c,n,hc,hk⟩)
  ·obtain ⟨c',h'⟩:=h
   exact G4 (Call.det hc h') (by simp)
  ·obtain ⟨c',h'⟩:=h
   have:=Call.det hc h'
   injection this with a _ b
   rw[←a,←b];exact hk
 ·intro hk
  obtain ⟨c,h⟩:=h
  exact Or.inr ⟨v,c,m',h,hk⟩
end
section
variable {t:Tm} {m:NH}
theorem Ak {x:NOpd} {ty:Nat}:af (.box x ty) t m=oN (ρ t x) fun v=>match cellsOf v with|some cs=> .mem (.ptr m.next 0) (m.add (.cells true cs))|none=> .fail:=by
 show wV t x (fun v=>aQ (cellsOf v) fun cs=>m.new (.cells true cs) fun id h=> .mem (.ptr id 0) h)=_
 rw[bK]
 cases ρ t x with
 |none=>rfl
 |some v=>
  show aQ (cellsOf v) _=(match cellsOf v with|some cs=>_|none=>NR.fail)
  cases cellsOf v with
  |none=>rfl
  |some cs=>exact NH.new_eq m (.cells true cs) (fun id h=>NR.mem (.ptr id 0) h)
theorem xI {z:List NV} {ty:Nat}:af (.alloc z ty) t m= .mem (.ptr m.next 0) (m.add (.cells true z)):=NH.new_eq m (.cells true z) (fun id h=>NR.mem (.ptr id 0) h)
end
end Nm
namespace Nm
open Go Go.RowKit
section
variable {P:Program} {S:bN}
theorem zR.of {l:D4} {args:List NV} {m:NH} {p p1:Jump} {tm tm1:NT NV} {ps ps1:List D4} {a b a1 b1:NC} {d1 d2:Dyn} {o:Out} {x:CR}
 (hm:m.get l=some (.loop 0 p tm ps a b)) (hlen:args.length=ps.length) (ha:cX P S (some l) a ⟨mF ps args tm, [],none,m⟩ .norm d1) (hd1:d1.dfs= [])
 (hm1:d1.h.get l=some (.loop 0 p1 tm1 ps1 a1 b1)) (hb:cX P S (some l) b ⟨d1.t, [],none,d1.h.put l (.loop 1 p1 tm1 ps1 a1 b1)⟩ o d2) (ho:∀v,o≠.pan v) (hr:eq l o d2.h=x) (hne:x≠.fail):zR P S l args m x:=by
 obtain ⟨n,hn⟩:=ha
 obtain ⟨k,hk⟩:=hb
 refine ⟨hne,max n k, ?_⟩
 have key:∀(ps:List D4) (args:List NV) (tm:Tm) (K:Tm->CR),args.length=ps.length->cI .fail ps args tm K=K (mF ps args tm):=by
  intro ps
  induction ps with
  |nil=>intro args tm K h;cases args with
   |nil=>rfl
   |cons=>simp at h
  |cons q ps ih=>
   intro args tm K h
   cases args with
   |nil=>simp at h
   |cons v vs=>
    have e:cI .fail (q::ps) (v::vs) tm K=NT.set q v tm fun t=>cI .fail ps vs t K:=rfl
    rw[e,NT.set_eq]
    exact ih _ _ _ (by simpa using h)
 unfold round
 rw[hm]
 show cI .fail ps args tm (fun t=>match ev P S (max n k) (some l) a ⟨t, [],none,m⟩ with
  | .mk .norm d=>(match d.dfs with| []=>bV (ev P S (max n k)) l b d.t d.h|_=> .fail)
  |_=> .fail)=x
 rw[key _ _ _ _ hlen,bI (Nat.le_max_left n k) _ _ _ _ _ hn]
 show (match d1.dfs with| []=>bV (ev P S (max n k)) l b d1.t d1.h|_=> .fail)=x
 rw[hd1]
 show bV (ev P S (max n k)) l b d1.t d1.h=x
 unfold bV
 rw[hm1]
 show (d1.h.set l (.loop 1 p1 tm1 ps1 a1 b1) fun h=>(match ev P S (max n k) (some l) b ⟨d1.t, [],none,h⟩ with
  | .mk o d=>(match o with
   | .pan v=>(match d.dfs with| []=>CR.pan v none d.h|_=> .fail)
   |o=>eq l o d.h)
  | .fail=> .fail))=x
 rw[NH.set_eq,bI (Nat.le_max_right n k) _ _ _ _ _ hk]
 cases o with
 |pan v=>exact G4 rfl (ho v)
 |_=>exact hr
theorem cX.range {f:Nat} {cap:List NV} {fx:NOpd} {ps:List D4} {a b:NC} {t:Tm} {dfs:List Dfr} {ctx:Option NV} {m m':NH} {v:NV} {c:Option NV} {o:Out} {d:Dyn}
 (hf:ρ t fx=some (.fn f cap)) (hc:Call P S f (.yld (m.add (.defd true)).next::cap) ((m.add (.defd true)).add (.loop 0 .none t ps a b)) (.val v c m'))
 (he:dw (m.add (.defd true)).next t (.mark m.next::dfs) ctx m'= .mk o d):cX P S none (.rangeFunc fx ps a b) ⟨t,dfs,ctx,m⟩ o d:=by
 obtain ⟨hne,k,hk⟩:=hc
 refine ⟨k+1, ?_⟩
 show (match ρ t fx with
  |some (.fn f cap)=>m.new (.defd true) fun q m=>bH P S (ev P S k) f cap ps a b t (.mark q::dfs) ctx m
  |_=>Res.fail)=_
 rw[hf]
 try dsimp only
 rw[NH.new_eq]
 unfold bH
 rw[NH.new_eq,hk]
 exact he
end
end Nm
namespace Nm
open Go Go.RowKit
section
variable {t:Tm} {m:NH}
theorem DH {n:Nat} {x:NOpd}:af (.loadN n x) t m=oN (ρ t x) (yB n m):=by
 show wV t x (fun a=>match a with| .ptr id off=>bY m id fun c=>aQ (fH c off n) fun l=> .val (.agg l)|_=> .fail)=_
 rw[bK]
 cases ρ t x with
 |none=>rfl
 |some v=>
  cases v with
  |ptr id off=>
   show bY m id (fun c=>aQ (fH c off n) fun l=> .val (.agg l))=yB n m (.ptr id off)
   unfold bY yB
   dsimp only
   split<;>rename_i hm
   ·rw[hm];dsimp only;rw[fq];split<;>rfl
   ·split<;>rename_i h2
    ·exact G4 h2 (hm _ _)
    ·rfl
  |_=>rfl
def CZ (i:Nat) (a:NV):NR:=match a with| .tup l=>oN l[i]? .val|_=> .fail
theorem ta {i:Nat} {x:NOpd}:af (.extract x i) t m=oN (ρ t x) (CZ i):=by
 show wV t x (fun v=>match v with| .tup l=>aQ (gK l i) .val|_=> .fail)=_
 rw[bK]
 cases ρ t x with
 |none=>rfl
 |some v=>
  cases v with
  |tup l=>show aQ (gK l i) .val=oN l[i]? .val;rw[dr];cases l[i]? <;>rfl
  |_=>rfl
theorem D3 {i:Nat} {l:List NV}:CZ i (.tup l)=oN l[i]? .val:=_root_.id rfl
def vY (f:NV) (l:List NV):NR:=match f with| .fn f cap=> .call f (l++cap)| .yld r=> .yld r l|_=> .fail
noncomputable def wT (t:Tm):List NOpd->(List NV->NR)->NR
 | [],K=>K []
 |x::l,K=>oN (ρ t x) fun v=>wT t l fun l=>K (v::l)
theorem mr {l:List NOpd} {K:List NV->NR}:qt t l .fail K=wT t l K:=by
 induction l generalizing K with
 |nil=>rfl
 |cons x l ih=>
  show Option.rec NR.fail (fun v=>qt t l .fail fun l=>K (v::l)) (ρ t x)=oN (ρ t x) fun v=>wT t l fun l=>K (v::l)
  cases ρ t x with
  |none=>rfl
  |some v=>exact ih
theorem Bo {K:List NV->NR}:wT t [] K=K []:=_root_.id rfl
theorem ER {x:NOpd} {l:List NOpd} {K:List NV->NR}:wT t (x::l) K=oN (ρ t x) fun v=>wT t l fun l=>K (v::l):=_root_.id rfl
theorem Cw {f:NOpd} {args:List NOpd}:af (.call f args) t m=oN (ρ t f) fun f=>wT t args (vY f):=by
 show wV t f (fun f=>qt t args .fail fun l=>match f with| .fn f cap=>gd l cap fun l=> .call f l| .yld r=> .yld r l|_=> .fail)=_
 rw[bK]
 cases ρ t f with
 |none=>rfl
 |some f=>
  show qt t args .fail _=wT t args (vY f)
  rw[mr]
  congr 1
  funext l
  cases f with
  |fn f cap=>exact d6 l cap (fun l=>NR.call f l)
  |_=>rfl
theorem AP {f:Nat} {cap l:List NV}:vY (.fn f cap) l= .call f (l++cap):=_root_.id rfl
theorem Bz {f:Nat} {l:List NOpd}:af (.mkFn f l) t m=wT t l fun l=> .val (.fn f l):=mr
end
end Nm
namespace Nm
open Go Go.RowKit
section
variable {t:Tm} {m:NH}
noncomputable def E6 (n:Nat) (m:NH) (a v:NV):NR:=match a with
 | .ptr id off=>(match cellsOf v with
  |some cs=>if cs.length=n then (match m.get id with
   |some (.cells true c)=>if off+cs.length<=c.length then .mem aI (m.put id (.cells true (c.take off++cs++c.drop (off+cs.length)))) else .fail
   |_=> .fail) else .fail
  |none=> .fail)
 |_=> .fail
theorem xk {n:Nat} {a x:NOpd}:af (.store n a x) t m=oN (ρ t a) fun a=>oN (ρ t x) fun v=>E6 n m a v:=by
 show wV t a (fun a=>wV t x fun v=>match a with
  | .ptr id off=>aQ (cellsOf v) fun cs=>ci cs fun k=>cond (Nat.beq k n) (storeAt m id off cs fun h=> .mem aI h) .fail
  |_=> .fail)=_
 simp only[bK]
 cases ρ t a with
 |none=>rfl
 |some a=>
  show oN (ρ t x) _=oN (ρ t x) _
  cases ρ t x with
  |none=>rfl
  |some v=>
   cases a with
   |ptr id off=>
    show aQ (cellsOf v) (fun cs=>ci cs fun k=>cond (Nat.beq k n) (storeAt m id off cs fun h=> .mem aI h) .fail)=E6 n m (.ptr id off) v
    unfold E6
    cases cellsOf v with
    |none=>rfl
    |some cs=>
     show ci cs (fun k=>cond (Nat.beq k n) (storeAt m id off cs fun h=> .mem aI h) .fail)=if cs.length=n then _ else _
     rw[be]
     cases hb:Nat.beq cs.length n with
     |false=>rw[G5 (Nat.ne_of_beq_eq_false hb)];rfl
     |true=>
      rw[G6 (Hb hb)]
      show storeAt m id off cs (fun h=> .mem aI h)=_
      unfold storeAt fY
      cases hm:m.get id with
      |none=>rfl
      |some o=>
       cases o with
       |cells w c=>
        cases w with
        |false=>rfl
        |true=>
         show aQ (dk cs off c) (fun c=>m.set id (.cells true c) fun h=> .mem aI h)=if off+cs.length<=c.length then _ else _
         rw[eA]
         split
         ·exact NH.set_eq m id _ (fun h=>NR.mem aI h)
         ·rfl
       |_=>rfl
   |_=>rfl
end
end Nm
namespace Nm
open Go Go.RowKit
section
variable {t:Tm} {m:NH}
noncomputable def GB (n len:Nat) (m:NH) (o:Option (List NV)):NR:=match o with|some l=> .mem (.slc m.next 0 len n len) (m.add (.cells true l))|none=> .fail
theorem AV {z:List NV} {n len ty:Nat} {ps:List (Nat×Nat×NOpd)}:af (.buildSlice z n len ty ps) t m=GB n len m (bJ t ps 0 z):=by
 show aQ (bJ t ps 0 z) (fun l=>m.new (.cells true l) fun id h=> .mem (.slc id 0 len n len) h)=_
 cases bJ t ps 0 z with
 |none=>rfl
 |some l=>exact NH.new_eq m (.cells true l) (fun id h=>NR.mem (.slc id 0 len n len) h)
theorem F7 {n len:Nat} {l:List NV}:GB n len m (some l)= .mem (.slc m.next 0 len n len) (m.add (.cells true l)):=_root_.id rfl
def oO {α β:Type} (o:Option α) (K:α->Option β):Option β:=match o with|some x=>K x|none=>none
theorem FN {α β:Type} {x:α} {K:α->Option β}:oO (some x) K=K x:=_root_.id rfl
end
end Nm
namespace Nm
open Go Go.RowKit
def wQ (q:Bool) (A B:Dyn->Prop) (d:Dyn):Prop:=(q=true->A d)/\(q=false->B d)
def wC (o:Option NV) (A B:Dyn->Prop) (d:Dyn):Prop:=wB o (A d) (B d)
def wG (o:Option NV) (b:Bool) (A B:Dyn->Prop) (d:Dyn):Prop:=match o with
 |some (.bool q)=>wQ (q==b) A B d
 |some _=>B d
 |none=>False
def th (F:Tm->List Dfr->Option NV->NH->Prop) (d:Dyn):Prop:=F d.t d.dfs d.ctx d.h
noncomputable def qm (x:NR) (v:NV):Bool:=match x with| .val u=>bx 4 u v|_=>false
section
variable {P:PE} {S:bN} {r:Option D4} {dst:Option D4} {op:NOp} {pre idx:Nat} {l:List NOper} {hs:List (Nat×NH)} {rs:List (Nat×(NH->NR)×NV)}
 {L:List (D4×NV)} {t:Tm} {dfs:List Dfr} {ctx:Option NV} {m m':NH} {v:NV} {k k' g:D4} {d:Dyn} {Q:Out->Dyn->Prop} {K:Dyn->Prop} {A B:Dyn->Prop} {b q:Bool}
theorem Fq:wC (some (.bool q)) A B d=wQ q A B d:=_root_.id rfl
theorem D5:wQ true A B d=A d:=by simp[wQ]
theorem Dd:wQ false A B d=B d:=by simp[wQ]
theorem Gl:wG (some (.bool q)) b A B d=wQ (q==b) A B d:=_root_.id rfl
theorem CC:wG (some aI) b A B d=B d:=_root_.id rfl
theorem yj:wO P S (⟨dst,op,some (g,b),pre,idx⟩::l) ⟨aE L t,dfs,ctx,m⟩ K=wG (ei g L (NT.get g t)) b (th fun t dfs ctx m=>wN P S dst t dfs ctx m (af op t m) fun d=>wO P S l d K) (th fun t dfs ctx m=>wO P S l ⟨aA dst aI t,dfs,ctx,m⟩ K) ⟨aE L t,dfs,ctx,m⟩:=by
 unfold wG
 rw[←fK]
 show (match an (aE L t) (some (g,b)) with|some true=>_|some false=>_|none=>False)=_
 have e:an (aE L t) (some (g,b))=(match NT.get g (aE L t) with|some (.bool q)=>some (q==b)|some _=>some false|none=>none):=by
  show Option.rec (motive:=fun _=>Option Bool) none (fun v=>NV.onBool (some false) (fun c=>some (dM b c)) v) (NT.get g (aE L t))=_
  cases NT.get g (aE L t) with
  |none=>rfl
  |some v=>cases v with
   |bool q=>cases q<;>cases b<;>rfl
   |_=>rfl
 rw[e]
 cases NT.get g (aE L t) with
 |none=>rfl
 |some v=>cases v with
  |bool q=>
   dsimp only
   unfold wQ th
   cases (q==b)<;>simp
  |_=>rfl
theorem u0:wD P S (⟨dst,op,some (g,b),pre,idx⟩::l) hs rs ⟨aE L t,dfs,ctx,m⟩ K=wG (ei g L (NT.get g t)) b (th fun t dfs ctx m=>wX (ak op) (af op t m) P S (af op t) dst pre idx l hs rs ⟨t,dfs,ctx,m⟩ K) (th fun t dfs ctx m=>wD P S l hs rs ⟨aA dst aI t,dfs,ctx,m⟩ K) ⟨aE L t,dfs,ctx,m⟩:=by
 unfold wG
 rw[←fK]
 have e:an (aE L t) (some (g,b))=(match NT.get g (aE L t) with|some (.bool q)=>some (q==b)|some _=>some false|none=>none):=by
  show Option.rec (motive:=fun _=>Option Bool) none (fun v=>NV.onBool (some false) (fun c=>some (dM b c)) v) (NT.get g (aE L t))=_
  cases NT.get g (aE L t) with
  |none=>rfl
  |some v=>cases v with
   |bool q=>cases q<;>cases b<;>rfl
   |_=>rfl
 have e2:wD P S (⟨dst,op,some (g,b),pre,idx⟩::l) hs rs ⟨aE L t,dfs,ctx,m⟩ K=(match an (aE L t) (some (g,b)) with
  |some true=>wX (ak op) (af op (aE L t) m) P S (af op (aE L t)) dst pre idx l hs rs ⟨aE L t,dfs,ctx,m⟩ K
  |some false=>wD P S l hs rs ⟨aA dst aI (aE L t),dfs,ctx,m⟩ K
  |none=>False):=by
  unfold wX
  simp only[wD]
  all_goals (cases an (aE L t) (some (g,b)) with
   |none=>rfl
   |some q=>cases q with
    |false=>rfl
    |true=>cases ak op<;>cases af op (aE L t) m<;>rfl)
 rw[e2,e]
 cases NT.get g (aE L t) with
 |none=>rfl
 |some v=>cases v with
  |bool q=>
   dsimp only
   unfold wQ th
   cases (q==b)<;>simp
  |_=>rfl
theorem zr {i:Nat} {f:NH->NR}:cw pre f v ((i,m)::hs)=cond (Nat.testBit pre i) (cw pre f v hs) (qm (f m) v&&cw pre f v hs):=by
 show cond (Nat.testBit pre i) (cw pre f v hs) (match f m with| .val u=>cond (bx 4 u v) (cw pre f v hs) false|_=>false)=_
 congr 1
 cases f m with
 |val u=>show cond (bx 4 u v) _ false=(bx 4 u v&&_);cases bx 4 u v<;>rfl
 |_=>rfl
theorem y9 {i:Nat} {f:NH->NR} {u:NV}:aS pre m ((i,f,u)::rs)=cond (Nat.testBit pre i) (aS pre m rs) (qm (f m) u&&aS pre m rs):=by
 show cond (Nat.testBit pre i) (aS pre m rs) (match f m with| .val v=>cond (bx 4 v u) (aS pre m rs) false|_=>false)=_
 congr 1
 cases f m with
 |val u'=>show cond (bx 4 u' u) _ false=(bx 4 u' u&&_);cases bx 4 u' u<;>rfl
 |_=>rfl
theorem yJ {i:Nat}:ahead pre ((i,m)::hs)=cond (Nat.testBit pre i) (ahead pre hs) false:=_root_.id rfl
theorem vB {u:NV}:qm (.val u) v=bx 4 u v:=_root_.id rfl
end
theorem eM (d:D4):aX d d=true:=kE d
theorem nM (l:List Nat):qd l l=true:=by
 induction l with
 |nil=>rfl
 |cons x l ih=>show cond (Nat.beq x x) (qd l l) false=true;rw[Nat.beq_refl];exact ih
theorem po (l:List ST):mm l l=true:=by
 induction l with
 |nil=>rfl
 |cons x l ih=>
  obtain ⟨m,i,lo,hi⟩:=x
  show cond (Nat.beq m m) (cond (Nat.beq i i) (cond (Nat.beq lo lo) (cond (Nat.beq hi hi) (mm l l) false) false) false) false=true
  simp[ih]
def wL (v:NV):Prop:=match v with| .agg _| .tup _| .fn _ _| .ifc _ _| .int _ (.ge _)| .int _ (.le _)=>False|_=>True
theorem lX {n:Nat} {v:NV} (h:wL v):bx (n+1) v v=true:=by
 show rX (bx n) v v=true
 have hi:∀z:Int,fV z z=true:=fun z=>by rw[bp];simp
 cases v with
 |bool b=>cases b<;>rfl
 |int k x=>cases x with
  |lit z=>show cond (eU k k) (fV z z) false=true;rw[hi];cases k<;>rfl
  |sym c ts=>show cond (eU k k) (cond (fV c c) (mm ts ts) false) false=true;rw[hi,po];cases k<;>rfl
  |ge z=>exact h.elim
  |le z=>exact h.elim
 |str s=>exact nM s
 |ptr id o=>show cond (aX id id) (Nat.beq o o) false=true;rw[eM];simp
 |slc id o n e k=>show cond (aX id id) (cond (Nat.beq o o) (cond (Nat.beq n n) (cond (Nat.beq e e) (Nat.beq k k) false) false) false) false=true;rw[eM];simp
 |map id=>exact eM id
 |yld id=>exact eM id
 |agg l=>exact h.elim
 |tup l=>exact h.elim
 |fn f c=>exact h.elim
 |ifc t v=>exact h.elim
 |_=>rfl
theorem n5 {l:List Nat}:wL (.str l)=True:=_root_.id rfl
theorem zj {n:Nat} {k:IntKind} {z:Int}:bx (n+1) (.int k (.lit z)) (.int k (.lit z))=true:=lX trivial
end Nm
namespace Nm
open Go Go.RowKit
theorem Dy {a b:Int} (h:-9223372036854775808<=a - b) (h':a - b<9223372036854775808):cK .num .sub (.int .i64 (.lit a)) (.int .i64 (.lit b))=some (.int .i64 (.lit (a - b))):=by
 refine (qJ rfl).trans ?_
 show bG .i64 (bA .i64 (lF a b))=_
 rw[dT,wrap_small h h']
 exact ch _ _
theorem AA {p:Prop} [Decidable p] (h:p):decide p=true:=by simp[h]
theorem xC {p:Prop} [Decidable p] (h:¬p):decide p=false:=by simp[h]
section
variable {m:NH}
theorem vW {n off len e kc:Nat} {id:D4} {ik:IntKind} {z:Int} (h0:0<=z) (h1:z<len):sH n (.slc id off len e kc) (.int ik (.lit z))= .val (.ptr id (off+z.toNat*n)):=by
 obtain ⟨i,rfl⟩:=Hc h0
 show (if i<len then NR.val (.ptr id (off+i*n)) else .fail)= .val (.ptr id (off+i*n))
 rw[G6 (by omega)]
noncomputable def Ey (off:Nat) (o:Option NO):NR:=match o with|some (.cells _ c)=>oN c[off]? .val|_=> .fail
noncomputable def Et (n off:Nat) (o:Option NO):NR:=match o with|some (.cells _ c)=>if off+n<=c.length then .val (.agg ((c.drop off).take n)) else .fail|_=> .fail
theorem D6 {id:D4} {off:Nat}:y8 m (.ptr id off)=Ey off (m.get id):=_root_.id rfl
theorem CY {id:D4} {n off:Nat}:yB n m (.ptr id off)=Et n off (m.get id):=_root_.id rfl
theorem Ch {off:Nat} {w:Bool} {c:List NV}:Ey off (some (.cells w c))=oN c[off]? .val:=_root_.id rfl
theorem A6 {n off:Nat} {w:Bool} {c:List NV} (h:off+n<=c.length):Et n off (some (.cells w c))= .val (.agg ((c.drop off).take n)):=G6 h
noncomputable def FM (n:Nat) (id:D4) (off:Nat) (m:NH) (cs:Option (List NV)) (o:Option NO):NR:=match cs with
 |some cs=>if cs.length=n then (match o with
  |some (.cells true c)=>if off+cs.length<=c.length then .mem aI (m.put id (.cells true (c.take off++cs++c.drop (off+cs.length)))) else .fail
  |_=> .fail) else .fail
 |none=> .fail
theorem F5 {n off:Nat} {id:D4} {v:NV}:E6 n m (.ptr id off) v=FM n id off m (cellsOf v) (m.get id):=_root_.id rfl
theorem gg {c:List NV} {off:Nat} {x:NV} (h:off<c.length):c.take off++ [x]++c.drop (off+1)=c.set off x:=by
 rw[List.set_eq_take_append_cons_drop,G6 h]
 simp
theorem CJ {off:Nat} {id:D4} {x:NV} {c:List NV} (h:off<c.length):FM 1 id off m (some [x]) (some (.cells true c))= .mem aI (m.put id (.cells true (c.set off x))):=by
 show (if [x].length=1 then (if off+ [x].length<=c.length then NR.mem aI (m.put id (.cells true (c.take off++ [x]++c.drop (off+ [x].length)))) else .fail) else .fail)=_
 rw[G6 (show [x].length=1 from rfl),G6 (by show off+1<=_;omega)]
 show NR.mem aI (m.put id (.cells true (c.take off++ [x]++c.drop (off+1))))=_
 rw[gg h]
theorem CD {n off:Nat} {id:D4} {cs c:List NV} (h:cs.length=n+2) (h':off+(n+2)<=c.length):FM (n+2) id off m (some cs) (some (.cells true c))= .mem aI (m.put id (.cells true (c.take off++cs++c.drop (off+(n+2))))):=by
 rw[←h] at h' ⊢
 show (if cs.length=cs.length then (if off+cs.length<=c.length then NR.mem aI (m.put id (.cells true (c.take off++cs++c.drop (off+cs.length)))) else .fail) else .fail)=_
 rw[G6 rfl,G6 h']
end
section
variable {t:Tm} {m:NH}
def r6 (c:NV) (a b:Option NV):NR:=match c with| .bool c=>(if c then oN a .val else oN b .val)|_=> .fail
theorem Bj {c a b:NOpd}:af (.pick c a b) t m=oN (ρ t c) fun c=>r6 c (ρ t a) (ρ t b):=by
 show wV t c (fun c=>match c with| .bool c=>Bool.rec (wV t b .val) (wV t a .val) c|_=> .fail)=_
 rw[bK]
 cases ρ t c with
 |none=>rfl
 |some v=>
  cases v with
  |bool q=>show Bool.rec (wV t b .val) (wV t a .val) q=if q then oN (ρ t a) .val else oN (ρ t b) .val;rw[bK,bK];cases q<;>rfl
  |_=>rfl
theorem yh {a b:Option NV}:r6 (.bool true) a b=oN a .val:=_root_.id rfl
theorem yX {a b:Option NV}:r6 (.bool false) a b=oN b .val:=_root_.id rfl
theorem yv {q p r:Bool}:r6 (.bool q) (some (.bool p)) (some (.bool r))= .val (.bool (if q then p else r)):=by cases q<;>rfl
theorem uD {mx:Bool} {l:List NOpd}:af (.minmax mx l) t m=wT t l fun l=>oN (sG mx l) .val:=by
 show qt t l .fail (fun l=>aQ (sG mx l) .val)=_
 rw[mr]
 congr 1
 funext l
 cases sG mx l<;>rfl
theorem DT {k:IntKind} {a b:Int}:sG true [.int k (.lit a),.int k (.lit b)]=some (.int k (.lit (max a b))):=by
 show Option.rec (motive:=fun _=>Option NV) none some (cond (cond true (gi a b) (gi b a)) (some (NV.int k (.lit b))) (some (.int k (.lit a))))=_
 rw[bE]
 by_cases h:a<b
 ·simp[h,Int.max_def,show a<=b by omega]
 ·simp[h,Int.max_def];omega
theorem Dv {k:IntKind} {a b:Int}:sG false [.int k (.lit a),.int k (.lit b)]=some (.int k (.lit (min a b))):=by
 show Option.rec (motive:=fun _=>Option NV) none some (cond (cond false (gi a b) (gi b a)) (some (NV.int k (.lit b))) (some (.int k (.lit a))))=_
 rw[bE a b,bE b a]
 by_cases h:b<a
 ·rw[G8 h,Int.min_eq_right (by omega)];rfl
 ·rw[G7 h,Int.min_eq_left (by omega)];rfl
noncomputable def uC (z:List NV) (n bytes:Nat) (m:NH) (l c:Nat):NR:=cond (Nat.ble l c) (cond (room c bytes) (.mem (.slc m.next 0 l n c) (m.add (.cells true (rep c z)))) .fail) .fail
theorem sx {z:List NV} {n bytes ty:Nat} {l c:NOpd}:af (.mkSlice z n bytes ty l c) t m=oN (ρ t l) fun l=>aQ (gf l) fun l=>oN (ρ t c) fun c=>aQ (gf c) fun c=>uC z n bytes m l c:=by
 show cM t l (fun l=>cM t c fun c=>cond (Nat.ble l c) (cond (room c bytes) (pO c z fun cs=>m.new (.cells true cs) fun id h=> .mem (.slc id 0 l n c) h) .fail) .fail)=_
 unfold cM
 rw[bK]
 congr 1
 funext lv
 congr 1
 funext i
 rw[bK]
 congr 1
 funext cv
 congr 1
 funext j
 rw[dW,NH.new_eq]
 rfl
theorem Bl {k:IntKind} {a:Int} {K:Nat->NR} (h:0<=a):aQ (gf (.int k (.lit a))) K=K a.toNat:=by
 obtain ⟨i,rfl⟩:=Hc h
 rfl
theorem BO {z:List NV} {n bytes i:Nat} (h1:i*bytes<=1099511627776) (h2:i<=1099511627776):uC z n bytes m i i= .mem (.slc m.next 0 i n i) (m.add (.cells true (rep i z))):=by
 unfold uC
 rw[Nat.ble_eq_true_of_le (Nat.le_refl i)]
 have e:room i bytes=true:=by
  unfold room
  rw[show Nat.ble (Nat.mul i bytes) 1099511627776=true from Nat.ble_eq_true_of_le h1,show Nat.ble i 1099511627776=true from Nat.ble_eq_true_of_le h2]
  rfl
 rw[e];rfl
noncomputable def E4 (neg:Bool) (es:List EK) (a b:NV):NR:=match a,b with
 | .agg a,.agg b=>aQ (cC es a b) fun r=>vr (aT (cond neg (dq r) r))
 |_,_=> .fail
theorem zB {neg:Bool} {es:List EK} {x y:NOpd}:af (.eqAgg neg es x y) t m=oN (ρ t x) fun a=>oN (ρ t y) fun b=>E4 neg es a b:=by
 show wV t x (fun a=>wV t y fun b=>match a,b with
  | .agg a,.agg b=>aQ (cC es a b) fun r=>vr (aT (cond neg (dq r) r))
  |_,_=> .fail)=_
 rw[bK];congr 1;funext a;rw[bK];rfl
theorem FW {es:List EK} {a b:List NV} {q:Bool} (h:cC es a b=some q):E4 false es (.agg a) (.agg b)= .val (.bool q):=by
 show aQ (cC es a b) (fun r=>vr (aT (cond false (dq r) r)))=_
 rw[h];cases q<;>rfl
noncomputable def GG (o:Option (List NV)):NR:=match o with|some l=> .val (.agg l)|none=> .fail
theorem zl {z:List NV} {ps:List (Nat×Nat×NOpd)}:af (.build z ps) t m=GG (cp t ps z):=by
 show aQ (cp t ps z) (fun l=> .val (.agg l))=_
 cases cp t ps z<;>rfl
theorem FK {l:List NV}:GG (some l)= .val (.agg l):=_root_.id rfl
theorem Ec {l:List NV}:cp t [] l=some l:=_root_.id rfl
noncomputable def Gh (t:Tm) (ps:List (Nat×Nat×NOpd)) (off k:Nat) (l:List NV) (o:Option (List NV)):Option (List NV):=match o with
 |some cs=>if cs.length=k then (match dk cs off l with|some l=>cp t ps l|none=>none) else none
 |none=>none
theorem FE {ps:List (Nat×Nat×NOpd)} {off k:Nat} {x:NOpd} {l:List NV}:cp t ((off,k,x)::ps) l=oO (ρ t x) fun v=>Gh t ps off k l (cellsOf v):=by
 show Option.rec (motive:=fun _=>Option (List NV)) none (fun v:NV=>Option.rec (motive:=fun _=>Option (List NV)) none (fun cs=>ci cs fun j=>cond (Nat.beq j k) (Option.rec (motive:=fun _=>Option (List NV)) none (cp t ps) (dk cs off l)) none) (cellsOf v)) (ρ t x)=_
 cases ρ t x with
 |none=>rfl
 |some v=>
  show Option.rec (motive:=fun _=>Option (List NV)) none (fun cs=>ci cs fun j=>cond (Nat.beq j k) (Option.rec (motive:=fun _=>Option (List NV)) none (cp t ps) (dk cs off l)) none) (cellsOf v)=Gh t ps off k l (cellsOf v)
  cases cellsOf v with
  |none=>rfl
  |some cs=>
   show ci cs (fun j=>cond (Nat.beq j k) (Option.rec (motive:=fun _=>Option (List NV)) none (cp t ps) (dk cs off l)) none)=if cs.length=k then _ else _
   rw[be]
   cases hb:Nat.beq cs.length k with
   |false=>rw[G5 (Nat.ne_of_beq_eq_false hb)];rfl
   |true=>rw[G6 (Hb hb)];cases dk cs off l<;>rfl
theorem EO {ps:List (Nat×Nat×NOpd)} {off:Nat} {x:NV} {l:List NV} (h:off<l.length):Gh t ps off 1 l (some [x])=cp t ps (l.set off x):=by
 show (if [x].length=1 then (match dk [x] off l with|some l=>cp t ps l|none=>none) else none)=_
 rw[G6 (show [x].length=1 from rfl),eA,G6 (by show off+1<=_;omega)]
 show cp t ps (l.take off++ [x]++l.drop (off+1))=_
 rw[gg h]
end
end Nm
namespace Nm
open Go Go.RowKit
section
variable {t:Tm} {m:NH}
noncomputable def eG (t:Tm) (x:Option NOpd) (d:Nat) (K:Nat->NR):NR:=match x with|none=>K d|some x=>oN (ρ t x) fun v=>aQ (gf v) K
theorem du {x:Option NOpd} {d:Nat} {K:Nat->NR}:ct t x d K=eG t x d K:=by
 cases x with
 |none=>rfl
 |some x=>show wV t x _=_;rw[bK];rfl
noncomputable def yO (n:Nat) (id:D4) (off len e kc a b:Nat):NR:=cond (Nat.ble a b) (cond (Nat.ble b (Bool.rec kc len (Nat.ble kc len))) (cond (Nat.beq e n) (.val (.slc id (off+a*n) (b - a) n (kc - a))) .fail) .fail) .fail
noncomputable def ph (n:Nat) (t:Tm) (lo hi:Option NOpd) (v:NV):NR:=match v with
 | .slc id off len e kc=>eG t hi len fun b=>eG t lo 0 fun a=>yO n id off len e kc a b
 | .nils=>eG t hi 0 fun b=>eG t lo 0 fun a=>cond (Nat.beq a 0) (cond (Nat.beq b 0) (.val .nils) .fail) .fail
 |_=> .fail
theorem ES {n:Nat} {x:NOpd} {lo hi:Option NOpd}:af (.sliceSlc n x lo hi) t m=oN (ρ t x) (ph n t lo hi):=by
 show wV t x (fun v=>match v with
  | .slc id off len e kc=>ct t hi len fun b=>ct t lo 0 fun a=>cond (Nat.ble a b) (cond (Nat.ble b (Bool.rec kc len (Nat.ble kc len))) (cond (Nat.beq e n)
   (ai (Nat.add off (Nat.mul a n)) fun o=>ai (Nat.sub b a) fun m=>ai (Nat.sub kc a) fun k=> .val (.slc id o m n k)) .fail) .fail) .fail
  | .nils=>ct t hi 0 fun b=>ct t lo 0 fun a=>cond (Nat.beq a 0) (cond (Nat.beq b 0) (.val .nils) .fail) .fail
  |_=> .fail)=_
 rw[bK]
 congr 1
 funext v
 cases v with
 |slc id off len e kc=>
  dsimp only[ph]
  rw[du]
  congr 1
  funext b
  rw[du]
  congr 1
  funext a
  simp only[ae]
  rfl
 |nils=>
  dsimp only[ph]
  rw[du]
  congr 1
  funext b
  rw[du]
 |_=>rfl
theorem BS {d:Nat} {K:Nat->NR}:eG t none d K=K d:=_root_.id rfl
theorem Dz {x:NOpd} {d:Nat} {K:Nat->NR}:eG t (some x) d K=oN (ρ t x) fun v=>aQ (gf v) K:=_root_.id rfl
theorem wm {n off len e kc:Nat} {id:D4} {lo hi:Option NOpd}:ph n t lo hi (.slc id off len e kc)=eG t hi len fun b=>eG t lo 0 fun a=>yO n id off len e kc a b:=_root_.id rfl
theorem ui {n:Nat} {lo hi:Option NOpd}:ph n t lo hi .nils=eG t hi 0 fun b=>eG t lo 0 fun a=>cond (Nat.beq a 0) (cond (Nat.beq b 0) (.val .nils) .fail) .fail:=_root_.id rfl
theorem zH {n a b off len kc:Nat} {id:D4} (h:a<=b) (h':b<=len):yO n id off len n kc a b= .val (.slc id (off+a*n) (b - a) n (kc - a)):=by
 unfold yO
 rw[Nat.ble_eq_true_of_le h,Nat.beq_refl,show Nat.ble b (Bool.rec kc len (Nat.ble kc len))=true from Nat.ble_eq_true_of_le (by
  cases hb:Nat.ble kc len with
  |true=>exact h'
  |false=>
   have:¬kc<=len:=fun q=>by rw[Nat.ble_eq_true_of_le q] at hb;cases hb
   show b<=kc
   omega)]
 rfl
end
end Nm
namespace Nm
open Go Go.RowKit
def ids:NV->List D4
 | .slc id _ _ _ _=> [id]
 |_=> []
def Sl (m:NH) (v:NV) (e:Nat) (C:List (List NV)):Prop:=(∀x∈C,x.length=e)/\((v= .nils/\C= [])∨
 ∃id off kc w c,v= .slc id off C.length e kc/\m.get id=some (.cells w c)/\bQ m id/\off+C.length*e<=c.length/\(c.drop off).take (C.length*e)=C.flatten)
def fJ (B m:NH) (v:NV) (e:Nat) (C:List (List NV)):Prop:=(∀x∈C,x.length=e)/\((v= .nils/\C= [])∨
 ∃id off kc c,v= .slc id off C.length e kc/\¬bQ B id/\m.get id=some (.cells true c)/\bQ m id/\off+C.length*e<=c.length/\off+kc*e<=c.length/\(c.drop off).take (C.length*e)=C.flatten)
theorem fG {e:Nat} {C:List (List NV)} (h:∀x∈C,x.length=e):C.flatten.length=C.length*e:=by
 induction C with
 |nil=>simp
 |cons a C ih=>
  rw[List.flatten_cons,List.length_append,h a (List.mem_cons_self ..),ih fun x hx=>h x (List.mem_cons_of_mem _ hx),List.length_cons,Nat.succ_mul]
  omega
theorem sU {e:Nat}:∀{C:List (List NV)} (_:∀x∈C,x.length=e) (i:Nat) (hi:i<C.length),(C.flatten.drop (i*e)).take e=C[i]:=by
 intro C
 induction C with
 |nil=>intro _ i hi;simp at hi
 |cons a C ih=>
  intro h i hi
  have ha:=h a (List.mem_cons_self ..)
  cases i with
  |zero=>
   rw[Nat.zero_mul,List.drop_zero,List.flatten_cons,List.take_append,ha,Nat.sub_self,List.take_zero,List.append_nil,←ha]
   simp
  |succ i=>
   rw[List.flatten_cons,List.drop_append,Nat.succ_mul,List.drop_eq_nil_of_le (by omega),List.nil_append,ha,Nat.add_sub_cancel]
   exact ih (fun x hx=>h x (List.mem_cons_of_mem _ hx)) i (by simpa using hi)
theorem fJ.sl {B m:NH} {v:NV} {e:Nat} {C:List (List NV)} (h:fJ B m v e C):Sl m v e C:=by
 obtain ⟨h0,h|⟨id,off,kc,c,h1,_,h2,h3,h4,_,h5⟩⟩:=h
 ·exact ⟨h0,Or.inl h⟩
 ·exact ⟨h0,Or.inr ⟨id,off,kc,true,c,h1,h2,h3,h4,h5⟩⟩
section
variable {m:NH} {v:NV} {e:Nat} {C:List (List NV)}
theorem Sl.len (h:Sl m v e C):Ck v= .val (.int .i64 (.lit (C.length:Int))):=by
 obtain ⟨_,⟨rfl,rfl⟩|⟨id,off,kc,w,c,rfl,_⟩⟩:=h<;>rfl
theorem Sl.one (h:Sl m v e C):cellsOf v=some [v]:=by
 obtain ⟨_,⟨rfl,rfl⟩|⟨id,off,kc,w,c,rfl,_⟩⟩:=h<;>rfl
theorem rB {c:List NV} {off n e:Nat} (h:∀x∈C,x.length=e) (hn:C.length=n) (hc:off+n*e<=c.length) (hf:(c.drop off).take (n*e)=C.flatten) (i:Nat) (hi:i<C.length):
 off+i*e+e<=c.length/\(c.drop (off+i*e)).take e=C[i]:=by
 subst hn
 have h1:i*e+e<=C.length*e:=by rw[←Nat.succ_mul];exact Nat.mul_le_mul_right e hi
 refine ⟨by omega, ?_⟩
 rw[←sU h i hi,←hf,List.drop_take,List.take_take,List.drop_drop,Nat.min_eq_left (by omega)]
theorem Sl.at (h:Sl m v e C) (i:Nat) (hi:i<C.length):∃id off w c,sH e v (.int .i64 (.lit (i:Int)))= .val (.ptr id off)/\m.get id=some (.cells w c)/\bQ m id/\off+e<=c.length/\(c.drop off).take e=C[i]:=by
 obtain ⟨h0,⟨rfl,rfl⟩|⟨id,off,kc,w,c,rfl,h1,h2,h3,h4⟩⟩:=h
 ·simp at hi
 ·obtain ⟨h5,h6⟩:=rB h0 rfl h3 h4 i hi
  exact ⟨id,off+i*e,w,c,vW (by omega) (by omega),h1,h2,h5,h6⟩
theorem Sl.chg {T:List D4} {m':NH} (h:Sl m v e C) (hc:Chg T m m') (ht:∀id∈ids v,id∉T):Sl m' v e C:=by
 obtain ⟨h0,⟨rfl,rfl⟩|⟨id,off,kc,w,c,rfl,h1,h2,h3,h4⟩⟩:=h
 ·exact ⟨h0,Or.inl ⟨rfl,rfl⟩⟩
 ·exact ⟨h0,Or.inr ⟨id,off,kc,w,c,rfl,(hc.get h2 (ht id (List.mem_cons_self ..))).trans h1,hc.old h2,h3,h4⟩⟩
theorem Sl.grew {m':NH} (h:Sl m v e C) (hc:Chg [] m m'):Sl m' v e C:=h.chg hc fun _ _=>G9
theorem Sl.old (h:Sl m v e C):∀id∈ids v,bQ m id:=by
 obtain ⟨h0,⟨rfl,rfl⟩|⟨id,off,kc,w,c,rfl,h1,h2,h3,h4⟩⟩:=h
 ·intro id hid;simp[ids] at hid
 ·intro i hi;simp[ids] at hi;rw[hi];exact h2
theorem fJ.chg {B m:NH} {T:List D4} {m':NH} (h:fJ B m v e C) (hc:Chg T m m') (ht:∀id∈ids v,id∉T):fJ B m' v e C:=by
 obtain ⟨h0,⟨rfl,rfl⟩|⟨id,off,kc,c,rfl,hb,h1,h2,h3,h4⟩⟩:=h
 ·exact ⟨h0,Or.inl ⟨rfl,rfl⟩⟩
 ·exact ⟨h0,Or.inr ⟨id,off,kc,c,rfl,hb,(hc.get h2 (ht id (List.mem_cons_self ..))).trans h1,hc.old h2,h3,h4⟩⟩
theorem fJ.new {B m:NH} (h:fJ B m v e C):∀id∈ids v,¬bQ B id:=by
 obtain ⟨h0,⟨rfl,rfl⟩|⟨id,off,kc,c,rfl,hb,h1,h2,h3,h4⟩⟩:=h
 ·intro id hid;simp[ids] at hid
 ·intro i hi;simp[ids] at hi;rw[hi];exact hb
theorem fJ.nil {B m:NH}:fJ B m .nils e []:=⟨fun x hx=>by simp at hx,Or.inl ⟨rfl,rfl⟩⟩
theorem Sl.nil:Sl m .nils e []:=⟨fun x hx=>by simp at hx,Or.inl ⟨rfl,rfl⟩⟩
theorem fJ.of {B m:NH} {id:D4} {n k:Nat} {c:List NV} (h:∀x∈C,x.length=e) (hb:¬bQ B id) (hg:m.get id=some (.cells true c)) (ho:bQ m id) (hc:c=C.flatten) (hn:n=C.length) (hk:k=C.length):fJ B m (.slc id 0 n e k) e C:=by
 subst hn hk hc
 have hl:=fG h
 exact ⟨h,Or.inr ⟨id,0,_,_,rfl,hb,hg,ho,by omega,by omega,by rw[List.drop_zero,←hl,List.take_length]⟩⟩
theorem Chg.put (m:NH) (id:D4) (o:NO):Chg [id] m (m.put id o):=
 ⟨Nat.le_refl _,fun {i} _ hn=>NH.get_put_ne m o (by simpa using hn)⟩
theorem bQ.next_ne {m:NH} {i:D4} (h:bQ m i):i≠m.next:=by
 intro e;rw[e] at h;exact Nat.lt_irrefl _ h
theorem Chg.add (m:NH) (o:NO):Chg [] m (m.add o):=
 ⟨by show m.next.toNat<=m.next.nxt.toNat;rw[D4.toNat_nxt];omega,fun {i} ho _=>NH.get_add_ne m o ho.next_ne⟩
theorem fb (m:NH) (o:NO):bQ (m.add o) m.next:=by
 show m.next.toNat<m.next.nxt.toNat;rw[D4.toNat_nxt];omega
def ki (off:Nat):List (Nat×NV)->List NV->List NV
 | [],c=>c
 |(k,x)::us,c=>ki off us (c.set (off+k) x)
theorem kQ {off:Nat}:∀(us:List (Nat×NV)) (c:List NV),(ki off us c).length=c.length:=by
 intro us
 induction us with
 |nil=>intro c;rfl
 |cons u us ih=>intro c;obtain ⟨k,x⟩:=u;show (ki off us (c.set (off+k) x)).length=_;rw[ih,List.length_set]
theorem fJ.at {B:NH} (h:fJ B m v e C) (i:Nat) (hi:i<C.length):∃id off c,sH e v (.int .i64 (.lit (i:Int)))= .val (.ptr id off)/\ids v= [id]/\¬bQ B id/\m.get id=some (.cells true c)/\bQ m id/\off+e<=c.length/\(c.drop off).take e=C[i]/\
 ∀(us:List (Nat×NV)) (M:NH),(∀u∈us,u.1<e)->M.get id=some (.cells true (ki off us c))->bQ M id->fJ B M v e (C.set i (ki 0 us C[i])):=by
 obtain ⟨h0,⟨rfl,rfl⟩|⟨id,off,kc,c,rfl,hb,h1,h2,h3,h3',h4⟩⟩:=h
 ·simp at hi
 ·obtain ⟨h5,h6⟩:=rB h0 rfl h3 h4 i hi
  refine ⟨id,off+i*e,c,vW (by omega) (by omega),rfl,hb,h1,h2,h5,h6,fun us M hk hM hMo=> ?_⟩
  have hlen:∀y∈C.set i (ki 0 us C[i]),y.length=e:=by
   intro y hy
   rcases List.mem_or_eq_of_mem_set hy with hy|hy
   ·exact h0 y hy
   ·rw[hy,kQ];exact h0 _ (List.getElem_mem hi)
  refine ⟨hlen,Or.inr ⟨id,off,kc,_,by rw[List.length_set],hb,hM,hMo,by rw[kQ,List.length_set];exact h3,by rw[kQ];exact h3', ?_⟩⟩
  rw[List.length_set]
  have hone:∀(k:Nat) (x:NV) (_:k<e) (C:List (List NV)) (_:∀x∈C,x.length=e) (i:Nat) (hi:i<C.length),(C.set i (C[i].set k x)).flatten=C.flatten.set (i*e+k) x:=by
   intro k x hk C
   induction C with
   |nil=>intro _ i hi;simp at hi
   |cons a C ih=>
    intro h i hi
    have ha:=h a (List.mem_cons_self ..)
    cases i with
    |zero=>simp only[List.set_cons_zero,List.flatten_cons,List.getElem_cons_zero,Nat.zero_mul,Nat.zero_add];rw[List.set_append_left _ _ (by omega)]
    |succ i=>
     simp only[List.set_cons_succ,List.flatten_cons,List.getElem_cons_succ]
     rw[ih (fun x hx=>h x (List.mem_cons_of_mem _ hx)) i (by simpa using hi),List.set_append_right _ _ (by rw[ha,Nat.succ_mul];omega),ha,Nat.succ_mul]
     congr 2;omega
  have hall:∀(us:List (Nat×NV)) (_:∀u∈us,u.1<e) (c:List NV) (C:List (List NV)) (_:∀x∈C,x.length=e) (hi:i<C.length),(c.drop off).take (C.length*e)=C.flatten->
   ((ki (off+i*e) us c).drop off).take (C.length*e)=(C.set i (ki 0 us C[i])).flatten:=by
   intro us
   induction us with
   |nil=>intro _ c C _ hi hf;simp[ki];exact hf
   |cons u us ih=>
    obtain ⟨k,x⟩:=u
    intro hk c C hC hi hf
    have hk0:k<e:=hk (k,x) (List.mem_cons_self ..)
    have:=ih (fun u hu=>hk u (List.mem_cons_of_mem _ hu)) (c.set (off+i*e+k) x) (C.set i (C[i].set k x))
     (fun y hy=>by
      rcases List.mem_or_eq_of_mem_set hy with hy|hy
      ·exact hC y hy
      ·rw[hy,List.length_set];exact hC _ (List.getElem_mem hi))
     (by rw[List.length_set];exact hi)
     (by rw[List.length_set,hone k x hk0 C hC i hi,←hf,List.drop_set,G5 (by omega),List.take_set];congr 1;omega)
    rw[List.getElem_set_self,List.set_set] at this
    simp only[List.length_set] at this
    show ((ki (off+i*e) us (c.set (off+i*e+k) x)).drop off).take (C.length*e)=(C.set i (ki 0 us (C[i].set (0+k) x))).flatten
    rw[Nat.zero_add];exact this
  exact hall us hk c C h0 hi h4
theorem Sl.flat (h:Sl m v e C):wL v:=by
 obtain ⟨_,⟨rfl,rfl⟩|⟨id,off,kc,w,c,rfl,_⟩⟩:=h<;>trivial
theorem Sl.same (h:Sl m v e C) {n:Nat}:bx (n+1) v v=true:=lX h.flat
theorem Sl.ssl (h:Sl m v e C) {t:Tm} {lo hi:Option NOpd} {a b:Nat} (hab:a<=b) (hb:b<=C.length) (hlo:∀K:Nat->NR,eG t lo 0 K=K a) (hhi:∀(d:Nat) (K:Nat->NR),d=C.length->eG t hi d K=K b):
 ∃v',ph e t lo hi v= .val v'/\Sl m v' e ((C.drop a).take (b - a))/\(∀i∈ids v',i∈ids v):=by
 obtain ⟨h0,⟨rfl,rfl⟩|⟨id,off,kc,w,c,rfl,h1,h2,h3,h4⟩⟩:=h
 ·simp at hb
  subst hb
  have ha:a=0:=by omega
  subst ha
  refine ⟨.nils, ?_,⟨by simp,Or.inl ⟨rfl,by simp⟩⟩,fun _ h=>h⟩
  rw[ui,hhi 0 _ rfl,hlo];rfl
 ·have hlen:((C.drop a).take (b - a)).length=b - a:=by rw[List.length_take,List.length_drop];omega
  have hall:∀x∈(C.drop a).take (b - a),x.length=e:=fun x hx=>h0 x (List.mem_of_mem_drop (List.mem_of_mem_take hx))
  have hmul:a*e+(b - a)*e<=C.length*e:=by rw[←Nat.add_mul];exact Nat.mul_le_mul_right e (by omega)
  refine ⟨.slc id (off+a*e) (b - a) e (kc - a), ?_,⟨hall,Or.inr ⟨id,off+a*e,kc - a,w,c,by rw[hlen],h1,h2,by rw[hlen];omega, ?_⟩⟩,fun _ h=>h⟩
  ·rw[wm,hhi _ _ rfl,hlo,zH hab hb]
  ·rw[hlen]
   have e1:(c.drop (off+a*e)).take ((b - a)*e)=(((c.drop off).take (C.length*e)).drop (a*e)).take ((b - a)*e):=by
    rw[List.drop_take,List.take_take,List.drop_drop,Nat.min_eq_left (by omega)]
   rw[e1,h4]
   have e2:C.flatten=(C.take a).flatten++(((C.drop a).take (b - a)).flatten++((C.drop a).drop (b - a)).flatten):=by
    rw[←List.flatten_append,List.take_append_drop,←List.flatten_append,List.take_append_drop]
   have e3:((C.take a).flatten).length=a*e:=by
    rw[fG fun x hx=>h0 x (List.mem_of_mem_take hx),List.length_take,Nat.min_eq_left (by omega)]
   have e4:(((C.drop a).take (b - a)).flatten).length=(b - a)*e:=by rw[fG hall,hlen]
   rw[e2,←e3,List.drop_left,←e4,List.take_left]
theorem fQ {c cs:List NV} {off e:Nat} (h:(c.drop off).take e=cs) (k:Nat) (hk:k<e):c[off+k]? =cs[k]? :=by
 rw[←h,List.getElem?_take_of_lt hk,List.getElem?_drop]
end
end Nm
namespace Nm
open Go Go.RowKit
section
variable {L:List (D4×NV)} {t:Tm} {ctx:Option NV} {m:NH} {K:NV->NH->Prop}
theorem Bc {q:Bool}:(q==true)=q:=by cases q<;>rfl
theorem Bn {q:Bool}:(q==false)= !q:=by cases q<;>rfl
theorem ap {l:List (AK×NO)} {k:Nat} {m:NH} {S:List D4} (h:pE l=S):Chg S m (hp l k m):=h▸qw l k m
def xZ (f:List NV->List NV) (o:Option (List NV)):Option (List NV):=match o with|some l=>some (f l)|none=>none
theorem Al {f:List NV->List NV} {l:List NV}:xZ f (some l)=some (f l):=_root_.id rfl
noncomputable def Fi (t:Tm) (ps:List (Nat×Nat×NOpd)) (off k cur:Nat) (l:List NV) (o:Option (List NV)):Option (List NV):=match o with
 |some cs=>if cs.length=k/\cur<=off/\off - cur+k<=l.length then xZ (fun r=>l.take (off - cur)++(cs++r)) (bJ t ps (off+k) (l.drop (off - cur+k))) else none
 |none=>none
theorem EI {t:Tm} {cur:Nat} {l:List NV}:bJ t [] cur l=some l:=_root_.id rfl
theorem wH {α:Type} (K:List α->Option (List α)):∀(k:Nat) (l:List α),dY k K l=if k<=l.length then (match K (l.drop k) with|some r=>some (l.take k++r)|none=>none) else none:=by
 intro k
 induction k with
 |zero=>intro l;show K l=_;simp;cases K l<;>rfl
 |succ k ih=>
  intro l
  cases l with
  |nil=>simp;rfl
  |cons a l=>
   show Option.rec (motive:=fun _=>Option (List α)) none (fun t'=>some (a::t')) (dY k K l)=_
   rw[ih]
   by_cases h:k<=l.length
   ·rw[G6 h,G6 (by simpa using h),List.drop_succ_cons]
    cases K (l.drop k)<;>rfl
   ·rw[G5 h,G5 (by simpa using h)]
theorem Gk {t:Tm} {ps:List (Nat×Nat×NOpd)} {off k cur:Nat} {x:NOpd} {l:List NV}:bJ t ((off,k,x)::ps) cur l=oO (ρ t x) fun v=>Fi t ps off k cur l (cellsOf v):=by
 show Option.rec (motive:=fun _=>Option (List NV)) none (fun v:NV=>Option.rec (motive:=fun _=>Option (List NV)) none (fun cs=>ci cs fun j=>cond (Nat.beq j k) (cond (Nat.ble cur off)
  (dY (Nat.sub off cur) (fun l=>Option.rec (motive:=fun _=>Option (List NV)) none (fun l=>Option.rec (motive:=fun _=>Option (List NV)) none (fun l=>gd cs l some) (bJ t ps (Nat.add off j) l)) (db j l)) l) none) none) (cellsOf v)) (ρ t x)=_
 cases ρ t x with
 |none=>rfl
 |some v=>
  show Option.rec (motive:=fun _=>Option (List NV)) none (fun cs=>ci cs fun j=>cond (Nat.beq j k) (cond (Nat.ble cur off)
   (dY (Nat.sub off cur) (fun l=>Option.rec (motive:=fun _=>Option (List NV)) none (fun l=>Option.rec (motive:=fun _=>Option (List NV)) none (fun l=>gd cs l some) (bJ t ps (Nat.add off j) l)) (db j l)) l) none) none) (cellsOf v)=Fi t ps off k cur l (cellsOf v)
  cases cellsOf v with
  |none=>rfl
  |some cs=>
   show ci cs (fun j=>cond (Nat.beq j k) (cond (Nat.ble cur off)
    (dY (Nat.sub off cur) (fun l=>Option.rec (motive:=fun _=>Option (List NV)) none (fun l=>Option.rec (motive:=fun _=>Option (List NV)) none (fun l=>gd cs l some) (bJ t ps (Nat.add off j) l)) (db j l)) l) none) none)=if cs.length=k/\cur<=off/\off - cur+k<=l.length then _ else _
   rw[be]
   cases hb:Nat.beq cs.length k with
   |false=>rw[G5 (fun h=>Nat.ne_of_beq_eq_false hb h.1)];rfl
   |true=>
    have hk:=Hb hb
    subst hk
    cases hle:Nat.ble cur off with
    |false=>rw[G5 (fun h=>by rw[Nat.ble_eq_true_of_le h.2.1] at hle;cases hle)];rfl
    |true=>
     have hle:=Nat.le_of_ble_eq_true hle
     show dY (off - cur) (fun l=>Option.rec (motive:=fun _=>Option (List NV)) none (fun l=>Option.rec (motive:=fun _=>Option (List NV)) none (fun l=>gd cs l some) (bJ t ps (off+cs.length) l)) (db cs.length l)) l=_
     rw[wH]
     by_cases h1:off - cur<=l.length
     ·rw[G6 h1,eg,List.length_drop]
      by_cases h2:cs.length<=l.length - (off - cur)
      ·rw[G6 h2,G6 ⟨rfl,hle,by omega⟩,List.drop_drop]
       dsimp only
       cases bJ t ps (off+cs.length) (l.drop (off - cur+cs.length)) with
       |none=>rfl
       |some r=>dsimp only[xZ];rw[d6]
      ·rw[G5 h2,G5 (fun h=>h2 (by omega))]
     ·rw[G5 h1,G5 (fun h=>h1 (by omega))]
theorem CI {t:Tm} {ps:List (Nat×Nat×NOpd)} {off k cur:Nat} {cs l:List NV} (h1:cs.length=k) (h2:cur<=off) (h3:off - cur+k<=l.length):
 Fi t ps off k cur l (some cs)=xZ (fun r=>l.take (off - cur)++(cs++r)) (bJ t ps (off+k) (l.drop (off - cur+k))):=G6 ⟨h1,h2,h3⟩
theorem bo.wf' {P:Program} {E:NV->NH->Prop} {S:bN} {f:Nat} {args:List NV} {m m':NH} {v:NV} (h:bo P S f args m v m') {K:NV->NH->Prop}:WF ⟨P,E⟩ S f args m K=K v m':=by
 rw[h.wf,aG]
theorem DI {k:IntKind} {x:SI}:cellsOf (.int k x)=some [.int k x]:=_root_.id rfl
theorem EP {l:List Nat}:cellsOf (.str l)=some [.str l]:=_root_.id rfl
theorem CO {l:List NV}:cellsOf (.agg l)=some l:=_root_.id rfl
noncomputable def CF (m:NH) (o:Option (List NV)):NR:=match o with|some cs=> .mem (.ptr m.next 0) (m.add (.cells true cs))|none=> .fail
theorem EE {t:Tm} {m:NH} {x:NOpd} {ty:Nat}:af (.box x ty) t m=oN (ρ t x) fun v=>CF m (cellsOf v):=Ak
theorem DX {m:NH} {cs:List NV}:CF m (some cs)= .mem (.ptr m.next 0) (m.add (.cells true cs)):=_root_.id rfl
abbrev ii (z:Int):NV:= .int .i64 (.lit z)
end
end Nm
namespace Nm
open Go Go.RowKit
def Ag (P:Program) (S:bN) (q:D4) (args:List NV) (m:NH) (v:NV) (m':NH):Prop:=∃c,zR P S q args m (.val v c m')
def WY (P:Program) (S:bN) (q:D4) (args:List NV) (m:NH) (K:NV->NH->Prop):Prop:=∃v c m',zR P S q args m (.val v c m')/\K v m'
section
variable {P:Program} {S:bN} {f:Nat} {q:D4} {args:List NV} {m:NH}
section
variable {K:NV->NH->Prop} {st:Nat} {p:Jump} {tm:NT NV} {ps:List D4} {a b:NC} {i:Nat}
end
theorem WY.ret {K:NV->NH->Prop} (h:WY P S q args m K):∃v m',Ag P S q args m v m'/\K v m':=by
 obtain ⟨v,c,m',hc,hk⟩:=h;exact ⟨v,m',⟨c,hc⟩,hk⟩
theorem WY.ex {Φ:NV->NH->Prop} (h:∀K:NV->NH->Prop,(∀v m',Φ v m'->K v m')->WY P S q args m K):∃v m',Ag P S q args m v m'/\Φ v m':=(h Φ fun _ _ h=>h).ret
theorem WF.ex {Φ:NV->NH->Prop} (h:∀K:NV->NH->Prop,(∀v m',Φ v m'->K v m')->WF P S f args m K):∃v m',bo P S f args m v m'/\Φ v m':=(h Φ fun _ _ h=>h).ret
def oQ (ks:List D4) (t t':Tm):Prop:=∀k,k∉ks->NT.get k t'=NT.get k t
theorem oQ.refl (ks:List D4) (t:Tm):oQ ks t t:=fun _ _=>rfl
theorem oQ.get {ks:List D4} {t t':Tm} (h:oQ ks t t') {k:D4} {v:Option NV} (g:NT.get k t=v) (hk:k∉ks):NT.get k t'=v:=(h k hk).trans g
theorem oQ.trans {ks ls:List D4} {a b c:Tm} (h:oQ ks a b) (h':oQ ls b c) (hs:∀k∈ls,k∈ks):oQ ks a c:=fun k hk=>(h' k fun q=>hk (hs k q)).trans (h k hk)
theorem W.range {cap:List NV} {fx:NOpd} {ps:List D4} {a b:NC} {t:Tm} {dfs:List Dfr} {ctx:Option NV} {Q:Out->Dyn->Prop} {M m':NH} {v:NV}
 (hf:ρ t fx=some (.fn f cap)) {x:D4} (hx:m.next=x) {y:D4} (hy:(m.add (.defd true)).next=y) (hM:(m.add (.defd true)).add (.loop 0 .none t ps a b)=M) (hc:bo P S f (.yld y::cap) M v m')
 {tm:NT NV} {ps':List D4} {a' b':NC} (hl:m'.get y=some (.loop 0 .none tm ps' a' b')) (hQ:Q .norm ⟨t,.mark x::dfs,ctx,hp [] 0 (m'.put y (.loop 3 .none tm ps' a' b'))⟩):
 W P S none (.rangeFunc fx ps a b) ⟨t,dfs,ctx,m⟩ Q:=by
 subst hx hy hM
 rw[aG] at hQ
 obtain ⟨c,hc⟩:=hc
 refine ⟨.norm,_,cX.range hf hc ?_,hQ⟩
 unfold dw
 rw[hl]
 dsimp only
 rw[show Nat.beq 0 1=false from rfl,cond_false,NH.set_eq]
end
end Nm
namespace Nm
open Go Go.RowKit
section
variable (P:PE) (S:bN) (r:Option D4)
def Fc (c:NC) (Q:Out->Dyn->Prop) (d:Dyn):Prop:=wp P S r c d Q
def zV (dst:Option D4) (t:Tm) (dfs:List Dfr) (ctx:Option NV) (m:NH) (x:NR) (l:List NOper) (K:Dyn->Prop):Prop:=wN P S dst t dfs ctx m x fun d=>wO P S l d K
def Ac (dst:Option D4) (t:Tm) (dfs:List Dfr) (ctx:Option NV) (l:List NOper) (K:Dyn->Prop) (v:NV) (m:NH):Prop:=wO P S l ⟨aA dst v t,dfs,ctx,m⟩ K
def gA (dst:Option D4) (op:NOp) (l:List NOper) (K:Dyn->Prop) (d:Dyn):Prop:=zV P S dst d.t d.dfs d.ctx d.h (af op d.t d.h) l K
def gB (dst:Option D4) (l:List NOper) (K:Dyn->Prop) (d:Dyn):Prop:=wO P S l ⟨aA dst aI d.t,d.dfs,d.ctx,d.h⟩ K
def dA (dst:Option D4) (op:NOp) (pre idx:Nat) (l:List NOper) (hs:List (Nat×NH)) (rs:List (Nat×(NH->NR)×NV)) (K:Dyn->Prop) (d:Dyn):Prop:=wX (ak op) (af op d.t d.h) P S (af op d.t) dst pre idx l hs rs d K
def dB (dst:Option D4) (l:List NOper) (hs:List (Nat×NH)) (rs:List (Nat×(NH->NR)×NV)) (K:Dyn->Prop) (d:Dyn):Prop:=wD P S l hs rs ⟨aA dst aI d.t,d.dfs,d.ctx,d.h⟩ K
def Eb (pre idx:Nat) (m:NH) (l:List NOper) (hs:List (Nat×NH)) (rs:List (Nat×(NH->NR)×NV)) (K:Dyn->Prop) (d:Dyn):Prop:=aS pre d.h rs=true/\wD P S l ((idx,m)::hs) rs d K
def zT (dst:Option D4) (t:Tm) (dfs:List Dfr) (ctx:Option NV) (K:Dyn->Prop) (v:NV) (m:NH):Prop:=K ⟨aA dst v t,dfs,ctx,m⟩
end
section
variable {P:PE} {S:bN} {r:Option D4} {dst:Option D4} {op:NOp} {pre idx:Nat} {l:List NOper} {hs:List (Nat×NH)} {rs:List (Nat×(NH->NR)×NV)}
 {L:List (D4×NV)} {t:Tm} {dfs:List Dfr} {ctx:Option NV} {m m':NH} {v:NV} {k g:D4} {d:Dyn} {Q:Out->Dyn->Prop} {K:Dyn->Prop} {b:Bool}
theorem D8 {x y:NC}:wp P S r (.seq x y) d Q=wp P S r x d (kP (Fc P S r y Q) Q):=_root_.id rfl
theorem CP {c:NC}:Fc P S r c Q d=wp P S r c d Q:=_root_.id rfl
theorem Cu {g:NOpd} {x y:NC}:wp P S r (.cond g x y) ⟨aE L t,dfs,ctx,m⟩ Q=wC (ρ (aE L t) g) (Fc P S r x Q) (Fc P S r y Q) ⟨aE L t,dfs,ctx,m⟩:=_root_.id rfl
theorem BW:wO P S (⟨dst,op,none,pre,idx⟩::l) ⟨aE L t,dfs,ctx,m⟩ K=zV P S dst (aE L t) dfs ctx m (af op (aE L t) m) l K:=_root_.id rfl
theorem Ei:zV P S (some k) (aE L t) dfs ctx m (.val v) l K=wO P S l ⟨aE ((k,v)::L) t,dfs,ctx,m⟩ K:=_root_.id rfl
theorem Dx:zV P S (some k) (aE L t) dfs ctx m (.mem v m') l K=wO P S l ⟨aE ((k,v)::L) t,dfs,ctx,m'⟩ K:=_root_.id rfl
theorem AH:zV P S none (aE L t) dfs ctx m (.mem v m') l K=wO P S l ⟨aE L t,dfs,ctx,m'⟩ K:=_root_.id rfl
theorem Cx {f:Nat} {args:List NV}:zV P S dst t [] ctx m (.call f args) l K=WF P S f args m (Ac P S dst t [] ctx l K):=_root_.id rfl
theorem zg:Ac P S (some k) (aE L t) dfs ctx l K v m=wO P S l ⟨aE ((k,v)::L) t,dfs,ctx,m⟩ K:=_root_.id rfl
theorem zf:wO P S (⟨dst,op,some (g,b),pre,idx⟩::l) ⟨aE L t,dfs,ctx,m⟩ K=wG (ei g L (NT.get g t)) b (gA P S dst op l K) (gB P S dst l K) ⟨aE L t,dfs,ctx,m⟩:=yj
theorem Gf:gA P S dst op l K ⟨aE L t,dfs,ctx,m⟩=zV P S dst (aE L t) dfs ctx m (af op (aE L t) m) l K:=_root_.id rfl
theorem Gc:gB P S (some k) l K ⟨aE L t,dfs,ctx,m⟩=wO P S l ⟨aE ((k,aI)::L) t,dfs,ctx,m⟩ K:=_root_.id rfl
theorem wI:wD P S (⟨dst,op,some (g,b),pre,idx⟩::l) hs rs ⟨aE L t,dfs,ctx,m⟩ K=wG (ei g L (NT.get g t)) b (dA P S dst op pre idx l hs rs K) (dB P S dst l hs rs K) ⟨aE L t,dfs,ctx,m⟩:=u0
theorem FC:dA P S dst op pre idx l hs rs K ⟨aE L t,dfs,ctx,m⟩=wX (ak op) (af op (aE L t) m) P S (af op (aE L t)) dst pre idx l hs rs ⟨aE L t,dfs,ctx,m⟩ K:=_root_.id rfl
theorem FS:dB P S (some k) l hs rs K ⟨aE L t,dfs,ctx,m⟩=wD P S l hs rs ⟨aE ((k,aI)::L) t,dfs,ctx,m⟩ K:=_root_.id rfl
def Gp (b:Bool) (P:PE) (S:bN) (dst:Option D4) (t:Tm) (dfs:List Dfr) (ctx:Option NV) (m:NH) (x:NR) (K:Dyn->Prop):Prop:=Gw P S b dst t dfs ctx m x K
section
variable {f:NH->NR}
theorem AS {x:NR}:wX .eff x P S f dst pre idx l hs rs ⟨t,dfs,ctx,m⟩ K=(ahead pre hs=true/\Gp (lD hs idx l) P S dst t dfs ctx m x (Eb P S pre idx m l hs rs K)):=_root_.id rfl
end
theorem yR:Gp b P S none (aE L t) dfs ctx m (.mem v m') K=K ⟨aE L t,dfs,ctx,m'⟩:=by cases b<;>rfl
theorem vF {P:Program} {f:Nat} {args:List NV}:Gp b P S dst t dfs ctx m (.call f args) K=WF P S f args m (zT dst t dfs ctx K):=by cases b<;>cases dfs<;>rfl
theorem A7 {x:Nat×NH} {i:Nat}:lD (x::hs) i l=false:=_root_.id rfl
theorem zA {i:Nat}:lD [] i l=bf i l:=_root_.id rfl
theorem Bd {i:Nat}:bf i []=true:=_root_.id rfl
theorem Ej {i:Nat} {g:Option (D4×Bool)}:bf i (⟨dst,op,g,pre,idx⟩::l)=cond (Nat.testBit pre i) (bf i l) false:=_root_.id rfl
theorem xm:zT (some k) (aE L t) dfs ctx K v m=K ⟨aE ((k,v)::L) t,dfs,ctx,m⟩:=_root_.id rfl
theorem BU {m0:NH}:Eb P S pre idx m0 l hs rs K ⟨t,dfs,ctx,m⟩=(aS pre m rs=true/\wD P S l ((idx,m0)::hs) rs ⟨t,dfs,ctx,m⟩ K):=_root_.id rfl
theorem zc {e a b:Nat} {C:List (List NV)} {lo hi:Option NOpd} (h:Sl m v e C) (hab:a<=b) (hb:b<=C.length) (hlo:∀K:Nat->NR,eG (aE L t) lo 0 K=K a) (hhi:∀(d:Nat) (K:Nat->NR),d=C.length->eG (aE L t) hi d K=K b)
 (hK:∀v',Sl m v' e ((C.drop a).take (b - a))->(∀i∈ids v',i∈ids v)->wO P S l ⟨aE ((k,v')::L) t,dfs,ctx,m⟩ K):zV P S (some k) (aE L t) dfs ctx m (ph e (aE L t) lo hi v) l K:=by
 obtain ⟨v',h1,h2,h3⟩:=h.ssl hab hb hlo hhi
 rw[h1];exact hK v' h2 h3
end
end Nm
namespace Nm
open Go Go.RowKit
section
variable {t:Tm} {m:NH}
def zK (v:NV):NR:=match v with| .str s=> .val (.int .i64 (.lit (s.length:Int)))|_=> .fail
theorem A8 {x:NOpd}:af (.lenStr x) t m=oN (ρ t x) zK:=by
 show wV t x (fun v=>match v with| .str s=>ci s fun n=> .val (.int .i64 (.lit (.ofNat n)))|_=> .fail)=_
 rw[bK]
 congr 1
 funext v
 cases v with
 |str s=>exact be s (fun n=>NR.val (.int .i64 (.lit (.ofNat n))))
 |_=>rfl
theorem zn {s:List Nat}:zK (.str s)= .val (.int .i64 (.lit (s.length:Int))):=_root_.id rfl
noncomputable def AU (v i:NV):NR:=aQ (gf i) fun i=>match v with| .str s=>aQ s[i]? fun b=> .val (.int .u8 (.lit (.ofNat b)))|_=> .fail
theorem DB {x i:NOpd}:af (.indexStr x i) t m=oN (ρ t x) fun v=>oN (ρ t i) fun i=>AU v i:=by
 show wV t x (fun v=>cM t i fun i=>match v with
  | .str s=>aQ (gK s i) fun b=> .val (.int .u8 (.lit (.ofNat b)))
  |_=> .fail)=_
 rw[bK]
 congr 1
 funext v
 unfold cM
 rw[bK]
 congr 1
 funext i
 unfold AU
 congr 1
 funext i
 cases v with
 |str s=>dsimp only;rw[dr]
 |_=>rfl
def Cm (o:Option Nat):NR:=match o with|some b=> .val (.int .u8 (.lit (b:Int)))|none=> .fail
theorem DU {s:List Nat} {k:IntKind} {z:Int} (h0:0<=z):AU (.str s) (.int k (.lit z))=Cm s[z.toNat]? :=by
 obtain ⟨i,rfl⟩:=Hc h0
 show aQ s[i]? (fun b=> .val (.int .u8 (.lit (.ofNat b))))=Cm s[i]?
 cases s[i]? <;>rfl
theorem BK {b:Nat}:Cm (some b)= .val (.int .u8 (.lit (b:Int))):=_root_.id rfl
noncomputable def xM (s:List Nat) (a b:Nat):NR:=cond (Nat.ble a b) (aQ (ia b s) fun s=>aQ (db a s) fun s=> .val (.str s)) .fail
noncomputable def Aw (t:Tm) (lo hi:Option NOpd) (v:NV):NR:=match v with
 | .str s=>eG t hi s.length fun b=>eG t lo 0 fun a=>xM s a b
 |_=> .fail
theorem Du {x:NOpd} {lo hi:Option NOpd}:af (.sliceStr x lo hi) t m=oN (ρ t x) (Aw t lo hi):=by
 show wV t x (fun v=>match v with
  | .str s=>ci s fun n=>ct t hi n fun b=>ct t lo 0 fun a=>cond (Nat.ble a b) (aQ (ia b s) fun s=>aQ (db a s) fun s=> .val (.str s)) .fail
  |_=> .fail)=_
 rw[bK]
 congr 1
 funext v
 cases v with
 |str s=>
  dsimp only[Aw]
  rw[be,du]
  congr 1
  funext b
  rw[du]
  rfl
 |_=>rfl
theorem Ci {s:List Nat} {lo hi:Option NOpd}:Aw t lo hi (.str s)=eG t hi s.length fun b=>eG t lo 0 fun a=>xM s a b:=_root_.id rfl
theorem EF {s:List Nat} {a b:Nat} (h:a<=b) (h':b<=s.length):xM s a b= .val (.str ((s.take b).drop a)):=by
 unfold xM
 rw[Nat.ble_eq_true_of_le h,fA,G6 h']
 show aQ (db a (s.take b)) _=_
 rw[eg,G6 (by rw[List.length_take];omega)];rfl
theorem zG {a b:List Nat}:cK .num .eql (.str a) (.str b)=some (.bool (decide (a=b))):=by
 show aT (qd a b)=_
 rw[aB]
 congr 2
 rw[Bool.eq_iff_iff,decide_eq_true_eq]
 constructor
 ·intro h
  induction a generalizing b with
  |nil=>cases b with
   |nil=>rfl
   |cons=>cases h
  |cons x a ih=>cases b with
   |nil=>cases h
   |cons y b=>
    change cond (Nat.beq x y) (qd a b) false=true at h
    cases hxy:Nat.beq x y with
    |false=>rw[hxy] at h;cases h
    |true=>rw[hxy] at h;rw[Hb hxy,ih h]
 ·rintro rfl;exact nM a
theorem DO {a b:List Nat}:cK .num .neq (.str a) (.str b)=some (.bool (decide (a≠b))):=by
 have:=zG (a:=a) (b:=b)
 change aT (qd a b)=_ at this
 show aT (dq (qd a b))=_
 rw[aB] at this ⊢
 injection this with this
 injection this with this
 rw[this,bD]
 by_cases h:a=b<;>simp[h]
theorem B8 {a b:List Nat} (h:a.length+b.length<=1099511627776):cK .num .add (.str a) (.str b)=some (.str (a++b)):=by
 show gd a b (fun l=>ci l fun n=>cond (Nat.ble n 1099511627776) (some (NV.str l)) none)=_
 rw[d6,be,Nat.ble_eq_true_of_le (by rw[List.length_append];exact h)];rfl
theorem wrap_u64 {n:Int}:bA .u64 n=n % 18446744073709551616:=by rw[a8];rfl
noncomputable def Dk (k:IntKind) (v:NV):NR:=match v with| .int _ (.lit n)=> .val (.int k (.lit (bA k n)))| .int _ (.sym c ts)=>vr (fw k c ts)|_=> .fail
theorem EX {k:IntKind} {x:NOpd}:af (.toInt k x) t m=oN (ρ t x) (Dk k):=by
 show wV t x (fun v=>match v with| .int _ (.lit n)=>vr (bG k (bA k n))| .int _ (.sym c ts)=>vr (fw k c ts)|_=> .fail)=_
 rw[bK]
 congr 1
 funext v
 cases v with
 |int k' x=>cases x with
  |lit n=>show vr (bG k (bA k n))=_;rw[aM];rfl
  |_=>rfl
 |_=>rfl
theorem B6 {k:IntKind} {n:Int}:Dk .u64 (.int k (.lit n))= .val (.int .u64 (.lit (n % 18446744073709551616))):=by show NR.val (.int .u64 (.lit (bA .u64 n)))=_;rw[wrap_u64]
noncomputable def Aa (v:NV):NR:=match v with| .ptr i o=> .val (.ptr i o)| .fn f c=> .val (.fn f c)| .yld l=> .val (.yld l)|_=> .fail
theorem BZ {x:NOpd}:af (.nilCheck x) t m=oN (ρ t x) Aa:=by
 show wV t x _=_
 rw[bK]
 cases ρ t x with
 |none=>rfl
 |some v=>cases v<;>rfl
theorem xY {i:D4} {o:Nat}:Aa (.ptr i o)= .val (.ptr i o):=_root_.id rfl
noncomputable def rR (x:NR) (K:NV->Prop):Prop:=match x with| .val v=>K v|_=>False
noncomputable def om (t:Tm) (m:NH):List NRes->(List NV->Prop)->Prop
 | [],K=>K []
 | .tmp k::l,K=>rK (NT.get k t) fun v=>om t m l fun vs=>K (v::vs)
 | .cell1 k::l,K=>rR (af (.load1 (.tmp k)) t m) fun v=>om t m l fun vs=>K (v::vs)
 | .cellN k n::l,K=>rR (af (.loadN n (.tmp k)) t m) fun v=>om t m l fun vs=>K (v::vs)
theorem vf:∀(rs:List NRes) (K:List NV->Prop) (G:List NV->CR),om t m rs K->∃l,cB m t rs .fail G=G l/\K l:=by
 intro rs
 induction rs with
 |nil=>intro K G h;exact ⟨[],rfl,h⟩
 |cons r rs ih=>
  intro K G h
  cases r with
  |tmp k=>
   cases hv:NT.get k t with
   |none=>unfold om at h;rw[hv] at h;exact h.elim
   |some v=>
    unfold om at h;rw[hv] at h
    obtain ⟨l,h1,h2⟩:=ih (fun vs=>K (v::vs)) (fun l=>G (v::l)) h
    refine ⟨v::l, ?_,h2⟩
    show (match (match NT.get k t with|some v=>NR.val v|none=> .fail) with| .val v=>cB m t rs .fail (fun l=>G (v::l))|_=> .fail)=_
    rw[hv];exact h1
  |cell1 k=>
   cases hv:af (.load1 (.tmp k)) t m with
   |val v=>
    unfold om at h;rw[hv] at h
    obtain ⟨l,h1,h2⟩:=ih (fun vs=>K (v::vs)) (fun l=>G (v::l)) h
    refine ⟨v::l, ?_,h2⟩
    change d9 (.tmp k) t m= .val v at hv
    show (match d9 (.tmp k) t m with| .val v=>cB m t rs .fail (fun l=>G (v::l))|_=> .fail)=_
    rw[hv];exact h1
   |_=>unfold om at h;rw[hv] at h;exact h.elim
  |cellN k n=>
   cases hv:af (.loadN n (.tmp k)) t m with
   |val v=>
    unfold om at h;rw[hv] at h
    obtain ⟨l,h1,h2⟩:=ih (fun vs=>K (v::vs)) (fun l=>G (v::l)) h
    refine ⟨v::l, ?_,h2⟩
    change ec n (.tmp k) t m= .val v at hv
    show (match ec n (.tmp k) t m with| .val v=>cB m t rs .fail (fun l=>G (v::l))|_=> .fail)=_
    rw[hv];exact h1
   |_=>unfold om at h;rw[hv] at h;exact h.elim
def B7 (rs:List NRes) (K:NV->NH->Prop) (o:Out) (d:Dyn):Prop:=(o= .norm∨o= .ret)/\d.dfs= []/\om d.t d.h rs fun l=>K (jF l) d.h
theorem Be {rs:List NRes} {K:NV->NH->Prop} {o:Out} {d:Dyn} (h:B7 rs K o d):Fu rs K o d:=by
 obtain ⟨h1,h2,h3⟩:=h
 obtain ⟨l,h4,h5⟩:=vf rs _ (fun l=> .val (jF l) d.ctx d.h) h3
 exact ⟨h1,h2,jF l,h4,h5⟩
theorem Bx {rs:List NRes} {K:NV->NH->Prop} {ctx:Option NV}:B7 rs K .ret ⟨t, [],ctx,m⟩=om t m rs (fun l=>K (jF l) m):=propext ⟨fun h=>h.2.2,fun h=>⟨.inr rfl,rfl,h⟩⟩
theorem EZ {K:List NV->Prop}:om t m [] K=K []:=_root_.id rfl
theorem DM {K:List NV->Prop} {k:D4} {l:List NRes}:om t m (.tmp k::l) K=rK (NT.get k t) fun v=>om t m l fun vs=>K (v::vs):=_root_.id rfl
theorem EU {K:List NV->Prop} {k:D4} {n:Nat} {l:List NRes}:om t m (.cellN k n::l) K=rR (af (.loadN n (.tmp k)) t m) fun v=>om t m l fun vs=>K (v::vs):=_root_.id rfl
theorem F2 {v:NV} {K:NV->Prop}:rR (.val v) K=K v:=_root_.id rfl
theorem yz {v:NV}:jF [v]=v:=_root_.id rfl
theorem zt {a b:NV} {l:List NV}:jF (a::b::l)= .tup (a::b::l):=_root_.id rfl
theorem WF.of_wpG {P:Program} {E:NV->NH->Prop} {S:bN} {f:Nat} {args:List NV} {nf:NFun} (hs:∀l,S f l=fun _=>none) (hf:am P f=some (.code nf)) {K:NV->NH->Prop} {L:List (D4×NV)} (hL:di args 0 .leaf=aE L .leaf)
 (h:wp ⟨P,E⟩ S none nf.body ⟨aE L .leaf, [],none,hp [] 0 m⟩ (B7 nf.results K)):WF ⟨P,E⟩ S f args m K:=by
 rw[aG] at h
 obtain ⟨o,d,h1,h2⟩:=eh _ _ _ h
 rw[←hL] at h1
 cases o with
 |pan v=>exact Or.inr ⟨v,d.ctx,d.h,Call.of_pan hs hf h1 h2.1,h2.2⟩
 |_=>
  obtain ⟨ho,hd,v,hv,hK⟩:=Be h2
  exact Or.inl ⟨v,d.ctx,d.h,Call.of_run hs hf ho h1 hd hv (by simp),hK⟩
theorem bo.ext {P:Program} {S:bN} {f:Nat} {args:List NV} {e:Ext} {v:NV} (hs:S f args=fun _=>none) (hf:am P f=some (.ext e)) (hv:gH e args=some v):bo P S f args m v m:=by
 refine ⟨none,by simp,0, ?_⟩
 unfold bv
 rw[hs]
 dsimp only
 rw[hf]
 dsimp only
 rw[hv]
end
end Nm
namespace Nm
open Go Go.RowKit
section
variable {t:Tm} {m:NH}
end
end Nm
namespace Nm
open Go Go.RowKit
section
variable {P:Program} {S:bN}
end
section
variable {P:PE} {S:bN} {dst:D4} {L:List (D4×NV)} {t:Tm} {dfs:List Dfr} {ctx:Option NV} {l:List NOper} {K:Dyn->Prop} {B m:NH} {v:NV} {e:Nat} {C:List (List NV)} {x:D4} {w:Bool} {cs:List NV} {kc bytes:Nat}
end
section
variable {P:Program} {S:bN} {f:Nat} {args:List NV} {m:NH} {K:NV->NH->Prop}
variable {E:NV->NH->Prop}
end
section
variable {P:PE} {S:bN} {r:Option D4} {a b:NC} {d:Dyn} {Q:Out->Dyn->Prop}
end
section
variable {P:Program} {S:bN} {q:D4} {args:List NV} {m:NH} {K:NV->NH->Prop}
end
section
variable {P:Program} {S:bN} {f:Nat} {q:D4} {args:List NV} {m:NH}
theorem WF.ex1 {v:NV} {Φ:NH->Prop} (h:∀K:NV->NH->Prop,(∀m',Φ m'->K v m')->WF P S f args m K):∃m',bo P S f args m v m'/\Φ m':=by
 obtain ⟨w,m',h1,rfl,h2⟩:=WF.ret (h (fun w m'=>w=v/\Φ m') fun m' h=>⟨rfl,h⟩)
 exact ⟨m',h1,h2⟩
theorem WY.ex1 {v:NV} {Φ:NH->Prop} (h:∀K:NV->NH->Prop,(∀m',Φ m'->K v m')->WY P S q args m K):∃m',Ag P S q args m v m'/\Φ m':=by
 obtain ⟨w,m',h1,rfl,h2⟩:=WY.ret (h (fun w m'=>w=v/\Φ m') fun m' h=>⟨rfl,h⟩)
 exact ⟨m',h1,h2⟩
end
end Nm
namespace Nm
open Go Go.RowKit
def lS (P:Program):List Field->Nat->Nat->Bool
 | [],o,n=>o==n
 |f::fs,o,n=>(f.offset==o)&&lS P fs (o+P.cellsOf f.type) n
def gs (P:Program) (T:List TypeId) (t:TypeId):Bool:=match P.underlying t with
 |some .bool|some (.int _)|some .string=>true
 |some (.slice e)=>T.contains e&&decide (0<P.cellsOf e)
 |some (.struct fs)=>fs.toList.all (fun f=>T.contains f.type)&&lS P fs.toList 0 (P.cellsOf t)
 |_=>false
def rx (P:Program) (T:List TypeId):Bool:=T.all (gs P T)
mutual
inductive Ty (P:Program) (m:NH):TypeId->List NV->Prop
 |bool {t:TypeId} (ht:P.underlying t=some .bool) (b:Bool):Ty P m t [.bool b]
 |int {t:TypeId} {k:IntKind} (ht:P.underlying t=some (.int k)) (n:Int) (h:(Lit.int k n).wf=true):Ty P m t [.int k (.lit n)]
 |str {t:TypeId} (ht:P.underlying t=some .string) (l:List Nat) (h:∀b∈l,b<256) (hl:l.length<=maxLen):Ty P m t [.str l]
 |slc {t e:TypeId} (ht:P.underlying t=some (.slice e)) (v:NV) (C:List (List NV)) (hS:Sl m v (P.cellsOf e) C) (hl:C.length<=maxLen) (h:∀c∈C,Ty P m e c):Ty P m t [v]
 |struct {t:TypeId} {fs:Array Field} (ht:P.underlying t=some (.struct fs)) (l:List NV) (h:TyL P m (fs.toList.map (·.type)) l):Ty P m t l
inductive TyL (P:Program) (m:NH):List TypeId->List NV->Prop
 |nil:TyL P m [] []
 |cons {t:TypeId} {ts:List TypeId} (a b:List NV) (h:Ty P m t a) (hl:TyL P m ts b):TyL P m (t::ts) (a++b)
end
mutual
theorem Ty.grew {P:Program} {m m':NH} (hC:Chg [] m m'):∀{t:TypeId} {l:List NV},Ty P m t l->Ty P m' t l
 |_,_,.bool ht b=> .bool ht b
 |_,_,.int ht n h=> .int ht n h
 |_,_,.str ht l h hl=> .str ht l h hl
 |_,_,.slc ht v C hS hl h=> .slc ht v C (hS.grew hC) hl (fun c hc=>(h c hc).grew hC)
 |_,_,.struct ht l h=> .struct ht l (TyL.grew hC h)
theorem TyL.grew {P:Program} {m m':NH} (hC:Chg [] m m'):∀{ts:List TypeId} {l:List NV},TyL P m ts l->TyL P m' ts l
 |_,_,.nil=> .nil
 |_,_,.cons a b h hl=> .cons a b (h.grew hC) (TyL.grew hC hl)
end
section
variable [Val]
def Ro (P:Program) (W:World) (ι:aC) (m:NH):Prop:=Rel P ι W.heap.size m W/\∀i p,ι i=some p->¬Live (m.get i)
def ext (ι:aC) (i:D4) (p:Pl):aC:=fun j=>if j.toNat=i.toNat then some p else ι j
theorem Ro.addE {P:Program} {W:World} {ι:aC} {m:NH} (h:Ro P W ι m) {b o:Nat} {c:List NV} {cur:Array Value} {T:TypeId} {fz:Nat×Nat} (hb:W.heap[b]? =some (.cells cur T fz)) (hn:o+c.length<=cur.size)
 (hc:∀i v,c[i]? =some v->∃v',cur[o+i]? =some v'/\VR ι v v'/\v'.oneCell'=true):
 ∃ι',Ro P W ι' (m.add (.cells false c))/\ι.le ι'/\Chg [] m (m.add (.cells false c))/\ι' m.next=some ⟨b,o,cur.size⟩/\(m.add (.cells false c)).get m.next=some (.cells false c)/\bQ (m.add (.cells false c)) m.next:=by
 obtain ⟨hR,hL⟩:=h
 have hold:∀i p,ι i=some p->bQ m i:=fun i p hi=>by
  obtain ⟨x,hx,_⟩:=hR.obj i p hi
  exact hR.fresh i x hx
 have hext:∀i p,ι i=some p->ext ι m.next ⟨b,o,cur.size⟩ i=some p:=fun i p hi=>by
  unfold ext;rw[G5 (Nat.ne_of_lt (hold i p hi))];exact hi
 have hle:ι.le (ext ι m.next ⟨b,o,cur.size⟩):=hext
 have hinv:∀i p,ext ι m.next ⟨b,o,cur.size⟩ i=some p->(i=m.next/\p=⟨b,o,cur.size⟩)∨(ι i=some p/\i≠m.next):=fun i p hi=>by
  unfold ext at hi
  by_cases e:i.toNat=m.next.toNat
  ·rw[G6 e] at hi;injection hi with hi;exact Or.inl ⟨D4.toNat_inj e,hi.symm⟩
  ·rw[G5 e] at hi;exact Or.inr ⟨hi,fun q=>e (by rw[q])⟩
 have hnl:∀i p,ext ι m.next ⟨b,o,cur.size⟩ i=some p->¬Live ((m.add (.cells false c)).get i):=fun i p hi=>by
  rcases hinv i p hi with ⟨rfl,_⟩|⟨hi,hne⟩
  ·rw[NH.get_add_same];exact fun q=>q.2 c rfl
  ·rw[NH.get_add_ne _ _ hne];exact hL i p hi
 refine ⟨ext ι m.next ⟨b,o,cur.size⟩,⟨⟨?_, ?_, ?_, ?_, ?_,hR.gl.mono hle⟩,hnl⟩,hle,Chg.add m _,by unfold ext;rw[G6 rfl],NH.get_add_same m _,fb m _⟩
 ·intro i p hi
  rcases hinv i p hi with ⟨rfl,rfl⟩|⟨hi,hne⟩
  ·refine ⟨.cells false c,NH.get_add_same m _, ?_⟩
   show ∃(cur':Array Value) (T:TypeId) (fz:Nat×Nat),W.heap[b]? =some (.cells cur' T fz)/\(false=true->fz=(0,0))/\cur'.size=cur.size/\o+c.length<=cur.size/\∀i v,c[i]? =some v->∃v',cur'[o+i]? =some v'/\VR (ext ι m.next ⟨b,o,cur.size⟩) v v'/\v'.oneCell'=true
   refine ⟨cur,T,fz,hb,fun q=>Bool.noConfusion q,rfl,hn,fun i v hv=> ?_⟩
   obtain ⟨v',h1,h2,h3⟩:=hc i v hv
   exact ⟨v',h1,h2.mono hle,h3⟩
  ·obtain ⟨x,h1,h2⟩:=hR.obj i p hi
   exact ⟨x,(NH.get_add_ne m _ hne).trans h1,h2.mono hle rfl⟩
 ·intro i j p q hi hj hne hl _
  exact G4 hl (hnl i p hi)
 ·intro i p hi hl;exact G4 hl (hnl i p hi)
 ·intro i p hi
  rcases hinv i p hi with ⟨rfl,rfl⟩|⟨hi,_⟩
  ·exact (Array.getElem?_eq_some_iff.mp hb).1
  ·exact hR.lt i p hi
 ·intro i x hx
  by_cases e:i=m.next
  ·subst e;exact fb m _
  ·rw[NH.get_add_ne _ _ e] at hx
   exact (Chg.add m (.cells false c)).old (hR.fresh i x hx)
theorem Ro.add {P:Program} {W:World} {ι:aC} {m:NH} (h:Ro P W ι m) {b o:Nat} {c:List NV} {cur:Array Value} {T:TypeId} {fz:Nat×Nat} (hb:W.heap[b]? =some (.cells cur T fz)) (hn:o+c.length<=cur.size)
 (hc:∀i v,c[i]? =some v->∃v',cur[o+i]? =some v'/\VR ι v v'/\v'.oneCell'=true):
 ∃ι' m',Ro P W ι' m'/\ι.le ι'/\Chg [] m m'/\ι' m.next=some ⟨b,o,cur.size⟩/\m'.get m.next=some (.cells false c)/\bQ m' m.next:=by
 obtain ⟨ι',h⟩:=h.addE hb hn hc
 exact ⟨ι',_,h⟩
theorem Ro.nil (P:Program) (W:World) (hw:NG<=W.heap.size):Ro P W ι0 G0:=⟨DW P W hw,fun i p h=>by rw[iv h];exact cU⟩
omit [Val] in
theorem u6 (a:Addr) (j:Nat):(a.add j).block=a.block:=by unfold Addr.add;split<;>rfl
omit [Val] in
theorem B5 (a:Addr) (j:Nat):(a.add j).off=a.off+j:=by
 unfold Addr.add;split
 ·rename_i h;subst h;rfl
 ·rfl
omit [Val] in
theorem pB (a:Addr) (m n:Nat):(a.add m).add n=a.add (m+n):=by
 unfold Addr.add
 by_cases h:n=0
 ·subst h;simp
 ·by_cases h':m=0
  ·subst h';simp
  ·simp[h,h'];omega
omit [Val] in
theorem kM {w:World} {a:Addr} {v:Value} (h:w.cell? a=some v):∃cur T fz,w.heap[a.block]? =some (.cells cur T fz)/\cur[a.off]? =some v:=by
 unfold World.cell? at h
 split at h
 ·rename_i cur T fz hb
  refine ⟨cur,T,fz,hb, ?_⟩
  split at h
  ·cases h
  ·exact h
 ·cases h
theorem VRL.append {ι:aC} {a:List NV} {a':List Value} {b:List NV} {b':List Value} (h:VRL ι a a') (k:VRL ι b b'):VRL ι (a++b) (a'++b'):=by
 induction a generalizing a' with
 |nil=>cases h;exact k
 |cons v l ih=>cases h with
  |cons _ v' _ l' h hl=>exact .cons _ _ _ _ h (ih hl)
def Cs (W:World) (ι:aC) (a:Addr) (l:List NV):Prop:=∀(j:Nat) (v:NV),l[j]? =some v->∃v',W.cell? (a.add j)=some v'/\VR ι v v'/\v'.oneCell'=true
theorem Cs.mono {W:World} {ι ι':aC} (hι:ι.le ι') {a:Addr} {l:List NV} (h:Cs W ι a l):Cs W ι' a l:=fun j v hv=>let ⟨v',h1,h2,h3⟩:=h j v hv;⟨v',h1,h2.mono hι,h3⟩
theorem xF {P:Program} {W:World} {T:List TypeId} (hT:rx P T=true) (hne:∃(b:Nat) (cur:Array Value) (T:TypeId) (fz:Nat×Nat),W.heap[b]? =some (.cells cur T fz)) {H:Type} {enc:TypeId×Value->H}:∀(n:Nat) (t:TypeId),t∈T->∀(cs:List Value) (x:DataW H×List MemPlace),DataW.trod enc P W 0 (fun _=>true) true n t cs=some x->
 ∀(ι:aC) (m:NH),Ro P W ι m->∃ι' m' l,Ro P W ι' m'/\ι.le ι'/\Chg [] m m'/\VRL ι' l cs/\(∀v∈cs,v.oneCell'=true)/\Ty P m' t l:=by
 intro n
 induction n with
 |zero=>intro t _ cs x h;simp[DataW.trod] at h
 |succ n ih=>
  intro t ht cs x h ι m hR
  have hok:gs P T t=true:=List.all_eq_true.mp hT t ht
  unfold gs at hok
  split at hok
  ·rename_i hu
   obtain ⟨b,rfl,_⟩:=DataW.trod_bool hu h
   exact ⟨ι,m, [.bool b],hR,aC.le_refl ι,Chg.refl m,.cons _ _ _ _ (.bool b) .nil,by simp[Value.oneCell'],.bool hu b⟩
  ·rename_i k hu
   obtain ⟨z,rfl,_,hw⟩:=DataW.trod_int hu h
   exact ⟨ι,m, [.int k (.lit z)],hR,aC.le_refl ι,Chg.refl m,.cons _ _ _ _ (.int k z) .nil,by simp[Value.oneCell'],.int hu z hw⟩
  ·rename_i hu
   obtain ⟨s,rfl,_,hs⟩:=DataW.trod_string hu h
   refine ⟨ι,m, [.str (s.data.toList.map UInt8.toNat)],hR,aC.le_refl ι,Chg.refl m,.cons _ _ _ _ (.str _ s rfl) .nil,by simp[Value.oneCell'],.str hu _ ?_ ?_⟩
   ·intro b hb
    obtain ⟨c,_,rfl⟩:=List.mem_map.mp hb
    exact c.toNat_lt
   ·rw[List.length_map];exact hs
  ·rename_i e hu
   rw[Bool.and_eq_true,decide_eq_true_eq] at hok
   obtain ⟨he,hce⟩:=hok
   have he:e∈T:=by simpa using he
   rcases DataW.trod_slice hu h with ⟨rfl,_⟩|⟨a,len,cap,elems,rest,n',hn',rfl,_,_,hlc,hcm,hel,hE,hS,_⟩
   ·exact ⟨ι,m, [.nils],hR,aC.le_refl ι,Chg.refl m,.cons _ _ _ _ .nils .nil,by simp[Value.oneCell'],.slc hu .nils [] Sl.nil (by simp) (by simp)⟩
   ·have hn':n'=n:=by omega
    subst hn'
    obtain ⟨hrl,hS⟩:=hS rfl
    have go:∀k,k<=len->∃(ι':aC) (m':NH) (C:List (List NV)),Ro P W ι' m'/\ι.le ι'/\Chg [] m m'/\C.length=k/\(∀c∈C,Ty P m' e c/\c.length=P.cellsOf e)/\Cs W ι' a C.flatten:=by
     intro k
     induction k with
     |zero=>intro _;exact ⟨ι,m, [],hR,aC.le_refl ι,Chg.refl m,rfl,by simp,fun j v hv=>by simp at hv⟩
     |succ k ihk=>
      intro hk
      obtain ⟨ι1,m1,C,hR1,hle1,hC1,hlen,hall,hcs⟩:=ihk (by omega)
      have hEk:=hE k (by omega)
      rw[List.getElem?_eq_getElem (by omega)] at hEk
      obtain ⟨cs',h1,h2⟩:=Option.bind_eq_some_iff.mp hEk
      obtain ⟨_,hl',hcell⟩:=World.cells?_some h1
      obtain ⟨ι2,m2,l,hR2,hle2,hC2,hvr,hone,hty⟩:=ih e he cs' _ h2 ι1 m1 hR1
      have hll:=hvr.length
      have hfl:C.flatten.length=k*P.cellsOf e:=by rw[fG fun c hc=>(hall c hc).2,hlen]
      refine ⟨ι2,m2,C++ [l],hR2,hle1.trans hle2,hC1.trans hC2 (fun _ h _=>h),by simp[hlen], ?_, ?_⟩
      ·intro c hc
       rcases List.mem_append.mp hc with hc|hc
       ·exact ⟨(hall c hc).1.grew hC2,(hall c hc).2⟩
       ·simp at hc;subst hc;exact ⟨hty,by omega⟩
      ·intro j v hv
       rw[List.flatten_append] at hv
       by_cases hj:j<C.flatten.length
       ·rw[List.getElem?_append_left hj] at hv
        exact (hcs.mono hle2) j v hv
       ·rw[List.getElem?_append_right (by omega)] at hv
        simp only[List.flatten_cons,List.flatten_nil,List.append_nil] at hv
        obtain ⟨v',h3,h4⟩:=hvr.get hv
        have hjl:j - C.flatten.length<cs'.length:=by
         rcases Nat.lt_or_ge (j - C.flatten.length) cs'.length with q|q
         ·exact q
         ·rw[List.getElem?_eq_none q] at h3;cases h3
        refine ⟨v', ?_,h4,hone v' (List.mem_of_getElem? h3)⟩
        have:=hcell (j - C.flatten.length) (by omega)
        rw[h3] at this
        rw[←this]
        rw[pB]
        congr 2
        omega
    obtain ⟨ι1,m1,C,hR1,hle1,hC1,hlen,hall,hcs⟩:=go len (Nat.le_refl _)
    have hfl:C.flatten.length=len*P.cellsOf e:=by rw[fG fun c hc=>(hall c hc).2,hlen]
    have hend:∀(b o:Nat) (cur:Array Value) (T':TypeId) (fz:Nat×Nat) (c:List NV),W.heap[b]? =some (.cells cur T' fz)->o+c.length<=cur.size->(∀i v,c[i]? =some v->∃v',cur[o+i]? =some v'/\VR ι1 v v'/\v'.oneCell'=true)->
     (0<cap->a=⟨b,o,none⟩/\o+cap*P.cellsOf e<=cur.size)->c=C.flatten->
     ∃ι' m' l,Ro P W ι' m'/\ι.le ι'/\Chg [] m m'/\VRL ι' l [.slice (some a) len cap]/\(∀v∈ [Value.slice (some a) len cap],v.oneCell'=true)/\Ty P m' t l:=by
     rintro b o cur T' fz c hb hoc hcc ha rfl
     obtain ⟨ι2,m2,hR2,hle2,hC2,hi2,hg2,ho2⟩:=hR1.add hb hoc hcc
     refine ⟨ι2,m2, [.slc m1.next 0 len (P.cellsOf e) 0],hR2,hle1.trans hle2,hC1.trans hC2 (fun _ h _=>h),.cons _ _ _ _ (.slc _ _ _ _ _ _ a cap hi2 hlc (Nat.zero_le _) hcm hce fun hc=> ?_) .nil,by simp[Value.oneCell'], ?_⟩
     ·obtain ⟨h1,h2⟩:=ha hc
      exact ⟨h1,by simpa using h2⟩
     ·refine .slc hu _ C ⟨fun c hc=>(hall c hc).2,Or.inr ⟨m1.next,0,0,false,_,by rw[hlen],hg2,ho2, ?_, ?_⟩⟩ (by rw[hlen];omega) fun c hc=>((hall c hc).1).grew hC2
      ·rw[hfl,hlen];omega
      ·rw[List.drop_zero,hlen,←hfl,List.take_length]
    by_cases hcap:cap=0
    ·have hl0:len=0:=by omega
     have hC0:C= []:=List.length_eq_zero_iff.mp (by omega)
     subst hC0
     obtain ⟨b,cur,T',fz,hb⟩:=hne
     exact hend b 0 cur T' fz [] hb (by simp) (fun i v hv=>by simp at hv) (fun h=>by omega) rfl
    ·
     have cells:∀i,i<cap->∃cs',W.cells? 0 (a.add (i*P.cellsOf e)) (P.cellsOf e)=some cs':=by
      intro i hi
      rcases Nat.lt_or_ge i len with h|h
      ·have:=hE i h
       rw[List.getElem?_eq_getElem (by omega)] at this
       obtain ⟨cs',h1,_⟩:=Option.bind_eq_some_iff.mp this
       exact ⟨cs',h1⟩
      ·have:=hS (i - len) (by omega)
       rw[List.getElem?_eq_getElem (by omega),show len+(i - len)=i by omega] at this
       obtain ⟨cs',h1,_⟩:=Option.bind_eq_some_iff.mp this
       exact ⟨cs',h1⟩
     obtain ⟨cs0,h0⟩:=cells 0 (by omega)
     obtain ⟨_,hl0,hc0⟩:=World.cells?_some h0
     have hv0:=hc0 0 hce
     rw[List.getElem?_eq_getElem (by omega)] at hv0
     have hsp:=World.cell?_spot hv0
     obtain ⟨cur,T',fz,hb,_⟩:=kM hv0
     have hab:(a.add (0*P.cellsOf e)).add 0=a:=by rw[pB];simp[Addr.add]
     rw[hab] at hsp hb
     have hin:∀j v',W.cell? (a.add j)=some v'->cur[a.off+j]? =some v':=by
      intro j v' h
      obtain ⟨cur',T2,fz2,hb',hc'⟩:=kM h
      rw[u6] at hb'
      rw[B5] at hc'
      rw[hb] at hb'
      injection hb' with hb'
      injection hb' with hb' _ _
      subst hb'
      exact hc'
     obtain ⟨cs1,h1⟩:=cells (cap - 1) (by omega)
     obtain ⟨_,hl1,hc1⟩:=World.cells?_some h1
     have hv1:=hc1 (P.cellsOf e - 1) (by omega)
     rw[List.getElem?_eq_getElem (by omega)] at hv1
     have hmul:(cap - 1)*P.cellsOf e+P.cellsOf e=cap*P.cellsOf e:=by
      rw[←Nat.succ_mul];congr 1;omega
     have hlast:cur[a.off+(cap*P.cellsOf e - 1)]? =some cs1[P.cellsOf e - 1]:=by
      refine hin (cap*P.cellsOf e - 1) _ ?_
      rw[←hv1]
      rw[pB]
      congr 2
      omega
     have hsz:a.off+(cap*P.cellsOf e - 1)<cur.size:=(Array.getElem?_eq_some_iff.mp hlast).1
     have hcapp:0<cap*P.cellsOf e:=Nat.mul_pos (by omega) hce
     have hlm:len*P.cellsOf e<=cap*P.cellsOf e:=Nat.mul_le_mul_right _ hlc
     refine hend a.block a.off cur T' fz C.flatten hb (by omega) (fun i v hv=> ?_) (fun _=>⟨by cases a;simp at hsp;simp[hsp],by omega⟩) rfl
     obtain ⟨v',q1,q2,q3⟩:=hcs i v hv
     exact ⟨v',hin i v' q1,q2,q3⟩
  ·rename_i fs hu
   rw[Bool.and_eq_true] at hok
   obtain ⟨hft,htl⟩:=hok
   obtain ⟨xs,n',hn',_,hcl,hxl,hF⟩:=DataW.trod_struct hu h
   have hn':n'=n:=by omega
   subst hn'
   have go:∀(fl:List Field) (o:Nat) (ys:List (DataW H×List MemPlace)),(∀f∈fl,f.type∈T)->lS P fl o (P.cellsOf t)=true->o<=cs.length->(∀(i:Nat) (f:Field),fl[i]? =some f->∃y,DataW.trod enc P W 0 (fun _=>true) true n' f.type ((cs.drop f.offset).take (P.cellsOf f.type))=some y)->
    ∀(ι:aC) (m:NH),Ro P W ι m->∃ι' m' l,Ro P W ι' m'/\ι.le ι'/\Chg [] m m'/\VRL ι' l (cs.drop o)/\(∀v∈cs.drop o,v.oneCell'=true)/\TyL P m' (fl.map (·.type)) l:=by
    intro fl
    induction fl with
    |nil=>
     intro o ys _ htl _ _ ι m hR
     have ho:o=cs.length:=by rw[hcl];exact of_decide_eq_true htl
     subst ho
     rw[List.drop_length]
     exact ⟨ι,m, [],hR,aC.le_refl ι,Chg.refl m,.nil,by simp,.nil⟩
    |cons f fl ihf=>
     intro o ys hfT htl ho hF ι m hR
     have htl:((f.offset==o)&&lS P fl (o+P.cellsOf f.type) (P.cellsOf t))=true:=htl
     rw[Bool.and_eq_true,beq_iff_eq] at htl
     obtain ⟨rfl,htl⟩:=htl
     obtain ⟨y,hy⟩:=hF 0 f rfl
     obtain ⟨ι1,m1,l1,hR1,hle1,hC1,hvr1,hone1,hty1⟩:=ih f.type (hfT f (List.mem_cons_self ..)) _ y hy ι m hR
     have hle:f.offset+P.cellsOf f.type<=cs.length:=by
      have:∀(fl:List Field) (o:Nat),lS P fl o (P.cellsOf t)=true->o<=P.cellsOf t:=by
       intro fl
       induction fl with
       |nil=>intro o h;exact Nat.le_of_eq (of_decide_eq_true h)
       |cons g fl ih=>
        intro o h
        have h:((g.offset==o)&&lS P fl (o+P.cellsOf g.type) (P.cellsOf t))=true:=h
        rw[Bool.and_eq_true] at h
        have:=ih _ h.2
        omega
      have:=this fl _ htl
      omega
     obtain ⟨ι2,m2,l2,hR2,hle2,hC2,hvr2,hone2,hty2⟩:=ihf (f.offset+P.cellsOf f.type) [] (fun g hg=>hfT g (List.mem_cons_of_mem _ hg)) htl hle (fun i g hg=>hF (i+1) g (by simpa using hg)) ι1 m1 hR1
     have hsplit:cs.drop f.offset=(cs.drop f.offset).take (P.cellsOf f.type)++cs.drop (f.offset+P.cellsOf f.type):=by
      rw[←List.drop_drop,List.take_append_drop]
     refine ⟨ι2,m2,l1++l2,hR2,hle1.trans hle2,hC1.trans hC2 (fun _ h _=>h), ?_, ?_,.cons l1 l2 (hty1.grew hC2) hty2⟩
     ·rw[hsplit];exact VRL.append (hvr1.mono hle2) hvr2
     ·rw[hsplit];intro v hv
      rcases List.mem_append.mp hv with hv|hv
      ·exact hone1 v hv
      ·exact hone2 v hv
   obtain ⟨ι',m',l,h1,h2,h3,h4,h5,h6⟩:=go fs.toList 0 [] (fun f hf=>by simpa using List.all_eq_true.mp hft f hf) htl (Nat.zero_le _) (fun i f hf=>by
    have hi:i<xs.length:=by
     rcases Nat.lt_or_ge i fs.toList.length with q|q
     ·rw[hxl];simpa using q
     ·rw[List.getElem?_eq_none q] at hf;cases hf
    exact ⟨xs[i],by rw[hF i f (by simpa using hf),List.getElem?_eq_getElem hi]⟩) ι m hR
   rw[List.drop_zero] at h4 h5
   exact ⟨ι',m',l,h1,h2,h3,h4,h5,.struct hu l h6⟩
  ·cases hok
inductive TyA (P:Program) (m:NH):List TypeId->List NV->Prop
 |nil:TyA P m [] []
 |one {t:TypeId} {ts:List TypeId} {l:List NV} (x:NV) (hn:∀fs,P.underlying t≠some (.struct fs)) (h:Ty P m t [x]) (hl:TyA P m ts l):TyA P m (t::ts) (x::l)
 |agg {t:TypeId} {ts:List TypeId} {l:List NV} {fs:Array Field} (c:List NV) (ht:P.underlying t=some (.struct fs)) (h:Ty P m t c) (hl:TyA P m ts l):TyA P m (t::ts) (.agg c::l)
omit [Val] in
theorem TyA.grew {P:Program} {m m':NH} (hC:Chg [] m m'):∀{ts:List TypeId} {l:List NV},TyA P m ts l->TyA P m' ts l
 |_,_,.nil=> .nil
 |_,_,.one x hn h hl=> .one x hn (h.grew hC) (TyA.grew hC hl)
 |_,_,.agg c ht h hl=> .agg c ht (h.grew hC) (TyA.grew hC hl)
omit [Val] in
theorem sC {P:Program} {W:World} {base:Nat} {t:TypeId} {v:Value} (hok:∀fs,P.underlying t≠some (.struct fs)) (h:Value.okWide P W .any base t v) (ht:gs P [] t=true∨∃e,P.underlying t=some (.slice e)):v.cells=#[v]:=by
 unfold Value.okWide at h
 rcases ht with ht|⟨e,hu⟩
 ·unfold gs at ht
  split at ht
  ·rename_i hu;rw[hu] at h;unfold Cell.okWide Cell.ok at h;rw[hu] at h;dsimp only at h;cases v<;>first|rfl|exact h.elim
  ·rename_i hu;rw[hu] at h;unfold Cell.okWide Cell.ok at h;rw[hu] at h;dsimp only at h;cases v<;>first|rfl|exact h.elim
  ·rename_i hu;rw[hu] at h;unfold Cell.okWide Cell.ok at h;rw[hu] at h;dsimp only at h;cases v<;>first|rfl|exact h.elim
  ·rename_i e hu;rw[hu] at h;unfold Cell.okWide Cell.ok at h;rw[hu] at h;dsimp only at h;cases v<;>first|rfl|exact h.elim
  ·rename_i fs hu;exact G4 hu (hok fs)
  ·cases ht
 ·rw[hu] at h;unfold Cell.okWide Cell.ok at h;rw[hu] at h;dsimp only at h;cases v<;>first|rfl|exact h.elim
theorem tk {P:Program} {W:World} {T:List TypeId} (hT:rx P T=true) (hne:∃(b:Nat) (cur:Array Value) (T:TypeId) (fz:Nat×Nat),W.heap[b]? =some (.cells cur T fz)) {base:Nat} {H:Type} {enc:TypeId×Value->H}:
 ∀(ts:List TypeId) (args:List Value) (ds:List (DataW H)) (ps:List MemPlace),(∀t∈ts,t∈T)->DataW.TrodAll enc P W 0 (fun _=>true) true ts args ds ps->(∀(j:Nat) t v,ts[j]? =some t->args[j]? =some v->Value.okWide P W .any base t v)->
 ∀(ι:aC) (m:NH),Ro P W ι m->∃ι' m' l,Ro P W ι' m'/\ι.le ι'/\Chg [] m m'/\VRL ι' l args/\TyA P m' ts l:=by
 intro ts
 induction ts with
 |nil=>
  intro args ds ps _ h _ ι m hR
  cases args with
  |nil=>exact ⟨ι,m, [],hR,aC.le_refl ι,Chg.refl m,.nil,.nil⟩
  |cons=>cases h
 |cons t ts ih=>
  intro args ds ps hts h hval ι m hR
  cases args with
  |nil=>cases h
  |cons v args=>
   cases ds with
   |nil=>cases h
   |cons d ds=>
    obtain ⟨p,q,⟨n,hd⟩,hr,_⟩:=h
    obtain ⟨ι1,m1,c,hR1,hle1,hC1,hv1,hone1,hty1⟩:=xF hT hne n t (hts t (List.mem_cons_self ..)) _ _ hd ι m hR
    obtain ⟨ι2,m2,l,hR2,hle2,hC2,hv2,hty2⟩:=ih args ds q (fun t ht=>hts t (List.mem_cons_of_mem _ ht)) hr (fun j t v h1 h2=>hval (j+1) t v (by simpa using h1) (by simpa using h2)) ι1 m1 hR1
    have hv:=hval 0 t v rfl rfl
    have hok:gs P T t=true:=List.all_eq_true.mp hT t (hts t (List.mem_cons_self ..))
    have hC:=hC1.trans hC2 (fun _ h _=>h)
    by_cases hst:∃fs,P.underlying t=some (.struct fs)
    ·obtain ⟨fs,hu⟩:=hst
     have hv':=hv
     unfold Value.okWide at hv'
     rw[hu] at hv'
     obtain ⟨cs,rfl,_,_⟩:=hv'
     refine ⟨ι2,m2,.agg c::l,hR2,hle1.trans hle2,hC,.cons _ _ _ _ ?_ hv2,.agg c hu (hty1.grew hC2) hty2⟩
     have:=VR.agg (ι:=ι2) c cs.toList (hv1.mono hle2) hone1
     simpa using this
    ·have hn:∀fs,P.underlying t≠some (.struct fs):=fun fs q=>hst ⟨fs,q⟩
     have hc:v.cells=#[v]:=by
      refine sC hn hv ?_
      unfold gs at hok ⊢
      split at hok
      ·rename_i hu;exact Or.inl rfl
      ·rename_i hu;exact Or.inl rfl
      ·rename_i hu;exact Or.inl rfl
      ·rename_i e hu;exact Or.inr ⟨e,hu⟩
      ·rename_i fs hu;exact G4 hu (hn fs)
      ·cases hok
     rw[hc] at hv1
     cases hv1 with
     |cons x _ xl _ hx hxl=>
      cases hxl
      exact ⟨ι2,m2,x::l,hR2,hle1.trans hle2,hC,.cons _ _ _ _ (hx.mono hle2) hv2,.one x hn (hty1.grew hC2) hty2⟩
theorem pz {P:Program} (hM:P.follows .mixedOrders=true) (hP:P.check= .ok ()) {S:bN} (hS:de P S) {T:List TypeId} (hT:rx P T=true) {f:Nat} {nf:NFun} (hf:am P f=some (.code nf)) (hs:∀l,S f l=fun _=>none) {ts:List TypeId} (hts:∀t∈ts,t∈T)
 {m0:NH} (law:∀(m:NH) (l:List NV),Chg [] m0 m->TyA P m ts l->∃m',bo P S f l m (.bool true) m') {W:World} {ι0:aC} (h0:Ro P W ι0 m0) (hne:∃(b:Nat) (cur:Array Value) (T:TypeId) (fz:Nat×Nat),W.heap[b]? =some (.cells cur T fz)) {base:Nat} {H:Type} {enc:TypeId×Value->H} {args:List Value} {ds:List (DataW H)} {ps:List MemPlace}
 (h:DataW.TrodAll enc P W 0 (fun _=>true) true ts args ds ps) (hval:∀(j:Nat) t v,ts[j]? =some t->args[j]? =some v->Value.okWide P W .any base t v):
 Calls P f args.toArray W fun e W'=>e= .returned (.bool true)/\Below W.heap.size W W':=by
 obtain ⟨ι,m,l,hR,_,hC,hv,hty⟩:=tk hT hne ts args ds ps hts h hval ι0 m0 h0
 obtain ⟨m',c,hc⟩:=law m l hC hty
 refine (uI hM hP hS hf (hs l) hc hR.1 hR.2 hv).mono ?_
 rintro e W' ⟨⟨ι',v',rfl,h1,_,_⟩,hb⟩
 cases h1
 exact ⟨rfl,hb⟩
omit [Val] in
theorem trodAll_stays {P:Program} (hl:laidOutB P=true) {W W':World} (hb:Below W.heap.size W W') {H:Type} {enc:TypeId×Value->H} {sp:Nat->Bool}:∀(ts:List TypeId) (args:List Value) (ds:List (DataW H)) (ps:List MemPlace),(∀t∈ts,P.readableRec t=true/\t<P.types.size)->
 DataW.TrodAll enc P W 0 (fun _=>true) true ts args ds ps->(∀p∈ps,p.block<W.heap.size)->(∀p∈ps,sp p.block=true)->DataW.TrodAll enc P W' 0 sp true ts args ds ps:=by
 intro ts
 induction ts with
 |nil=>
  intro args ds ps _ h _ _
  cases args with
  |nil=>cases ds with
   |nil=>exact h
   |cons=>cases h
  |cons=>cases h
 |cons t ts ih=>
  intro args ds ps hr h hlt hsp
  cases args with
  |nil=>cases h
  |cons v args=>
   cases ds with
   |nil=>cases h
   |cons d ds=>
    obtain ⟨p,q,hd,hq,rfl⟩:=h
    exact ⟨p,q,WideElems.Trod_stays hl (hr t (List.mem_cons_self ..)).1 (hr t (List.mem_cons_self ..)).2 hd (fun x hx=>hb.same (hlt x (List.mem_append_left _ hx))) (fun x hx=>hsp x (List.mem_append_left _ hx)),
     ih args ds q (fun t ht=>hr t (List.mem_cons_of_mem _ ht)) hq (fun x hx=>hlt x (List.mem_append_right _ hx)) (fun x hx=>hsp x (List.mem_append_right _ hx)),rfl⟩
omit [Val] in
theorem Ty.inv_str {P:Program} {m:NH} {t:TypeId} {l:List NV} (hu:P.underlying t=some .string) (h:Ty P m t l):∃s:List Nat,l= [.str s]/\(∀b∈s,b<256)/\s.length<=maxLen:=by
 cases h with
 |bool ht=>rw[hu] at ht;cases ht
 |int ht=>rw[hu] at ht;cases ht
 |str _ s h1 h2=>exact ⟨s,rfl,h1,h2⟩
 |slc ht=>rw[hu] at ht;cases ht
 |struct ht=>rw[hu] at ht;cases ht
omit [Val] in
theorem TyL.inv0 {P:Program} {m:NH} {l:List NV} (h:TyL P m [] l):l= []:=by cases h;rfl
omit [Val] in
theorem TyA.inv1 {P:Program} {m:NH} {t:TypeId} {ts:List TypeId} {l:List NV} (hn:∀fs,P.underlying t≠some (.struct fs)) (h:TyA P m (t::ts) l):∃x r,l=x::r/\Ty P m t [x]/\TyA P m ts r:=by
 cases h with
 |one x _ h hl=>exact ⟨x,_,rfl,h,hl⟩
 |agg c ht=>exact G4 ht (hn _)
omit [Val] in
theorem TyA.inv0 {P:Program} {m:NH} {l:List NV} (h:TyA P m [] l):l= []:=by cases h;rfl
omit [Val] in
theorem bo.kept {P:Program} {S:bN} {f:Nat} {args:List NV} {v:NV} (h:S f args=fun h=>some (v,h)) (m:NH):bo P S f args m v m:=by
 refine ⟨none,by simp,0, ?_⟩
 unfold bv;rw[h]
omit [Val] in
theorem bo.keptM {P:Program} {S:bN} {f:Nat} {args:List NV} {v:NV} {m m':NH} (h:S f args m=some (v,m')):bo P S f args m v m':=by
 refine ⟨none,by simp,0, ?_⟩
 unfold bv;rw[h]
omit [Val] in
theorem trodAll_len {P:Program} {W:World} {base:Nat} {sp:Nat->Bool} {hd:Bool} {H:Type} {enc:TypeId×Value->H}:∀{ts:List TypeId} {vs:List Value} {ds:List (DataW H)} {ps:List MemPlace},DataW.TrodAll enc P W base sp hd ts vs ds ps->ds.length=ts.length:=by
 intro ts
 induction ts with
 |nil=>intro vs ds ps h;cases vs<;>cases ds<;>first|rfl|cases h
 |cons t ts ih=>
  intro vs ds ps h
  cases vs with
  |nil=>cases h
  |cons v vs=>cases ds with
   |nil=>cases h
   |cons d ds=>obtain ⟨_,_,_,h,_⟩:=h;simp[ih h]
end
end Nm
namespace Nm
open Go Go.RowKit
attribute [go_sem] AI Ew Cn D8 CP Cu zh Dt BR Ao AX Bq yd xJ Af yF Fq D5 Dd
attribute [go_sem] Gl CC Dw BW Ei Dx AH Cx zg zf Gf Gc wI FC FS
attribute [go_sem] AS yR vF A7 zA Bd Ej xm BU Au xV w6 u7 za vR uF vC zr
attribute [go_sem] y9 yJ vB zj Bool.and_true Bool.true_and DZ Dq yE xH Bf Gi FG Fm Fd FQ
attribute [go_sem] Fj F3 FO F8 Gd FV FL Gm F1 F6 FP FU FT FB Gv Gu Fe Ft FR Gx
attribute [go_sem] Fs FN F0 Ai EA Gs DQ CN CE DH Ef ta Cw Bz EE xI xk
attribute [go_sem] Bj uD sx zB zl AV A8 zn DB DU BK
attribute [go_sem] Du Ci EF BZ xY zG DO B8
attribute [go_sem] EX B6 ES zH wm ui BS Dz Bl BO Ez D3 AP Bo ER F7 Dj
attribute [go_sem] E0 Di ED Ea ET Dy DG vW D6 CY Ch A6 F5 CJ CD
attribute [go_sem] yh yX yv DT Dv FK Ec FE EI Gk CI Al Nat.sub_self Nat.sub_zero EO
attribute [go_sem] Bx EZ DM EU F2 yz zt
attribute [go_sem] FF EY Bg aH pP Cb Cy vw wn oy nV oZ DI EP
attribute [go_sem] CO DX Bool.not_true Bool.not_false Bc Bn Int.toNat_natCast Int.toNat_zero Int.toNat_one
attribute [go_sem] List.getElem?_cons_zero List.getElem?_cons_succ List.length_cons List.length_nil List.set_cons_zero List.set_cons_succ List.take_zero List.drop_zero List.take_succ_cons List.drop_succ_cons List.take_nil List.drop_nil List.nil_append List.cons_append List.append_nil Nat.zero_add Nat.zero_mul Nat.testBit cond_true cond_false
attribute [go_sem] NT.get_leaf AA xC ak beq_self_eq_true decide_true decide_false if_true if_false ite_true ite_false eq_self true_and and_true true_implies
noncomputable def au:=And.intro (@List.length_set.{0})<|And.intro (@List.length_cons.{0})<|And.intro (@List.length_nil.{0})<|And.intro (@List.length_append.{0})<|And.intro (@List.length_map.{0,0})<|@List.length_replicate.{0}
namespace C
abbrev t (a:D4):NOpd:= .tmp a
abbrev k (z:Int):NOpd:= .const (.int .i64 (.lit z))
abbrev kb (z:Int):NOpd:= .const (.int .u8 (.lit z))
abbrev ku (z:Int):NOpd:= .const (.int .u64 (.lit z))
abbrev kt:NOpd:= .const (.bool true)
abbrev kf:NOpd:= .const (.bool false)
abbrev kn:NOpd:= .const .nils
abbrev F (n:Nat):NOpd:= .const (.fn n [])
abbrev o (d:D4) (p:NOp) (i:Nat):NOper:=⟨some d,p,none,0,i⟩
abbrev O (d:D4) (p:NOp) (q i:Nat):NOper:=⟨some d,p,none,q,i⟩
abbrev G (d:D4) (p:NOp) (g:D4) (b:Bool) (i:Nat):NOper:=⟨some d,p,some (g,b),0,i⟩
abbrev m (d s:D4) (i:Nat):NOper:=⟨some d,.move (.tmp s),none,0,i⟩
abbrev f (n:Nat) (d s:D4) (i:Nat):NOper:=⟨some d,.fieldAddr n (.tmp s),none,0,i⟩
abbrev l (d s:D4) (i:Nat):NOper:=⟨some d,.load1 (.tmp s),none,0,i⟩
abbrev L (d s:D4) (i:Nat):NOper:=⟨some d,.lenSlc (.tmp s),none,0,i⟩
abbrev n (d s:D4) (i:Nat):NOper:=⟨some d,.nilCheck (.tmp s),none,0,i⟩
abbrev x (d s:D4) (j i:Nat):NOper:=⟨some d,.extract (.tmp s) j,none,0,i⟩
abbrev q (p:NOp) (i:Nat):NOper:=⟨none,p,none,0,i⟩
abbrev b (d:D4) (p:BinOp) (a c:NOpd) (i:Nat):NOper:=⟨some d,.bin .num p a c,none,0,i⟩
end C
end Nm
namespace Nm
open Go Go.RowKit
section
variable {t:Tm} {m:NH}
end
end Nm
namespace Nm
open Go Go.RowKit
section
variable {t:Tm} {m:NH}
end
end Nm
namespace Nm
open Go Go.RowKit
noncomputable def qP (f:Nat) (F:List NV->NH->Option (NV×NH)) (S:bN):bN:=fun g=>cond (Nat.beq g f) F (S g)
section
variable [Val]
def dQ (P:Program) (f:Nat) (F:List NV->NH->Option (NV×NH)):Prop:=
 ∀(ι:aC) (B:Nat) (h:NH) (w:World) (args:List NV) (args':List Value) (v:NV) (h':NH),F args h=some (v,h')->Rel P ι B h w->B<=w.heap.size->VRL ι args args'->
  mj P ι B h w ((callFunc f args'.toArray).run P w) (.val v none h')
theorem hU {P:Program} {S:bN} {f:Nat} {F:List NV->NH->Option (NV×NH)} (hS:de P S) (hF:dQ P f F):de P (qP f F S):=by
 intro ι B h w g args args' v h' hg hR hB hl
 unfold qP at hg
 cases hb:Nat.beq g f with
 |true=>
  rw[hb] at hg
  obtain rfl:=Hb hb
  exact hF ι B h w args args' v h' hg hR hB hl
 |false=>
  rw[hb] at hg
  exact hS ι B h w g args args' v h' hg hR hB hl
theorem dQ.of {P:Program} {f:Nat} {F:List NV->NH->Option (NV×NH)} (hen:∀args w,(callFunc f args).run P w= .ok (.enter f args) w)
 (H:∀(ι:aC) (B:Nat) (h:NH) (w:World) (args:List NV) (args':List Value) (v:NV) (h':NH),F args h=some (v,h')->Rel P ι B h w->B<=w.heap.size->VRL ι args args'->
  Calls P f args'.toArray w fun e w'=>∃ι' v',e= .returned v'/\VR ι' v v'/\Rel P ι' B h' w'/\B<=w'.heap.size/\Grow ι h w ι' h' w'):dQ P f F:=by
 intro ι B h w args args' v h' hF hR hB hl c0 cs
 obtain ⟨e,w',fr,⟨ι',v',he,hv,hR',hB',hG⟩,hcomes,hfn,hleave⟩:=H ι B h w args args' v h' hF hR hB hl (c0::cs)
 subst he
 exact ⟨ι',v',w',hv,hR',hB',hG,.inr ⟨w,.inl ⟨f,args'.toArray,hen _ w,Steps.trans hcomes (.one (step_leave_returned hleave))⟩⟩⟩
theorem Rel.below {P:Program} {ι:aC} {B:Nat} {h:NH} {w w':World} (hR:Rel P ι B h w) (hb:Below w.heap.size w w'):Rel P ι B h w':=
 ⟨fun i p hi=>by
  obtain ⟨o,o1,o2⟩:=hR.obj i p hi
  exact ⟨o,o1,o2.mono (aC.le_refl _) (hb.block _ (hR.lt i p hi))⟩,hR.inj,hR.base,fun i p hi=>Nat.lt_of_lt_of_le (hR.lt i p hi) hb.size,hR.fresh,hR.gl⟩
omit [Val] in
theorem Grow.below {ι:aC} {h:NH} {w w':World} (hb:Below w.heap.size w w'):Grow ι h w ι h w':=
 ⟨aC.le_refl _,Nat.le_refl _,fun _ _ x=> .inl x,fun i p x y=> .inr ⟨i,p,x,y,rfl⟩,fun _ _ _=>rfl,hb.size,hb.os,hb.tape,hb.output,fun b hb' _=>hb.block b hb'⟩
theorem dQ.plain {P:Program} {f:Nat} {F:List NV->NH->Option (NV×NH)} (hen:∀args w,(callFunc f args).run P w= .ok (.enter f args) w)
 (H:∀(ι:aC) (B:Nat) (h:NH) (w:World) (args:List NV) (args':List Value) (v:NV) (h':NH),F args h=some (v,h')->Rel P ι B h w->VRL ι args args'->
  h'=h/\Calls P f args'.toArray w fun e w'=>(∃v',e= .returned v'/\VR ι v v')/\Below w.heap.size w w'):dQ P f F:=
 dQ.of hen fun ι B h w args args' v h' hF hR hB hl=>by
  obtain ⟨rfl,hc⟩:=H ι B h w args args' v h' hF hR hl
  refine hc.mono ?_
  rintro e w' ⟨⟨v',he,hv⟩,hb⟩
  exact ⟨ι,v',he,hv,hR.below hb,Nat.le_trans hB hb.size,.below hb⟩
theorem Rel.global {P:Program} {ι:aC} {B:Nat} {h:NH} {w:World} (hR:Rel P ι B h w) {g:Nat} (hg:g<NG) {wr:Bool} {c:List NV} (hc:h.get (D4.of g)=some (.cells wr c)) (hn:c.length=GN g):
 ∃cur T fz,w.heap[g]? =some (.cells cur T fz)/\VRL ι c cur.toList:=by
 obtain ⟨o,o1,o2⟩:=hR.obj _ _ (hR.gl g hg)
 rw[hc] at o1
 cases o1
 obtain ⟨cur,T,fz,k1,k2,k3,k4,k5⟩:=o2
 dsimp only at k1 k3 k4 k5
 refine ⟨cur,T,fz,k1,VRL.of_get (by simp;omega) fun i v hi=> ?_⟩
 obtain ⟨v',a,b,_⟩:=k5 i v hi
 exact ⟨v',by simpa using a,b⟩
theorem Ro.lay {P:Program} {W:World} {ι:aC} {m:NH} (h:Ro P W ι m) {g:Nat} (hg:g<NG) {c:List NV} {cur:Array Value} {T:TypeId} {fz:Nat×Nat} (hb:W.heap[g]? =some (.cells cur T fz)) (hn:cur.size=GN g)
 (hc:VRL ι c cur.toList) (h1:∀v∈cur.toList,v.oneCell'=true):Ro P W ι (m.put (D4.of g) (.cells false c)):=by
 obtain ⟨hR,hL⟩:=h
 have hι:=hR.gl g hg
 have hnl:∀i p,ι i=some p->¬Live ((m.put (D4.of g) (.cells false c)).get i):=fun i p hi=>by
  by_cases e:i=D4.of g
  ·subst e;rw[NH.get_put_same];exact fun q=>q.2 c rfl
  ·rw[NH.get_put_ne _ _ e];exact hL i p hi
 have hold:(D4.of g).toNat<m.next.toNat:=by
  obtain ⟨o,o1,_⟩:=hR.obj _ _ hι;exact hR.fresh _ _ o1
 refine ⟨⟨fun i p hi=> ?_,fun i j p q hi _ _ hl _=>G4 hl (hnl i p hi),fun i p hi hl=>G4 hl (hnl i p hi),hR.lt,fun i o ho=> ?_,hR.gl⟩,hnl⟩
 ·by_cases e:i=D4.of g
  ·subst e
   rw[hι] at hi;cases hi
   refine ⟨_,NH.get_put_same _ _ _,cur,T,fz,hb,fun q=>Bool.noConfusion q,hn,by rw[hc.length];simp;omega,fun i v hv=> ?_⟩
   obtain ⟨v',a,b⟩:=hc.get hv
   exact ⟨v',by simpa using a,b,h1 _ (List.mem_of_getElem? a)⟩
  ·obtain ⟨o,o1,o2⟩:=hR.obj i p hi
   exact ⟨o,by rw[NH.get_put_ne _ _ e];exact o1,o2⟩
 ·show i.toNat<m.next.toNat
  by_cases e:i=D4.of g
  ·subst e;exact hold
  ·rw[NH.get_put_ne _ _ e] at ho;exact hR.fresh i o ho
theorem Rel.madeC {P:Program} {ι:aC} {B:Nat} {h:NH} {w w':World} (hR:Rel P ι B h w) (hb:Below w.heap.size w w') {N:Nat} (hN:w.heap.size<=N) {cur:Array Value} {T:TypeId} {fz:Nat×Nat} (hc:w'.heap[N]? =some (.cells cur T fz)) {o:Nat} {c:List NV} (hlen:o+c.length<=cur.size) (hcs:∀(ι2:aC) (i:Nat) (v:NV),c[i]? =some v->∃v',cur[o+i]? =some v'/\VR ι2 v v'/\v'.oneCell'=true):
 ∃ι',ι' h.next=some ⟨N,o,cur.size⟩/\Rel P ι' B (h.add (.cells false c)) w'/\Grow ι h w ι' (h.add (.cells false c)) w':=by
 have hR':=hR.below hb
 have hn:ι h.next=none:=by
  cases hi:ι h.next with
  |none=>rfl
  |some q=>obtain ⟨o,h1,_⟩:=hR.obj _ _ hi;exact G4 (hR.fresh _ _ h1) (Nat.lt_irrefl _)
 have hle:ι.le (ext ι h.next ⟨N,o,cur.size⟩):=fun i p hi=>by
  unfold ext
  by_cases e:i.toNat=h.next.toNat
  ·rw[D4.toNat_inj e,hn] at hi;cases hi
  ·rw[G5 e];exact hi
 have hinv:∀i p,ext ι h.next ⟨N,o,cur.size⟩ i=some p->(i=h.next/\p=⟨N,o,cur.size⟩)∨(ι i=some p/\i≠h.next):=fun i p hi=>by
  unfold ext at hi
  by_cases e:i.toNat=h.next.toNat
  ·rw[G6 e] at hi;injection hi with hi;exact Or.inl ⟨D4.toNat_inj e,hi.symm⟩
  ·rw[G5 e] at hi;exact Or.inr ⟨hi,fun q=>e (by rw[q])⟩
 have hget:∀i,i≠h.next->(h.add (.cells false c)).get i=h.get i:=fun i e=>NH.get_add_ne _ _ e
 have hnl:¬Live ((h.add (.cells false c)).get h.next):=by rw[NH.get_add_same];exact fun q=>q.2 c rfl
 refine ⟨ext ι h.next ⟨N,o,cur.size⟩,by unfold ext;rw[G6 rfl],⟨fun i p hi=> ?_,fun i j p q hi hj hij d1 d2=> ?_,fun i p hi d=> ?_,fun i p hi=> ?_,fun i o ho=> ?_,hR.gl.mono hle⟩,hle, ?_,fun i p hi=> ?_,fun i p hi d=> ?_,fun i hi hl=> ?_,hb.size,hb.os,hb.tape,hb.output,fun b hb' _=>hb.block b hb'⟩
 ·rcases hinv i p hi with ⟨rfl,rfl⟩|⟨hi,hne⟩
  ·refine ⟨_,NH.get_add_same _ _,cur,T,fz,hc,fun q=>Bool.noConfusion q,rfl,hlen,fun i v hv=>hcs _ i v hv⟩
  ·obtain ⟨o,o1,o2⟩:=hR'.obj i p hi
   exact ⟨o,by rw[hget i hne];exact o1,o2.mono hle rfl⟩
 ·rcases hinv i p hi with ⟨rfl,rfl⟩|⟨hi,hne⟩
  ·exact G4 d1 hnl
  ·rw[hget i hne] at d1
   rcases hinv j q hj with ⟨rfl,rfl⟩|⟨hj,hne'⟩
   ·have:=hR.lt i p hi;show p.b≠N;omega
   ·rw[hget j hne'] at d2
    exact hR.inj i j p q hi hj hij d1 d2
 ·rcases hinv i p hi with ⟨rfl,rfl⟩|⟨hi,hne⟩
  ·exact G4 d hnl
  ·rw[hget i hne] at d;exact hR.base i p hi d
 ·rcases hinv i p hi with ⟨rfl,rfl⟩|⟨hi,_⟩
  ·exact (Array.getElem?_eq_some_iff.1 hc).1
  ·exact hR'.lt i p hi
 ·show i.toNat<h.next.nxt.toNat
  rw[D4.toNat_nxt]
  by_cases e:i=h.next
  ·subst e;omega
  ·rw[hget i e] at ho;have:=hR.fresh i o ho;omega
 ·show h.next.toNat<=h.next.nxt.toNat
  rw[D4.toNat_nxt];omega
 ·rcases hinv i p hi with ⟨rfl,_⟩|⟨hi,_⟩
  ·exact .inr (Nat.le_refl _)
  ·exact .inl hi
 ·rcases hinv i p hi with ⟨rfl,_⟩|⟨hi,hne⟩
  ·exact G4 d hnl
  ·rw[hget i hne] at d;exact .inr ⟨i,p,hi,d,rfl⟩
 ·exact hget i fun e=>by rw[e] at hl;exact Nat.lt_irrefl _ hl
theorem Rel.made {P:Program} {ι:aC} {B:Nat} {h:NH} {w w':World} (hR:Rel P ι B h w) (hb:Below w.heap.size w w') {N:Nat} (hN:w.heap.size<=N) {cur:Array Value} {T:TypeId} {fz:Nat×Nat} (hc:w'.heap[N]? =some (.cells cur T fz)):
 ∃ι',ι' h.next=some ⟨N,0,cur.size⟩/\Rel P ι' B (h.add (.cells false [])) w'/\Grow ι h w ι' (h.add (.cells false [])) w':=
 hR.madeC hb hN hc (o:=0) (by simp) fun _ i v hv=>by simp at hv
noncomputable def xO (args c:List NV) (off len e kc:Nat) (l:List NV) (h:NH):Option (NV×NH):=cond (dx (bx 3) l args) (h.new (.cells false c) fun id h=>some (.slc id off len e kc,h)) none
noncomputable def iZ (cf:Nat->Option NFn) (S:bN) (n f:Nat) (args c:List NV) (off len e kc:Nat):Bool:=
 match mS cf S n f args with
 | .val (.slc id o l k m) _ h=>cond (dJ args) (cond (dJ c) (cond (Nat.beq o off) (cond (Nat.beq l len) (cond (Nat.beq k e) (cond (Nat.beq m kc) (match h.get id with
  |some (.cells true d)=>dx (bx 3) d c
  |_=>false) false) false) false) false) false) false
 |_=>false
omit [Val] in
theorem dS.row {P:Program} {cf:Nat->Option NFn} (hc:dS P cf) {S:bN} {n f:Nat} {args c:List NV} {off len e kc:Nat} (hr:iZ cf S n f args c off len e kc=true):iZ P S n f args c off len e kc=true:=by
 have e:cf=am P:=funext hc
 rw[e] at hr;exact hr
omit [Val] in
theorem tH:∀{l:List NV} {i:Nat} {v:NV},dJ l=true->l[i]? =some v->cS v=true:=by
 intro l
 induction l with
 |nil=>intro i v _ h;simp at h
 |cons a l ih=>
  intro i v h hi
  simp only[dJ,Bool.and_eq_true] at h
  cases i with
  |zero=>simp at hi;subst hi;exact h.1
  |succ i=>exact ih h.2 (by simpa using hi)
theorem vQ {P:Program} {S:bN} (hM:P.follows .mixedOrders=true) (hP:P.check= .ok ()) (hS:de P S) {n f:Nat} {args c:List NV} {off len e kc:Nat} (hr:iZ P S n f args c off len e kc=true)
 (hen:∀args w,(callFunc f args).run P w= .ok (.enter f args) w):dQ P f (xO args c off len e kc):=
 dQ.of hen fun ι B h w l args' v h' hF hR hB hl=>by
  unfold xO at hF
  obtain ⟨h1,hF'⟩:=az hF
  clear hF
  rw[NH.new_eq] at hF'
  have:=dN (dg 3) h1
  subst this
  injection hF' with hF
  injection hF with e1 e2
  subst e1;subst e2
  unfold iZ at hr
  split at hr
  ·rename_i id o l' k m x h0 hrun
   obtain ⟨p1,hr1⟩:=a7 hr
   obtain ⟨p2,hr2⟩:=a7 hr1
   obtain ⟨q1,hr3⟩:=a7 hr2
   obtain ⟨q2,hr4⟩:=a7 hr3
   obtain ⟨q3,hr5⟩:=a7 hr4
   obtain ⟨q4,hr6⟩:=a7 hr5
   clear hr hr1 hr2 hr3 hr4 hr5
   obtain rfl:=Hb q1
   obtain rfl:=Hb q2
   obtain rfl:=Hb q3
   obtain rfl:=Hb q4
   split at hr6
   ·rename_i d hd
    have:=dN (dg 3) hr6
    subst this
    refine (mC hM hP hS hrun (hl.plain p1) w hR.room).mono ?_
    rintro e w' ⟨⟨ι1,v',rfl,hv,hR1⟩,hb⟩
    cases hv with
    |slc _ _ _ _ _ p a cap z1 z2 z3 z4 z5 z6=>
     have hlive:Live (h0.get id):=by rw[hd];simp
     have hbase:=hR1.base id p z1 hlive
     obtain ⟨ob,o1,o2⟩:=hR1.obj id p z1
     rw[hd] at o1;cases o1
     obtain ⟨cur,T,fz,k1,k2,k3,k4,k5⟩:=o2
     obtain ⟨ι',r1,r2,r3⟩:=hR.madeC hb hbase k1 (by rw[k3];exact k4) (fun ι2 i u hi=>by
      obtain ⟨u',a1,a2,a3⟩:=k5 i u hi
      exact ⟨u',a1,a2.plain (tH p2 hi),a3⟩)
     exact ⟨ι',_,rfl,.slc _ _ _ _ _ _ _ _ r1 z2 z3 z4 z5 (by rw[←k3] at z6;exact z6),r2,Nat.le_trans hB hb.size,r3⟩
   ·cases hr6
  ·cases hr
noncomputable def wj (k:IntKind) (F:Int->Option NV) (l:List NV) (h:NH):Option (NV×NH):=
 match l with
 | [.int k' (.lit n)]=>cond (eU k k') (match F n with|some v=>some (v,h)|none=>none) none
 |_=>none
theorem wY {P:Program} {S:bN} (hM:P.follows .mixedOrders=true) (hP:P.check= .ok ()) (hS:de P S) {N f:Nat} {k:IntKind} {F:Int->Option NV} (hen:∀args w,(callFunc f args).run P w= .ok (.enter f args) w)
 (H:∀n v,F n=some v->∃x:SI,(∀ι,VR ι (.int k x) (.int k n))/\bm P S N f [.int k x] v=true):dQ P f (wj k F):=
 dQ.plain hen fun ι B h w l args' v h' hF hR hl=>by
  unfold wj at hF
  split at hF
  ·rename_i k' n
   obtain ⟨c1,hF2⟩:=az hF
   clear hF
   obtain rfl:=dy c1
   cases hu:F n with
   |none=>rw[hu] at hF2;cases hF2
   |some u=>
    rw[hu] at hF2
    injection hF2 with hF3
    injection hF3 with e1 e2
    subst e1;subst e2
    obtain ⟨x,hx,hr⟩:=H n u hu
    unfold bm at hr
    split at hr
    ·rename_i u' y h0 hrun
     obtain ⟨p1,hr1⟩:=a7 hr
     obtain ⟨p2,hr2⟩:=a7 hr1
     have:=dg _ _ _ hr2
     subst this
     cases hl with
     |cons _ _ _ _ h1 hl=>
      cases hl;cases h1
      refine ⟨rfl,(mC hM hP hS hrun (.cons _ _ _ _ (hx _) .nil) w hR.room).mono ?_⟩
      rintro e w' ⟨⟨ι1,v',rfl,hv,_⟩,hb⟩
      exact ⟨⟨v',rfl,hv.plain p2⟩,hb⟩
    ·cases hr
  ·cases hF
end
end Nm
namespace Nm
open Go Go.RowKit Go.Proofs Go.Sort
noncomputable section
def jD (fuel:Nat):Nat->List Nat->List Nat:=Nat.rec (fun _ acc=>acc) (fun _ ih u acc=>cond (Nat.ble (Nat.succ u) 10) (ai (Nat.add 48 u) fun d=>d::acc) (ai (Nat.add 48 (Nat.mod u 10)) fun d=>ih (Nat.div u 10) (d::acc))) fuel
def dl (n:Int):List Nat:=Int.rec (fun m=>jD 20 m []) (fun m=>45::jD 20 (Nat.succ m) []) n
def FY (k:Nat):Nat->List NV:=Nat.rec (fun _=> []) (fun _ ih x=>ai x fun x=> .int .u64 (.lit (.ofNat x))::ih (Nat.mul x 10)) k
def eI:List NV:=FY 20 1
def lY (g:Nat) (h:NH):Bool:=match h.get (D4.of g) with|some (.cells _ c)=>dx (bx 1) c eI|_=>false
def rT (g:Nat) (l:List NV) (h:NH):Option (NV×NH):=
 match l with
 | [.int .i64 (.lit n)]=>cond (lY g h) (cond (iC (.negSucc 9223372036854775807) n) (cond (iC n (.ofNat 9223372036854775807)) (some (.str (dl n),h)) none) none) none
 |_=>none
end
theorem md (k u:Nat) (acc:List Nat):jD (k+1) u acc=if u<10 then (48+u)::acc else jD k (u / 10) ((48+u % 10)::acc):=by
 have e:jD (k+1) u acc=cond (Nat.ble (Nat.succ u) 10) (ai (Nat.add 48 u) fun d=>d::acc) (ai (Nat.add 48 (Nat.mod u 10)) fun d=>jD k (Nat.div u 10) (d::acc)):=rfl
 rw[e,ae,ae]
 by_cases h:u<10
 ·rw[G6 h,Nat.ble_eq_true_of_le (by omega)];rfl
 ·rw[G5 h]
  cases hb:Nat.ble (Nat.succ u) 10 with
  |true=>exact G4 (Nat.le_of_ble_eq_true hb) (by omega)
  |false=>rfl
theorem rM:∀(k u:Nat) (acc:List Nat),u<10 ^ k->0<k->jD k u acc=(Lib.decDigits u).map UInt8.toNat++acc:=by
 intro k
 induction k with
 |zero=>intro u acc _ h;omega
 |succ k ih=>
  intro u acc hu _
  rw[md,Lib.decDigits]
  by_cases h:u<10
  ·rw[G6 h,dif_pos h];simp;omega
  ·rw[G5 h,dif_neg h]
   rcases Nat.eq_zero_or_pos k with rfl|hk
   ·omega
   ·rw[ih _ _ (by rw[Nat.pow_succ] at hu;omega) hk]
    simp;omega
theorem kh {n:Int} (h0:-9223372036854775808<=n) (h1:n<=9223372036854775807):dl n=(Lib.itoa n).map UInt8.toNat:=by
 unfold Lib.itoa
 cases n with
 |ofNat m=>
  have e:dl (.ofNat m)=jD 20 m []:=rfl
  rw[e,rM 20 m [] (by show m<100000000000000000000;have:((m:Nat):Int)<=9223372036854775807:=h1;omega) (by omega),G5 (by simp)]
  simp
 |negSucc m=>
  have e:dl (.negSucc m)=45::jD 20 (m+1) []:=rfl
  rw[e,rM 20 (m+1) [] (by show m+1<100000000000000000000;omega) (by omega),G6 (by omega)]
  simp
theorem mf:eI=Lib.pow10Tab.map fun z=> .int .u64 (.lit z):=by
 have e:eI= [0,1,2,3,4,5,6,7,8,9,10,11,12,13,14,15,16,17,18,19].map fun k:Nat=>NV.int .u64 (.lit (.ofNat (10 ^ k))):=by kernel_rfl
 rw[e];rfl
theorem pM (w:World) (q:Nat) (os:Array Obj):Below w.heap.size w (grow (w.drewN q) os):=
 ⟨rfl,rfl,rfl,by first|(simp[grow];done)|(simp[grow];omega),fun i hi=>by
  show ((w.drewN q).heap++os)[i]? =_
  rw[Array.getElem?_append_left (by show i<w.heap.size;omega)]
  rfl⟩
section
variable [Val]
theorem VRL.ints {ι:aC} {k:IntKind}:∀{zs:List Int} {l:List Value},VRL ι (zs.map fun z=> .int k (.lit z)) l->l=zs.map fun z=> .int k z:=by
 intro zs
 induction zs with
 |nil=>intro l h;cases h;rfl
 |cons z zs ih=>
  intro l h
  cases h with
  |cons _ v _ l' h hl=>cases h;rw[ih hl];rfl
theorem BE {P:Program} {ι:aC} {B:Nat} {h:NH} {w:World} (hR:Rel P ι B h w) {g:Nat} (hg:g<NG) (hn:GN g=20) (hN:P.globalNamed "internal/strconv.uint64pow10" =some g) (ht:lY g h=true):Lib.TabIs P w "internal/strconv.uint64pow10" .u64 Lib.pow10Tab:=by
 unfold lY at ht
 split at ht
 ·rename_i wr c hc
  have:=dN (dg 1) ht
  subst this
  obtain ⟨cur,T,fz,k1,k2⟩:=hR.global hg hc (by rw[hn];decide+kernel)
  rw[mf] at k2
  have:=VRL.ints k2
  unfold Lib.TabIs World.var?
  rw[hN]
  simp only[Option.bind_some,k1]
  rw[←this]
 ·cases ht
theorem wt {P:Program} {ρ:Shelf.Ren} (L:LaysM.n171 P ρ) {g:Nat} (hg:g<NG) (hn:GN g=20) (hN:P.globalNamed "internal/strconv.uint64pow10" =some g):dQ P (ρ.f 171) (rT g):=
 dQ.plain (enters_of L.f171 (by kernel_rfl) rfl) fun ι B h w args args' v h' hF hR hl=>by
  unfold rT at hF
  split at hF
  ·rename_i n
   obtain ⟨c1,hF⟩:=az hF
   obtain ⟨c2,hF⟩:=az hF
   obtain ⟨c3,hF⟩:=az hF
   cases hF
   rw[bP] at c2 c3
   have h0:-9223372036854775808<=n:=of_decide_eq_true c2
   have h1:n<=9223372036854775807:=of_decide_eq_true c3
   cases hl with
   |cons _ _ _ _ hx hnil=>
    cases hnil;cases hx
    refine ⟨rfl,(Any.strconv_Itoa L n h0 h1 w (BE hR hg hn hN c1)).mono ?_⟩
    rintro e w' ⟨rfl,k,os,rfl⟩
    refine ⟨⟨_,rfl,.str _ _ ?_⟩,pM _ _ _⟩
    rw[kh h0 h1]
  ·cases hF
theorem yI {P:Program} {ρ:Shelf.Ren} (L:LaysM.n171 P ρ) {f g:Nat} (hf:ρ.f 171=f) (hg:g<NG) (hn:GN g=20) (hN:P.globalNamed "internal/strconv.uint64pow10" =some g):dQ P f (rT g):=hf▸wt L hg hn hN
end
end Nm
namespace Nm
open Go Go.RowKit Go.Proofs Go.Sort
noncomputable section
def ib (s:List Nat):Lib.NumEnd Int:=Lib.atoiAll (s.map UInt8.ofNat)
def lw (g t:Nat) (v:Int) (h:NH):Option (NV×NH):=
 match h.get (D4.of g) with
 |some (.cells _ [.ifc _ _])=>h.new (.cells false []) fun id h=>some (.tup [.int .i64 (.lit v),.ifc t (.ptr id 0)],h)
 |_=>none
def oP (g0 g1 t:Nat) (l:List NV) (h:NH):Option (NV×NH):=
 match l with
 | [.str s]=>cond (Nat.ble s.length 281474976710656) (match ib s with
  | .ok v=>some (.tup [.int .i64 (.lit v),.nili],h)
  | .range=>lw g1 t (Lib.atoiSat (s.map UInt8.ofNat)) h
  |_=>lw g0 t 0 h) none
 |_=>none
end
theorem pn (s:ByteArray):(s.data.toList.map UInt8.toNat).map UInt8.ofNat=s.data.toList:=by
 rw[List.map_map]
 conv=>rhs;rw[←List.map_id s.data.toList]
 apply List.map_congr_left
 intro b _
 exact UInt8.ofNat_toNat
section
variable [Val]
theorem rt {P:Program} {f g t:Nat} {z:Int} (hg:g<NG) (hn:GN g=1) {s':ByteArray} {ι:aC} {B:Nat} {h:NH} {w:World} {v:NV} {h':NH} (hF:lw g t z h=some (v,h')) (hR:Rel P ι B h w) (hB:B<=w.heap.size)
 (H:∀(ev:Value),w.cell? ⟨g,0,none⟩=some ev->(ev= .nilIface∨∃te pe,ev= .iface te pe)->
  Calls P f #[.string s'] w fun e w'=>∃N T c,e= .returned (.tuple #[.int .i64 z,.iface t (.pointer (some ⟨N,0,none⟩))])/\w.heap.size<=N/\w'.heap[N]? =some (.cells c T (0,0))/\Below w.heap.size w w'):
 Calls P f #[.string s'] w fun e w'=>∃ι' v',e= .returned v'/\VR ι' v v'/\Rel P ι' B h' w'/\B<=w'.heap.size/\Grow ι h w ι' h' w':=by
 unfold lw at hF
 split at hF
 ·rename_i wr t' x hc
  rw[NH.new_eq] at hF
  cases hF
  obtain ⟨cur,T,fz,k1,k2⟩:=hR.global hg hc (by rw[hn];rfl)
  have hcur:∃te pe,cur=#[.iface te pe]:=by
   generalize hcl:cur.toList=cl at k2
   cases k2 with
   |cons _ _ _ _ a b=>cases a with
    |ifc _ _ v' _=>cases b;exact ⟨t',v',by apply Array.ext';simpa using hcl⟩
  obtain ⟨te,pe,rfl⟩:=hcur
  have hcell:w.cell? ⟨g,0,none⟩=some (.iface te pe):=by unfold World.cell?;rw[k1];rfl
  refine (H _ hcell (.inr ⟨te,pe,rfl⟩)).mono ?_
  rintro e w' ⟨N,T',c,rfl,hN,hb',hbl⟩
  obtain ⟨ι',q1,q2,q3⟩:=hR.made hbl hN hb'
  refine ⟨ι',_,rfl, ?_,q2,Nat.le_trans hB hbl.size,q3⟩
  have:=VR.ptr h.next 0 _ q1
  exact .tup _ _ (.cons _ _ _ _ (.int _ _) (.cons _ _ _ _ (.ifc _ _ _ (by simpa using this)) .nil))
 ·cases hF
theorem xw {P:Program} {ρ:Shelf.Ren} (L:LaysC.n172 P ρ) {f g0 g1 t:Nat} (hf:ρ.f 172=f) (e0:ρ.g 15=g0) (e1:ρ.g 16=g1) (et:ρ.t 168=t) (hg0:g0<NG) (hn0:GN g0=1) (hg1:g1<NG) (hn1:GN g1=1):dQ P f (oP g0 g1 t):=by
 subst hf;subst e0;subst e1;subst et
 refine dQ.of (enters_of L.f172 (by kernel_rfl) rfl) fun ι B h w args args' v h' hF hR hB hl=> ?_
 unfold oP at hF
 split at hF
 ·rename_i s
  obtain ⟨c1,hF⟩:=az hF
  have hlen:=Nat.le_of_ble_eq_true c1
  cases hl with
  |cons _ _ _ _ hx hnil=>
   cases hnil
   cases hx with
   |str _ s' hs=>
    subst hs
    unfold ib at hF
    rw[pn] at hF
    have hsz:s'.size<=281474976710656:=by simpa using hlen
    cases hz:Lib.atoiAll s'.data.toList with
    |ok z=>
     rw[hz] at hF
     cases hF
     refine (Any.strconv_Atoi_ok L s' (by omega) z hz w).mono ?_
     rintro e w' ⟨rfl,hW⟩
     have hb:Below w.heap.size w w':=by
      rcases hW with rfl|⟨t,rfl⟩
      ·exact Below.refl _ _
      ·exact Lib.bytesWorld_below _ _ _
     exact ⟨ι,_,rfl,.tup _ _ (.cons _ _ _ _ (.int _ _) (.cons _ _ _ _ .nili .nil)),hR.below hb,Nat.le_trans hB hb.size,.below hb⟩
    |range=>
     rw[hz] at hF
     exact rt hg1 hn1 hF hR hB fun ev h1 h2=>(Any.strconv_Atoi_range L s' hsz hz ev w h1 h2).mono fun e w' ⟨N,a,b,c,d⟩=>⟨N,_,_,a,b,c,d⟩
    |_=>
     rw[hz] at hF
     exact rt hg0 hn0 hF hR hB fun ev h1 h2=>(Any.strconv_Atoi_syntax L s' hsz hz ev w h1 h2).mono fun e w' ⟨N,a,b,c,d⟩=>⟨N,_,_,a,b,c,d⟩
 ·cases hF
end
end Nm
