/- A machine that runs the given program with memory and order of evaluation taken apart, and what it shows of the law ListingApart: part 3. -/
import Derived.WideKeyArgs
import Derived.Carry
import Derived.ChangeArms
import Derived.HandedShaped
import Derived.Shelf.Strconv.Itoa3
import Derived.Shelf.Strconv.RangeError
import Derived.Shelf.Strconv.SyntaxError
import Derived.Shelf.Strconv.AtoiAll
import Derived.Test.YtbjinflchdkhiaaDoorLaB
set_option linter.unusedSimpArgs false
set_option linter.unusedVariables false
set_option linter.unusedSectionVars false
set_option linter.defProp false
namespace Nm
open Go Go.RowKit
def Le (a b:Option D4->NC->Dyn->Res):Prop:=∀r c d o d',a r c d= .mk o d'->b r c d= .mk o d'
section
variable {P:Program} {S:bE} {a b:Option D4->NC->Dyn->Res}
theorem fh {F G:Nat->List NV->Option NV->NH->CR} (h:∀f l p m r,F f l p m=r->r≠.fail->G f l p m=r) {K:Option NV->NH->CR}:∀(l:List Dfr) (p:Option NV) (m:NH) (r:CR),unwind F K l p m=r->r≠.fail->unwind G K l p m=r:=by
 intro l
 induction l with
 |nil=>exact fun p m r e _=>e
 |cons c l ih=>
  intro p m r e hr
  rw[iP] at e ⊢
  cases c with
  |mark id=>
   dsimp only at e ⊢
   split at e
   ·exact ih _ _ _ e hr
   ·exact EB e.symm hr
  |call f cap=>
   dsimp only at e ⊢
   cases hf:F f cap p m with
   |fail=>rw[hf] at e;exact EB e.symm hr
   |pan v x m'=>rw[hf] at e;exact EB e.symm hr
   |val v x m'=>
    rw[hf] at e
    rw[h f cap p m _ hf (by simp)]
    exact ih _ _ _ e hr
theorem pr (h:Le a b):∀(d f:Nat) (l:List NV) (p:Option NV) (m:NH) (r:CR),b7 P a d f l p m=r->r≠.fail->b7 P b d f l p m=r:=by
 intro d
 induction d with
 |zero=>intro f l p m r e hr;exact EB e.symm hr
 |succ d ih=>
  intro f l p m r e hr
  rw[dw] at e ⊢
  cases hc:ak P f with
  |none=>rw[hc] at e;exact EB e.symm hr
  |some x=>
   cases x with
   |ext x=>rw[hc] at e;exact EB e.symm hr
   |code nf=>
    rw[hc] at e
    dsimp only at e ⊢
    cases ha:a none nf.body ⟨cV l 0 .leaf, [],p,m⟩ with
    |fail=>rw[ha] at e;exact EB e.symm hr
    |mk o d'=>
     rw[ha] at e
     rw[h _ _ _ _ _ ha]
     cases o with
     |norm=>exact fh (fun f l p m r=>ih f l p m r) _ _ _ _ e hr
     |ret=>exact fh (fun f l p m r=>ih f l p m r) _ _ _ _ e hr
     |pan v=>exact fh (fun f l p m r=>ih f l p m r) _ _ _ _ e hr
     |exit id=>exact EB e.symm hr
theorem cn (h:Le a b) {f:Nat} {l:List NV} {m:NH} {r:CR} (e:br P S a f l m=r) (hr:r≠.fail):br P S b f l m=r:=by
 unfold br at e ⊢
 cases hs:S f l m with
 |some v=>rw[hs] at e;exact e
 |none=>
  rw[hs] at e
  dsimp only at e ⊢
  cases hc:ak P f with
  |none=>rw[hc] at e;exact e
  |some x=>
   rw[hc] at e
   cases x with
   |ext x=>exact e
   |code nf=>exact pr h _ _ _ _ _ _ e hr
theorem kq (h:Le a b) {l:D4} {bd:NC} {t:Tm} {m:NH} {r:CR} (e:bN a l bd t m=r) (hr:r≠.fail):bN b l bd t m=r:=by
 unfold bN at e ⊢
 split at e
 ·rename_i p tm ps assign body hm
  rw[NH.set_eq] at e ⊢
  cases ha:a (some l) bd ⟨t, [],none,m.put l (.loop 1 p tm ps assign body)⟩ with
  |fail=>rw[ha] at e;exact EB e.symm hr
  |mk o d=>rw[ha] at e;rw[h _ _ _ _ _ ha];exact e
 ·exact EB e.symm hr
theorem fX (h:Le a b) {l:D4} {args:List NV} {m:NH} {r:CR} (e:round a l args m=r) (hr:r≠.fail):round b l args m=r:=by
 unfold round at e ⊢
 split at e
 ·rename_i x tm ps assign body hm
  obtain ⟨h1,h2⟩:=iG hr e
  have key:∀K:Tm->CR,ct .fail ps args tm K=K (lG ps args tm):=by
   clear e h2 hm
   intro K
   induction ps generalizing args tm with
   |nil=>cases args with
    |nil=>rfl
    |cons=>simp at h1
   |cons q ps ih=>
    cases args with
    |nil=>simp at h1
    |cons v vs=>
     have e:ct .fail (q::ps) (v::vs) tm K=NT.set q v tm fun t=>ct .fail ps vs t K:=rfl
     rw[e,NT.set_eq]
     exact ih _ (by simpa using h1)
  rw[key]
  cases ha:a (some l) assign ⟨lG ps args tm, [],none,m⟩ with
  |fail=>rw[ha] at h2;exact EB h2.symm hr
  |mk o d=>
   rw[ha] at h2
   rw[h _ _ _ _ _ ha]
   cases o with
   |norm=>
    dsimp only at h2 ⊢
    split at h2
    ·exact kq h h2 hr
    ·exact EB h2.symm hr
   |_=>exact EB h2.symm hr
 ·exact EB e.symm hr
theorem jh (h:Le a b) {rnd:Option D4} {dfs:List Dfr} {ctx:Option NV} {m:NH} {x:NR} {r:OpO} (e:cw P S a rnd dfs ctx m x=r) (hr:r≠.fail):cw P S b rnd dfs ctx m x=r:=by
 cases x with
 |call f l=>
  have e':nT dfs ctx (br P S a f l m)=r:=e
  have hn:br P S a f l m≠.fail:=fun hh=>by rw[hh] at e';exact hr e'.symm
  show nT dfs ctx (br P S b f l m)=r
  rw[cn h rfl hn];exact e'
 |yld l args=>
  have e':nT dfs ctx (round a l args m)=r:=e
  have hn:round a l args m≠.fail:=fun hh=>by rw[hh] at e';exact hr e'.symm
  show nT dfs ctx (round b l args m)=r
  rw[fX h rfl hn];exact e'
 |_=>exact e
theorem tX {dst:Option D4} {K L:Dyn->Res} (hk:∀d o d',K d= .mk o d'->L d= .mk o d') {t:Tm} {dfs:List Dfr} {ctx:Option NV} {x:OpO} {o:Out} {d':Dyn} (e:pf dst K t dfs ctx x= .mk o d'):pf dst L t dfs ctx x= .mk o d':=by
 cases x with
 |fail=>cases e
 |next v dfs ctx h=>exact hk _ _ _ e
 |pan v h=>exact e
theorem zD {dst:Option D4} {K:Dyn->Res} {t:Tm} {dfs:List Dfr} {ctx:Option NV} {x:OpO} {o:Out} {d':Dyn} (e:pf dst K t dfs ctx x= .mk o d'):x≠.fail:=by
 rintro rfl;cases e
theorem fg (h:Le a b) {rnd:Option D4}:∀(l:List NOper) (d:Dyn) (o:Out) (d':Dyn),bS P S a rnd l d= .mk o d'->bS P S b rnd l d= .mk o d':=by
 intro l
 induction l with
 |nil=>exact fun d o d' e=>e
 |cons x l ih=>
  rintro ⟨t,dfs,ctx,m⟩ o d' e
  rw[bv] at e ⊢
  cases hg:am t x.guard with
  |none=>rw[hg] at e;cases e
  |some on=>
   rw[hg] at e
   cases on with
   |false=>exact ih _ _ _ e
   |true=>
    dsimp only at e ⊢
    rw[jh h rfl (zD e)]
    exact tX ih e
theorem iu (h:Le a b) {rnd:Option D4}:∀(l:List NOper) (hs:List (Nat×NH)) (rs:List (Nat×(NH->NR)×NV)) (d:Dyn) (o:Out) (d':Dyn),bm P S a rnd l hs rs d= .mk o d'->bm P S b rnd l hs rs d= .mk o d':=by
 intro l
 induction l with
 |nil=>exact fun hs rs d o d' e=>e
 |cons x l ih=>
  rintro hs rs ⟨t,dfs,ctx,m⟩ o d' e
  rw[bq] at e ⊢
  cases hg:am t x.guard with
  |none=>rw[hg] at e;cases e
  |some on=>
   rw[hg] at e
   cases on with
   |false=>exact ih _ _ _ _ _ e
   |true=>
    dsimp only at e ⊢
    cases hcl:aj x.op with
    |pure=>
     rw[hcl] at e
     dsimp only at e ⊢
     cases hop:ab x.op t m<;>rw[hop] at e<;>first|exact ih _ _ _ _ _ e|cases e
    |alloc=>
     rw[hcl] at e
     dsimp only at e ⊢
     cases ha:ahead x.pre hs with
     |false=>rw[ha] at e;cases e
     |true=>
      rw[ha] at e
      simp only[cond_true] at e ⊢
      cases hop:ab x.op t m<;>rw[hop] at e<;>first|exact ih _ _ _ _ _ e|cases e
    |read=>
     rw[hcl] at e
     dsimp only at e ⊢
     cases hop:ab x.op t m with
     |val v=>
      rw[hop] at e
      dsimp only at e ⊢
      cases hst:cd x.pre (ab x.op t) v hs with
      |false=>rw[hst] at e;cases e
      |true=>rw[hst] at e;exact ih _ _ _ _ _ e
     |_=>rw[hop] at e;cases e
    |eff=>
     rw[hcl] at e
     dsimp only at e ⊢
     cases ha:ahead x.pre hs with
     |false=>rw[ha] at e;cases e
     |true=>
      rw[ha] at e
      simp only[cond_true] at e ⊢
      have hk:∀d o d',cond (aO x.pre d.h rs) (bm P S a rnd l ((x.idx,m)::hs) rs d) .fail= .mk o d'->cond (aO x.pre d.h rs) (bm P S b rnd l ((x.idx,m)::hs) rs d) .fail= .mk o d':=by
       intro d o d' e
       cases hs':aO x.pre d.h rs with
       |false=>rw[hs'] at e;cases e
       |true=>rw[hs'] at e;exact ih _ _ _ _ _ e
      have hne:cw P S a rnd dfs ctx m (ab x.op t m)≠.fail:=by
       intro hh
       rw[hh] at e
       cases e
      rw[jh h rfl hne]
      cases hoo:cw P S a rnd dfs ctx m (ab x.op t m) with
      |fail=>exact EB hoo hne
      |pan v m'=>rw[hoo] at e;exact e
      |next v dfs1 ctx1 m'=>
       rw[hoo] at e
       have e':b8 (a7 x.idx l) (cond (aO x.pre m' rs) (bm P S a rnd l ((x.idx,m)::hs) rs ⟨ay x.dst v t,dfs1,ctx1,m'⟩) .fail)= .mk o d':=e
       show b8 (a7 x.idx l) (cond (aO x.pre m' rs) (bm P S b rnd l ((x.idx,m)::hs) rs ⟨ay x.dst v t,dfs1,ctx1,m'⟩) .fail)= .mk o d'
       cases hin:cond (aO x.pre m' rs) (bm P S a rnd l ((x.idx,m)::hs) rs ⟨ay x.dst v t,dfs1,ctx1,m'⟩) .fail with
       |fail=>rw[hin] at e';cases e'
       |mk o2 d2=>
        have:=hk ⟨ay x.dst v t,dfs1,ctx1,m'⟩ o2 d2 hin
        rw[hin] at e'
        rw[show cond (aO x.pre m' rs) (bm P S b rnd l ((x.idx,m)::hs) rs ⟨ay x.dst v t,dfs1,ctx1,m'⟩) .fail= .mk o2 d2 from this]
        exact e'
theorem gy (h:Le a b) {f:Nat} {cap:List NV} {ps:List D4} {x y:NC} {t:Tm} {dfs:List Dfr} {ctx:Option NV} {m:NH} {o:Out} {d':Dyn} (e:bB P S a f cap ps x y t dfs ctx m= .mk o d'):bB P S b f cap ps x y t dfs ctx m= .mk o d':=by
 unfold bB at e ⊢
 rw[NH.new_eq] at e ⊢
 cases hc:br P S a f (.yld m.next::cap) (m.add (.loop 0 .none t ps x y)) with
 |fail=>rw[hc] at e;cases e
 |val v c m'=>rw[hc] at e;rw[cn h hc (by simp)];exact e
 |pan v c m'=>rw[hc] at e;rw[cn h hc (by simp)];exact e
theorem oC (h:Le a b):Le (jg P S a) (jg P S b):=by
 intro r c d o d' e
 cases c with
 |skip=>exact e
 |reg l=>exact fg h _ _ _ _ e
 |regD l=>
  have e':(match bm P S a r l [] [] d with| .mk (.pan v) d=>Res.mk (.pan v) ⟨gF l d.t,d.dfs,d.ctx,d.h⟩|r=>r)= .mk o d':=e
  show (match bm P S b r l [] [] d with| .mk (.pan v) d=>Res.mk (.pan v) ⟨gF l d.t,d.dfs,d.ctx,d.h⟩|r=>r)= .mk o d'
  cases hr:bm P S a r l [] [] d with
  |fail=>rw[hr] at e';cases e'
  |mk o2 d2=>rw[hr] at e';rw[iu h _ _ _ _ _ _ hr];exact e'
 |seq x y=>
  have e':(match a r x d with| .mk o d=>(match o with| .norm=>a r y d|o=> .mk o d)| .fail=> .fail)=Res.mk o d':=(pa (cf:=P) (S:=S)).symm.trans e
  refine (pa (cf:=P) (S:=S)).trans ?_
  show (match b r x d with| .mk o d=>(match o with| .norm=>b r y d|o=> .mk o d)| .fail=> .fail)=Res.mk o d'
  cases hx:a r x d with
  |fail=>rw[hx] at e';cases e'
  |mk o2 d2=>
   rw[hx] at e'
   rw[h _ _ _ _ _ hx]
   cases o2 with
   |norm=>exact h _ _ _ _ _ e'
   |_=>exact e'
 |cond g x y=>
  have e':(match ρ d.t g with|some (.bool c)=>(Bool.rec (a r y d) (a r x d) c:Res)|_=> .fail)=Res.mk o d':=(lY (cf:=P) (S:=S)).symm.trans e
  refine (lY (cf:=P) (S:=S)).trans ?_
  show (match ρ d.t g with|some (.bool c)=>(Bool.rec (b r y d) (b r x d) c:Res)|_=> .fail)=Res.mk o d'
  cases hg:ρ d.t g with
  |none=>rw[hg] at e';cases e'
  |some v=>
   rw[hg] at e'
   cases v with
   |bool q=>cases q<;>exact h _ _ _ _ _ e'
   |_=>cases e'
 |block id x=>
  have e':(match a r x d with| .mk o d=>(match o with| .exit i=>cond (Nat.beq i id) (.mk .norm d) (.mk (.exit i) d)|o=> .mk o d)| .fail=> .fail)=Res.mk o d':=(jU (cf:=P) (S:=S)).symm.trans e
  refine (jU (cf:=P) (S:=S)).trans ?_
  show (match b r x d with| .mk o d=>(match o with| .exit i=>cond (Nat.beq i id) (.mk .norm d) (.mk (.exit i) d)|o=> .mk o d)| .fail=> .fail)=Res.mk o d'
  cases hx:a r x d with
  |fail=>rw[hx] at e';cases e'
  |mk o2 d2=>rw[hx] at e';rw[h _ _ _ _ _ hx];exact e'
 |loop x=>
  have e':(match a r x d with| .mk o d=>(match o with| .norm=>a r (.loop x) d|o=> .mk o d)| .fail=> .fail)=Res.mk o d':=(mu (cf:=P) (S:=S)).symm.trans e
  refine (mu (cf:=P) (S:=S)).trans ?_
  show (match b r x d with| .mk o d=>(match o with| .norm=>b r (.loop x) d|o=> .mk o d)| .fail=> .fail)=Res.mk o d'
  cases hx:a r x d with
  |fail=>rw[hx] at e';cases e'
  |mk o2 d2=>
   rw[hx] at e'
   rw[h _ _ _ _ _ hx]
   cases o2 with
   |norm=>exact h _ _ _ _ _ e'
   |_=>exact e'
 |rangeFunc f ps x y=>
  obtain ⟨t,dfs,ctx,m⟩:=d
  have e':(match ρ t f with
   |some (.fn f cap)=>(match (generalizing:=false) r with
    |none=>m.new (.defd true) fun q m=>bB P S a f cap ps x y t (.mark q::dfs) ctx m
    |some l=>(match m.get l with
     |some (.loop ..)=>bB P S a f cap ps x y t dfs ctx m
     |_=> .fail))
   |_=> .fail)=Res.mk o d':=e
  show (match ρ t f with
   |some (.fn f cap)=>(match (generalizing:=false) r with
    |none=>m.new (.defd true) fun q m=>bB P S b f cap ps x y t (.mark q::dfs) ctx m
    |some l=>(match m.get l with
     |some (.loop ..)=>bB P S b f cap ps x y t dfs ctx m
     |_=> .fail))
   |_=> .fail)=Res.mk o d'
  cases hf:ρ t f with
  |none=>rw[hf] at e';cases e'
  |some v=>
   rw[hf] at e'
   cases v with
   |fn f cap=>
    dsimp only at e' ⊢
    cases r with
    |none=>
     dsimp only at e' ⊢
     rw[NH.new_eq] at e' ⊢
     exact gy h e'
    |some l=>
     dsimp only at e' ⊢
     split at e'
     ·exact gy h e'
     ·cases e'
   |_=>cases e'
 |exit id=>exact e
 |ret=>exact e
theorem vS:∀n,Le (ev P S n) (ev P S (n+1)):=by
 intro n
 induction n with
 |zero=>intro r c d o d' e;cases e
 |succ n ih=>exact oC ih
theorem bA {n m:Nat} (hnm:n<=m):Le (ev P S n) (ev P S m):=by
 induction m with
 |zero=>
  have:n=0:=by omega
  subst this;exact fun _ _ _ _ _ e=>e
 |succ m ih=>
  by_cases h:n=m+1
  ·subst h;exact fun _ _ _ _ _ e=>e
  ·exact fun r c d o d' e=>vS m r c d o d' (ih (by omega) r c d o d' e)
end
def cI (P:Program) (S:bE) (r:Option D4) (c:NC) (d:Dyn) (o:Out) (d':Dyn):Prop:=∃n,ev P S n r c d= .mk o d'
def Call (P:Program) (S:bE) (f:Nat) (l:List NV) (m:NH) (x:CR):Prop:=x≠.fail/\∃n,br P S (ev P S n) f l m=x
def fL (P:Program) (S:bE) (r:Option D4) (l:List NOper) (d:Dyn) (o:Out) (d':Dyn):Prop:=∃n,bS P S (ev P S n) r l d= .mk o d'
section
variable {P:Program} {S:bE} {r:Option D4}
theorem cI.skip (d:Dyn):cI P S r .skip d .norm d:=⟨1,rfl⟩
theorem cI.ret (d:Dyn):cI P S r .ret d .ret d:=⟨1,rfl⟩
theorem cI.exit (id:Nat) (d:Dyn):cI P S r (.exit id) d (.exit id) d:=⟨1,rfl⟩
theorem cI.seq {x y:NC} {d d1 d2:Dyn} {o:Out} (hx:cI P S r x d .norm d1) (hy:cI P S r y d1 o d2):cI P S r (.seq x y) d o d2:=by
 obtain ⟨n,hn⟩:=hx
 obtain ⟨m,hm⟩:=hy
 refine ⟨max n m+1, ?_⟩
 refine og.trans ?_
 show (match ev P S (max n m) r x d with| .mk o d=>(match o with| .norm=>ev P S (max n m) r y d|o=> .mk o d)| .fail=> .fail)=Res.mk o d2
 rw[bA (Nat.le_max_left n m) _ _ _ _ _ hn]
 exact bA (Nat.le_max_right n m) _ _ _ _ _ hm
theorem cI.seq_out {x y:NC} {d d1:Dyn} {o:Out} (hx:cI P S r x d o d1) (ho:o≠.norm):cI P S r (.seq x y) d o d1:=by
 obtain ⟨n,hn⟩:=hx
 refine ⟨n+1, ?_⟩
 refine og.trans ?_
 show (match ev P S n r x d with| .mk o d=>(match o with| .norm=>ev P S n r y d|o=> .mk o d)| .fail=> .fail)=Res.mk o d1
 rw[hn]
 cases o<;>first|rfl|exact EB rfl ho
theorem cI.cond {g:NOpd} {q:Bool} {x y:NC} {d d1:Dyn} {o:Out} (hg:ρ d.t g=some (.bool q)) (h:cI P S r (if q then x else y) d o d1):cI P S r (.cond g x y) d o d1:=by
 obtain ⟨n,hn⟩:=h
 refine ⟨n+1, ?_⟩
 refine qj.trans ?_
 show (match ρ d.t g with|some (.bool c)=>(Bool.rec (ev P S n r y d) (ev P S n r x d) c:Res)|_=> .fail)=Res.mk o d1
 rw[hg]
 cases q<;>exact hn
theorem cI.block {id:Nat} {x:NC} {d d1:Dyn} {o:Out} (h:cI P S r x d o d1):cI P S r (.block id x) d (match o with| .exit i=>_root_.cond (Nat.beq i id) .norm (.exit i)|o=>o) d1:=by
 obtain ⟨n,hn⟩:=h
 refine ⟨n+1, ?_⟩
 refine mR.trans ?_
 show (match ev P S n r x d with| .mk o d=>(match o with| .exit i=>_root_.cond (Nat.beq i id) (Res.mk .norm d) (Res.mk (.exit i) d)|o=>Res.mk o d)| .fail=>Res.fail)=_
 rw[hn]
 cases o with
 |exit i=>dsimp only;cases Nat.beq i id<;>rfl
 |_=>rfl
theorem cI.loop {x:NC} {d d1 d2:Dyn} {o:Out} (hx:cI P S r x d .norm d1) (hy:cI P S r (.loop x) d1 o d2):cI P S r (.loop x) d o d2:=by
 obtain ⟨n,hn⟩:=hx
 obtain ⟨m,hm⟩:=hy
 refine ⟨max n m+1, ?_⟩
 refine lQ.trans ?_
 show (match ev P S (max n m) r x d with| .mk o d=>(match o with| .norm=>ev P S (max n m) r (.loop x) d|o=> .mk o d)| .fail=> .fail)=Res.mk o d2
 rw[bA (Nat.le_max_left n m) _ _ _ _ _ hn]
 exact bA (Nat.le_max_right n m) _ _ _ _ _ hm
theorem cI.loop_out {x:NC} {d d1:Dyn} {o:Out} (hx:cI P S r x d o d1) (ho:o≠.norm):cI P S r (.loop x) d o d1:=by
 obtain ⟨n,hn⟩:=hx
 refine ⟨n+1, ?_⟩
 refine lQ.trans ?_
 show (match ev P S n r x d with| .mk o d=>(match o with| .norm=>ev P S n r (.loop x) d|o=> .mk o d)| .fail=> .fail)=Res.mk o d1
 rw[hn]
 cases o<;>first|rfl|exact EB rfl ho
theorem cI.reg {l:List NOper} {d d1:Dyn} {o:Out} (h:fL P S r l d o d1):cI P S r (.reg l) d o d1:=by
 obtain ⟨n,hn⟩:=h
 exact ⟨n+1,hn⟩
theorem fL.nil (d:Dyn):fL P S r [] d .norm d:=⟨0,rfl⟩
theorem fL.val {x:NOper} {l:List NOper} {t:Tm} {dfs:List Dfr} {ctx:Option NV} {m:NH} {o:Out} {d1:Dyn} {v:NV} (hg:am t x.guard=some true) (hop:ab x.op t m= .val v)
 (h:fL P S r l ⟨ay x.dst v t,dfs,ctx,m⟩ o d1):fL P S r (x::l) ⟨t,dfs,ctx,m⟩ o d1:=by
 obtain ⟨n,hn⟩:=h
 refine ⟨n, ?_⟩
 rw[bv,hg,hop]
 exact hn
theorem fL.mem {x:NOper} {l:List NOper} {t:Tm} {dfs:List Dfr} {ctx:Option NV} {m m':NH} {o:Out} {d1:Dyn} {v:NV} (hg:am t x.guard=some true) (hop:ab x.op t m= .mem v m')
 (h:fL P S r l ⟨ay x.dst v t,dfs,ctx,m'⟩ o d1):fL P S r (x::l) ⟨t,dfs,ctx,m⟩ o d1:=by
 obtain ⟨n,hn⟩:=h
 refine ⟨n, ?_⟩
 rw[bv,hg,hop]
 exact hn
theorem fL.off {x:NOper} {l:List NOper} {t:Tm} {dfs:List Dfr} {ctx:Option NV} {m:NH} {o:Out} {d1:Dyn} (hg:am t x.guard=some false)
 (h:fL P S r l ⟨ay x.dst aH t,dfs,ctx,m⟩ o d1):fL P S r (x::l) ⟨t,dfs,ctx,m⟩ o d1:=by
 obtain ⟨n,hn⟩:=h
 refine ⟨n, ?_⟩
 rw[bv,hg]
 exact hn
theorem fL.call {x:NOper} {l:List NOper} {t:Tm} {dfs:List Dfr} {ctx:Option NV} {m m':NH} {o:Out} {d1:Dyn} {f:Nat} {args:List NV} {v:NV} {c:Option NV} (hg:am t x.guard=some true) (hop:ab x.op t m= .call f args)
 (hc:Call P S f args m (.val v c m')) (h:fL P S r l ⟨ay x.dst v t,dfs,ctx,m'⟩ o d1):fL P S r (x::l) ⟨t,dfs,ctx,m⟩ o d1:=by
 obtain ⟨n,hn⟩:=h
 obtain ⟨hne,k,hk⟩:=hc
 refine ⟨max n k, ?_⟩
 rw[bv,hg,hop]
 show pf x.dst (bS P S (ev P S (max n k)) r l) t dfs ctx (nT dfs ctx (br P S (ev P S (max n k)) f args m))=_
 rw[cn (bA (Nat.le_max_right n k)) hk hne]
 exact fg (bA (Nat.le_max_left n k)) _ _ _ _ hn
theorem Call.of_run {f:Nat} {nf:NFun} (hs:∀l,S f l=fun _=>none) (hf:ak P f=some (.code nf)) {args:List NV} {m:NH} {o:Out} {d:Dyn} (ho:o= .norm∨o= .ret) (h:cI P S none nf.body ⟨cV args 0 .leaf, [],none,m⟩ o d) (hd:d.dfs= [])
 {x:CR} (hx:cg d.h d.t nf.results .fail (fun l=> .val (iZ l) d.ctx d.h)=x) (hne:x≠.fail):Call P S f args m x:=by
 obtain ⟨n,hn⟩:=h
 refine ⟨hne,n, ?_⟩
 unfold br
 rw[hs]
 dsimp only
 rw[hf]
 dsimp only
 rw[dw,hf]
 dsimp only
 rw[hn]
 rcases ho with rfl|rfl<;>(dsimp only;rw[hd];exact hx)
variable [Val] in
theorem uR (hM:P.follows .mixedOrders=true) (hP:P.check= .ok ()) (hS:cQ P S) {f:Nat} {args:List NV} {m m':NH} {v:NV} {c:Option NV} {nf:NFun} (hf:ak P f=some (.code nf)) (hs:S f args=fun _=>none) (hc:Call P S f args m (.val v c m'))
 {ι:az} {w:World} (hR:Rel P ι w.heap.size m w) (hlive:∀i p,ι i=some p->¬Live (m.get i)) {args':List Value} (ha:VRL ι args args'):
 Calls P f args'.toArray w fun e w'=>(∃ι' v',e= .returned v'/\VR ι' v v'/\ι.le ι'/\Rel P ι' w.heap.size m' w')/\Below w.heap.size w w':=by
 intro cs
 obtain ⟨_,n,hn⟩:=hc
 have hn':b7 P (ev P S n) 3 f args none m= .val v c m':=by
  unfold br at hn
  rw[hs] at hn
  dsimp only at hn
  rw[hf] at hn
  exact hn
 obtain ⟨hO,_⟩:=kj hM (gO hP) hS n
 have hD:=eW (gO hP) hO 3 f args none m
 obtain ⟨_,hF⟩:=hD (by rw[hn'];simp)
 have hF:=hF w.heap.size ι w args' .normal cs hR (Nat.le_refl _) ha (fun b hb=>by unfold tryRecover;rw[hb])
 rw[hn'] at hF
 obtain ⟨ι',v',w',cs',fr,f1,f2,f3,f4,f5,f6,f7,f8,f9⟩:=hF
 obtain ⟨rfl,_⟩:=f5.none
 refine ⟨.returned v',w',fr,⟨⟨ι',v',rfl,f1,f4.le,f2⟩,⟨f4.os,f4.tape,f4.output,f4.size,fun k hk=>f4.frame k hk fun i p hi hl=>EB hl (hlive i p hi)⟩⟩,f6,f8,cF f7 f9⟩
end
end Nm
namespace Nm
open Go Go.RowKit
noncomputable def aK:List (D4×NV)->Tm->Tm
 | [],t=>t
 |p::l,t=>NT.put p.1 p.2 (aK l t)
noncomputable def eC (k:D4):List (D4×NV)->Option NV->Option NV
 | [],d=>d
 |p::l,d=>cond (aT k p.1) (some p.2) (eC k l d)
theorem jp (k:D4):aT k k=true:=by
 induction k with
 |e=>rfl
 |a d ih=>exact ih
 |b d ih=>exact ih
 |c d ih=>exact ih
 |f d ih=>exact ih
theorem g6 (k:D4) (l:List (D4×NV)) (t:Tm):NT.get k (aK l t)=eC k l (NT.get k t):=by
 induction l with
 |nil=>rfl
 |cons p l ih=>
  show NT.get k (NT.put p.1 p.2 (aK l t))=cond (aT k p.1) (some p.2) (eC k l (NT.get k t))
  cases h:aT k p.1 with
  |true=>rw[eK h,NT.get_put_same];rfl
  |false=>
   have hne:k≠p.1:=fun e=>by rw[e,jp] at h;cases h
   rw[NT.get_put_ne hne,ih];rfl
def be (P:Program) (S:bE) (r:Option D4) (l:List NOper) (hs:List (Nat×NH)) (rs:List (Nat×(NH->NR)×NV)) (d:Dyn) (o:Out) (d':Dyn):Prop:=∃n,bm P S (ev P S n) r l hs rs d= .mk o d'
section
variable {P:Program} {S:bE} {r:Option D4} {x:NOper} {l:List NOper} {hs:List (Nat×NH)} {rs:List (Nat×(NH->NR)×NV)} {t:Tm} {dfs:List Dfr} {ctx:Option NV} {m m':NH} {o:Out} {d d1:Dyn} {v:NV}
theorem cI.regD (h:be P S r l [] [] d .norm d1):cI P S r (.regD l) d .norm d1:=by
 obtain ⟨n,hn⟩:=h
 refine ⟨n+1, ?_⟩
 show (match bm P S (ev P S n) r l [] [] d with| .mk (.pan v) d=>Res.mk (.pan v) ⟨gF l d.t,d.dfs,d.ctx,d.h⟩|r=>r)=_
 rw[hn]
theorem be.nil (d:Dyn):be P S r [] hs rs d .norm d:=⟨0,rfl⟩
theorem be.off (hg:am t x.guard=some false) (h:be P S r l hs rs ⟨ay x.dst aH t,dfs,ctx,m⟩ o d1):be P S r (x::l) hs rs ⟨t,dfs,ctx,m⟩ o d1:=by
 obtain ⟨n,hn⟩:=h
 exact ⟨n,by rw[bq,hg];exact hn⟩
theorem be.pure (hg:am t x.guard=some true) (hc:aj x.op= .pure) (hop:ab x.op t m= .val v) (h:be P S r l hs rs ⟨ay x.dst v t,dfs,ctx,m⟩ o d1):be P S r (x::l) hs rs ⟨t,dfs,ctx,m⟩ o d1:=by
 obtain ⟨n,hn⟩:=h
 exact ⟨n,by rw[bq,hg];dsimp only;rw[hc];dsimp only;rw[hop];exact hn⟩
theorem be.alloc (hg:am t x.guard=some true) (hc:aj x.op= .alloc) (ha:ahead x.pre hs=true) (hop:ab x.op t m= .mem v m') (h:be P S r l hs rs ⟨ay x.dst v t,dfs,ctx,m'⟩ o d1):be P S r (x::l) hs rs ⟨t,dfs,ctx,m⟩ o d1:=by
 obtain ⟨n,hn⟩:=h
 exact ⟨n,by rw[bq,hg];dsimp only;rw[hc];dsimp only;rw[ha,hop];exact hn⟩
theorem be.read (hg:am t x.guard=some true) (hc:aj x.op= .read) (hop:ab x.op t m= .val v) (ha:cd x.pre (ab x.op t) v hs=true)
 (h:be P S r l hs ((x.idx,ab x.op t,v)::rs) ⟨ay x.dst v t,dfs,ctx,m⟩ o d1):be P S r (x::l) hs rs ⟨t,dfs,ctx,m⟩ o d1:=by
 obtain ⟨n,hn⟩:=h
 exact ⟨n,by rw[bq,hg];dsimp only;rw[hc];dsimp only;rw[hop];dsimp only;rw[ha];exact hn⟩
theorem be.eff (hg:am t x.guard=some true) (hc:aj x.op= .eff) (ha:ahead x.pre hs=true) (hop:ab x.op t m= .mem v m') (hst:aO x.pre m' rs=true)
 (h:be P S r l ((x.idx,m)::hs) rs ⟨ay x.dst v t,dfs,ctx,m'⟩ .norm d1):be P S r (x::l) hs rs ⟨t,dfs,ctx,m⟩ .norm d1:=by
 obtain ⟨n,hn⟩:=h
 refine ⟨n, ?_⟩
 rw[bq,hg];dsimp only;rw[hc];dsimp only;rw[ha,hop]
 show b8 (a7 x.idx l) (cond (aO x.pre m' rs) (bm P S (ev P S n) r l ((x.idx,m)::hs) rs ⟨ay x.dst v t,dfs,ctx,m'⟩) .fail)=_
 rw[hst]
 show b8 (a7 x.idx l) (bm P S (ev P S n) r l ((x.idx,m)::hs) rs ⟨ay x.dst v t,dfs,ctx,m'⟩)=_
 rw[hn];rfl
theorem be.effv (hg:am t x.guard=some true) (hc:aj x.op= .eff) (ha:ahead x.pre hs=true) (hop:ab x.op t m= .val v) (hst:aO x.pre m rs=true)
 (h:be P S r l ((x.idx,m)::hs) rs ⟨ay x.dst v t,dfs,ctx,m⟩ .norm d1):be P S r (x::l) hs rs ⟨t,dfs,ctx,m⟩ .norm d1:=by
 obtain ⟨n,hn⟩:=h
 refine ⟨n, ?_⟩
 rw[bq,hg];dsimp only;rw[hc];dsimp only;rw[ha,hop]
 show b8 (a7 x.idx l) (cond (aO x.pre m rs) (bm P S (ev P S n) r l ((x.idx,m)::hs) rs ⟨ay x.dst v t,dfs,ctx,m⟩) .fail)=_
 rw[hst]
 show b8 (a7 x.idx l) (bm P S (ev P S n) r l ((x.idx,m)::hs) rs ⟨ay x.dst v t,dfs,ctx,m⟩)=_
 rw[hn];rfl
theorem be.call {f:Nat} {args:List NV} {c:Option NV} (hg:am t x.guard=some true) (hc:aj x.op= .eff) (ha:ahead x.pre hs=true) (hop:ab x.op t m= .call f args) (hcall:Call P S f args m (.val v c m')) (hst:aO x.pre m' rs=true)
 (h:be P S r l ((x.idx,m)::hs) rs ⟨ay x.dst v t,dfs,ctx,m'⟩ .norm d1):be P S r (x::l) hs rs ⟨t,dfs,ctx,m⟩ .norm d1:=by
 obtain ⟨n,hn⟩:=h
 obtain ⟨hne,k,hk⟩:=hcall
 refine ⟨max n k, ?_⟩
 rw[bq,hg];dsimp only;rw[hc];dsimp only;rw[ha,hop]
 show b8 (a7 x.idx l) (pf x.dst (fun d=>cond (aO x.pre d.h rs) (bm P S (ev P S (max n k)) r l ((x.idx,m)::hs) rs d) .fail) t dfs ctx (nT dfs ctx (br P S (ev P S (max n k)) f args m)))=_
 rw[cn (bA (Nat.le_max_right n k)) hk hne]
 show b8 (a7 x.idx l) (cond (aO x.pre m' rs) (bm P S (ev P S (max n k)) r l ((x.idx,m)::hs) rs ⟨ay x.dst v t,dfs,ctx,m'⟩) .fail)=_
 rw[hst]
 show b8 (a7 x.idx l) (bm P S (ev P S (max n k)) r l ((x.idx,m)::hs) rs ⟨ay x.dst v t,dfs,ctx,m'⟩)=_
 rw[iu (bA (Nat.le_max_left n k)) _ _ _ _ _ _ hn];rfl
end
def yA (P:Program) (S:bE) (l:D4) (args:List NV) (m:NH) (x:CR):Prop:=x≠.fail/\∃n,round (ev P S n) l args m=x
section
variable {P:Program} {S:bE} {r:Option D4} {x:NOper} {l:List NOper} {hs:List (Nat×NH)} {rs:List (Nat×(NH->NR)×NV)} {t:Tm} {dfs:List Dfr} {ctx:Option NV} {m m':NH} {o:Out} {d1:Dyn} {v:NV} {q:D4} {args:List NV} {c:Option NV}
theorem fL.yld (hg:am t x.guard=some true) (hop:ab x.op t m= .yld q args) (hc:yA P S q args m (.val v c m')) (h:fL P S r l ⟨ay x.dst v t,dfs,ctx,m'⟩ o d1):fL P S r (x::l) ⟨t,dfs,ctx,m⟩ o d1:=by
 obtain ⟨n,hn⟩:=h
 obtain ⟨hne,k,hk⟩:=hc
 refine ⟨max n k, ?_⟩
 rw[bv,hg,hop]
 show pf x.dst (bS P S (ev P S (max n k)) r l) t dfs ctx (nT dfs ctx (round (ev P S (max n k)) q args m))=_
 rw[fX (bA (Nat.le_max_right n k)) hk hne]
 exact fg (bA (Nat.le_max_left n k)) _ _ _ _ hn
theorem be.yld (hg:am t x.guard=some true) (hc:aj x.op= .eff) (ha:ahead x.pre hs=true) (hop:ab x.op t m= .yld q args) (hcall:yA P S q args m (.val v c m')) (hst:aO x.pre m' rs=true)
 (h:be P S r l ((x.idx,m)::hs) rs ⟨ay x.dst v t,dfs,ctx,m'⟩ .norm d1):be P S r (x::l) hs rs ⟨t,dfs,ctx,m⟩ .norm d1:=by
 obtain ⟨n,hn⟩:=h
 obtain ⟨hne,k,hk⟩:=hcall
 refine ⟨max n k, ?_⟩
 rw[bq,hg];dsimp only;rw[hc];dsimp only;rw[ha,hop]
 show b8 (a7 x.idx l) (pf x.dst (fun d=>cond (aO x.pre d.h rs) (bm P S (ev P S (max n k)) r l ((x.idx,m)::hs) rs d) .fail) t dfs ctx (nT dfs ctx (round (ev P S (max n k)) q args m)))=_
 rw[fX (bA (Nat.le_max_right n k)) hk hne]
 show b8 (a7 x.idx l) (cond (aO x.pre m' rs) (bm P S (ev P S (max n k)) r l ((x.idx,m)::hs) rs ⟨ay x.dst v t,dfs,ctx,m'⟩) .fail)=_
 rw[hst]
 show b8 (a7 x.idx l) (bm P S (ev P S (max n k)) r l ((x.idx,m)::hs) rs ⟨ay x.dst v t,dfs,ctx,m'⟩)=_
 rw[iu (bA (Nat.le_max_left n k)) _ _ _ _ _ _ hn];rfl
end
section
variable {P:Program} {S:bE} {r:Option D4} {x:NOper} {l:List NOper} {hs:List (Nat×NH)} {rs:List (Nat×(NH->NR)×NV)} {L:List (D4×NV)} {t:Tm} {dfs:List Dfr} {ctx:Option NV} {m m':NH} {o:Out} {d1:Dyn} {v:NV} {k:D4}
theorem be.p (hd:x.dst=some k) (hg:am (aK L t) x.guard=some true) (hc:aj x.op= .pure) (hop:ab x.op (aK L t) m= .val v) (h:be P S r l hs rs ⟨aK ((k,v)::L) t,dfs,ctx,m⟩ o d1):be P S r (x::l) hs rs ⟨aK L t,dfs,ctx,m⟩ o d1:=
 be.pure hg hc hop (by rw[hd];exact h)
theorem be.e (hd:x.dst=some k) (hg:am (aK L t) x.guard=some true) (hc:aj x.op= .eff) (ha:ahead x.pre hs=true) (hop:ab x.op (aK L t) m= .mem v m') (hst:aO x.pre m' rs=true)
 (h:be P S r l ((x.idx,m)::hs) rs ⟨aK ((k,v)::L) t,dfs,ctx,m'⟩ .norm d1):be P S r (x::l) hs rs ⟨aK L t,dfs,ctx,m⟩ .norm d1:=
 be.eff hg hc ha hop hst (by rw[hd];exact h)
theorem be.c {f:Nat} {args:List NV} {c:Option NV} (hd:x.dst=some k) (hg:am (aK L t) x.guard=some true) (hc:aj x.op= .eff) (ha:ahead x.pre hs=true) (hop:ab x.op (aK L t) m= .call f args) (hcall:Call P S f args m (.val v c m')) (hst:aO x.pre m' rs=true)
 (h:be P S r l ((x.idx,m)::hs) rs ⟨aK ((k,v)::L) t,dfs,ctx,m'⟩ .norm d1):be P S r (x::l) hs rs ⟨aK L t,dfs,ctx,m⟩ .norm d1:=
 be.call hg hc ha hop hcall hst (by rw[hd];exact h)
end
section
variable {t:Tm} {m:NH}
theorem ry {op:BinOp} {k:IntKind} {a b:Int} (h:bR op=false):dP .num op (.int k (.lit a)) (.int k (.lit b))=bf op k a b:=by
 show cond (bR op) (bf op k a b) (cond (eg k k) (bf op k a b) none)=_
 rw[show eg k k=true by cases k<;>rfl,h];rfl
theorem Bw {k:IntKind} {a b:Int}:dP .num .lss (.int k (.lit a)) (.int k (.lit b))=some (.bool (decide (a<b))):=
 (ry rfl).trans (by show aP (fJ a b)=_;rw[bx,aC])
theorem AG {k:IntKind} {a b:Int}:dP .num .gtr (.int k (.lit a)) (.int k (.lit b))=some (.bool (decide (b<a))):=
 (ry rfl).trans (by show aP (fJ b a)=_;rw[bx,aC])
theorem B5 {k:IntKind} {a b:Int}:dP .num .geq (.int k (.lit a)) (.int k (.lit b))=some (.bool (decide (b<=a))):=
 (ry rfl).trans (by show aP (g8 b a)=_;rw[bD,aC])
theorem Bx {k:IntKind} {a b:Int}:dP .num .eql (.int k (.lit a)) (.int k (.lit b))=some (.bool (decide (a=b))):=
 (ry rfl).trans (by show aP (fF a b)=_;rw[bp,aC];rfl)
theorem wrap_small {n:Int} (h:-9223372036854775808<=n) (h':n<9223372036854775808):bz .i64 n=n:=by
 cases n with
 |ofNat m=>
  show cond (Nat.ble (Nat.succ m) 9223372036854775808) (Int.ofNat m) _=_
  rw[Nat.ble_eq_true_of_le (by have:(m:Int)<9223372036854775808:=h';omega)];rfl
 |negSucc m=>
  show cond (Nat.ble (Nat.succ m) 9223372036854775808) (Int.negSucc m) _=_
  rw[Nat.ble_eq_true_of_le (by have:-9223372036854775808<=Int.negSucc m:=h;omega)];rfl
theorem Cv {a b:Int} (h:-9223372036854775808<=a+b) (h':a+b<9223372036854775808):dP .num .add (.int .i64 (.lit a)) (.int .i64 (.lit b))=some (.int .i64 (.lit (a+b))):=by
 refine (ry rfl).trans ?_
 show bJ .i64 (bz .i64 (mB a b))=_
 have e:mB a b=a+b:=by cases a<;>cases b<;>rfl
 rw[e,wrap_small h h']
 exact bY _ _
end
end Nm
namespace Nm
open Go Go.RowKit
section
variable {P:Program} {S:bE} {r:Option D4}
theorem fL.callp {x:NOper} {l:List NOper} {t:Tm} {dfs:List Dfr} {ctx:Option NV} {m m':NH} {f:Nat} {args:List NV} {v:NV} {c:Option NV} (hg:am t x.guard=some true) (hop:ab x.op t m= .call f args)
 (hc:Call P S f args m (.pan v c m')):fL P S r (x::l) ⟨t,dfs,ctx,m⟩ (.pan v) ⟨t,dfs,ctx,m'⟩:=by
 obtain ⟨hne,k,hk⟩:=hc
 refine ⟨k, ?_⟩
 rw[bv,hg,hop]
 show pf x.dst (bS P S (ev P S k) r l) t dfs ctx (nT dfs ctx (br P S (ev P S k) f args m))=_
 rw[hk];rfl
theorem cI.regDp {l:List NOper} {d d1:Dyn} {v:NV} (h:be P S r l [] [] d (.pan v) d1):cI P S r (.regD l) d (.pan v) ⟨gF l d1.t,d1.dfs,d1.ctx,d1.h⟩:=by
 obtain ⟨n,hn⟩:=h
 refine ⟨n+1, ?_⟩
 show (match bm P S (ev P S n) r l [] [] d with| .mk (.pan v) d=>Res.mk (.pan v) ⟨gF l d.t,d.dfs,d.ctx,d.h⟩|r=>r)=_
 rw[hn]
theorem be.callp {x:NOper} {l:List NOper} {rs:List (Nat×(NH->NR)×NV)} {t:Tm} {dfs:List Dfr} {ctx:Option NV} {m m':NH} {f:Nat} {args:List NV} {v:NV} {c:Option NV} (hg:am t x.guard=some true) (hc:aj x.op= .eff) (hop:ab x.op t m= .call f args)
 (hb:a7 x.idx l=true) (hcall:Call P S f args m (.pan v c m')):be P S r (x::l) [] rs ⟨t,dfs,ctx,m⟩ (.pan v) ⟨t,dfs,ctx,m'⟩:=by
 obtain ⟨hne,k,hk⟩:=hcall
 refine ⟨k, ?_⟩
 rw[bq,hg];dsimp only;rw[hc];dsimp only;rw[hop]
 rw[show ahead x.pre []=true from rfl]
 show b8 (a7 x.idx l) (pf x.dst (fun d=>cond (aO x.pre d.h rs) (bm P S (ev P S k) r l ((x.idx,m):: []) rs d) .fail) t dfs ctx (nT dfs ctx (br P S (ev P S k) f args m)))=_
 rw[hk,hb];rfl
theorem fL.pan {x:NOper} {l:List NOper} {t:Tm} {dfs:List Dfr} {ctx:Option NV} {m:NH} {v:NV} (hg:am t x.guard=some true) (hop:ab x.op t m= .pan v):fL P S r (x::l) ⟨t,dfs,ctx,m⟩ (.pan v) ⟨t,dfs,ctx,m⟩:=by
 refine ⟨0, ?_⟩
 rw[bv,hg,hop];rfl
end
structure PE where
 p:Program
 E:NV->NH->Prop
instance:Coe Program PE:=⟨fun P=>⟨P,fun _ _=>False⟩⟩
def WF (P:PE) (S:bE) (f:Nat) (args:List NV) (m:NH) (K:NV->NH->Prop):Prop:=(∃v c m',Call P.p S f args m (.val v c m')/\K v m')∨∃v c m',Call P.p S f args m (.pan v c m')/\P.E v m'
def qE (P:PE) (Q:Out->Dyn->Prop) (o:Out) (d:Dyn):Prop:=match o with| .pan v=>d.dfs= []/\P.E v d.h|o=>Q o d
def qN (P:PE) (K:Dyn->Prop) (o:Out) (d:Dyn):Prop:=match o with| .norm=>K d| .pan v=>d.dfs= []/\P.E v d.h|_=>False
def jR (K:Dyn->Prop) (Q:Out->Dyn->Prop) (o:Out) (d:Dyn):Prop:=match o with| .norm=>K d|o=>Q o d
def je (i:Nat) (Q:Out->Dyn->Prop) (o:Out) (d:Dyn):Prop:=match o with| .exit j=>Q (if j=i then .norm else .exit j) d|o=>Q o d
def wB (o:Option NV) (A B:Prop):Prop:=match o with|some (.bool q)=>(q=true->A)/\(q=false->B)|_=>False
section
variable (P:PE) (S:bE) (r:Option D4)
def W (c:NC) (d:Dyn) (Q:Out->Dyn->Prop):Prop:=∃o d',cI P.p S r c d o d'/\qE P Q o d'
def wN (dst:Option D4) (t:Tm) (dfs:List Dfr) (ctx:Option NV) (m:NH) (x:NR) (K:Dyn->Prop):Prop:=match x with
 | .val v=>K ⟨ay dst v t,dfs,ctx,m⟩
 | .mem v m'=>K ⟨ay dst v t,dfs,ctx,m'⟩
 | .call f args=>(match dfs with| []=>WF P S f args m fun v m'=>K ⟨ay dst v t, [],ctx,m'⟩|x::l=>WF P.p S f args m fun v m'=>K ⟨ay dst v t,x::l,ctx,m'⟩)
 | .yld q args=>∃v c m',yA P.p S q args m (.val v c m')/\K ⟨ay dst v t,dfs,ctx,m'⟩
 | .pan v=>(match dfs with| []=>P.E v m|_=>False)
 |_=>False
def CL (dst:Option D4) (t:Tm) (dfs:List Dfr) (ctx:Option NV) (m:NH) (x:NR) (K:Dyn->Prop):Prop:=match x with
 | .val v=>K ⟨ay dst v t,dfs,ctx,m⟩
 | .mem v m'=>K ⟨ay dst v t,dfs,ctx,m'⟩
 | .call f args=>WF P.p S f args m fun v m'=>K ⟨ay dst v t,dfs,ctx,m'⟩
 | .yld q args=>∃v c m',yA P.p S q args m (.val v c m')/\K ⟨ay dst v t,dfs,ctx,m'⟩
 |_=>False
noncomputable def kT (hs:List (Nat×NH)) (i:Nat) (l:List NOper):Bool:=match hs with| []=>a7 i l|_=>false
def Dz (b:Bool) (dst:Option D4) (t:Tm) (dfs:List Dfr) (ctx:Option NV) (m:NH) (x:NR) (K:Dyn->Prop):Prop:=match b,x with
 |true,.call f args=>wN P S dst t dfs ctx m (.call f args) K
 |_,x=>CL P S dst t dfs ctx m x K
def wO:List NOper->Dyn->(Dyn->Prop)->Prop
 | [],d,K=>K d
 |x::l,d,K=>match am d.t x.guard with
  |some true=>wN P S x.dst d.t d.dfs d.ctx d.h (ab x.op d.t d.h) fun d=>wO l d K
  |some false=>wO l ⟨ay x.dst aH d.t,d.dfs,d.ctx,d.h⟩ K
  |none=>False
def wD:List NOper->List (Nat×NH)->List (Nat×(NH->NR)×NV)->Dyn->(Dyn->Prop)->Prop
 | [],_,_,d,K=>K d
 |x::l,hs,rs,d,K=>match am d.t x.guard with
  |some true=>(match aj x.op with
   | .pure=>(match ab x.op d.t d.h with| .val v=>wD l hs rs ⟨ay x.dst v d.t,d.dfs,d.ctx,d.h⟩ K|_=>False)
   | .alloc=>ahead x.pre hs=true/\(match ab x.op d.t d.h with| .mem v m'=>wD l hs rs ⟨ay x.dst v d.t,d.dfs,d.ctx,m'⟩ K|_=>False)
   | .read=>(match ab x.op d.t d.h with| .val v=>cd x.pre (ab x.op d.t) v hs=true/\wD l hs ((x.idx,ab x.op d.t,v)::rs) ⟨ay x.dst v d.t,d.dfs,d.ctx,d.h⟩ K|_=>False)
   | .eff=>ahead x.pre hs=true/\Dz P S (kT hs x.idx l) x.dst d.t d.dfs d.ctx d.h (ab x.op d.t d.h) fun d'=>aO x.pre d'.h rs=true/\wD l ((x.idx,d.h)::hs) rs d' K)
  |some false=>wD l hs rs ⟨ay x.dst aH d.t,d.dfs,d.ctx,d.h⟩ K
  |none=>False
def wp:NC->Dyn->(Out->Dyn->Prop)->Prop
 | .skip,d,Q=>Q .norm d
 | .ret,d,Q=>Q .ret d
 | .exit i,d,Q=>Q (.exit i) d
 | .seq a b,d,Q=>wp a d (jR (fun d=>wp b d Q) Q)
 | .cond g a b,d,Q=>wB (ρ d.t g) (wp a d Q) (wp b d Q)
 | .block i a,d,Q=>wp a d (je i Q)
 | .reg l,d,Q=>wO P S l d (Q .norm)
 | .regD l,d,Q=>wD P S l [] [] d (Q .norm)
 | .loop a,d,Q=>W P S r (.loop a) d Q
 | .rangeFunc f ps a b,d,Q=>W P S r (.rangeFunc f ps a b) d Q
end
section
variable {P:PE} {S:bE} {r:Option D4}
theorem WF.ret' {P:Program} {f:Nat} {args:List NV} {m:NH} {K:NV->NH->Prop} (h:WF P S f args m K):∃v c m',Call P S f args m (.val v c m')/\K v m':=by
 rcases h with h|⟨_,_,_,_,h⟩
 ·exact h
 ·exact h.elim
theorem s5:∀(l:List NOper) (d:Dyn) (K:Dyn->Prop),wO P S l d K->∃o d',fL P.p S r l d o d'/\qN P K o d':=by
 intro l
 induction l with
 |nil=>exact fun d K h=>⟨_,d,fL.nil d,h⟩
 |cons x l ih=>
  rintro ⟨t,dfs,ctx,m⟩ K h
  unfold wO at h
  dsimp only at h
  split at h
  ·rename_i hg
   cases hop:ab x.op t m with
   |val v=>rw[hop] at h;obtain ⟨o,d',h1,h2⟩:=ih _ _ h;exact ⟨o,d',fL.val hg hop h1,h2⟩
   |mem v m'=>rw[hop] at h;obtain ⟨o,d',h1,h2⟩:=ih _ _ h;exact ⟨o,d',fL.mem hg hop h1,h2⟩
   |call f args=>
    rw[hop] at h
    cases dfs with
    |nil=>
     rcases h with ⟨v,c,m',hc,h⟩|⟨v,c,m',hc,h⟩
     ·obtain ⟨o,d',h1,h2⟩:=ih _ _ h
      exact ⟨o,d',fL.call hg hop hc h1,h2⟩
     ·exact ⟨_,_,fL.callp hg hop hc,rfl,h⟩
    |cons y dfs=>
     obtain ⟨v,c,m',hc,h⟩:=WF.ret' h
     obtain ⟨o,d',h1,h2⟩:=ih _ _ h
     exact ⟨o,d',fL.call hg hop hc h1,h2⟩
   |yld q args=>
    rw[hop] at h
    obtain ⟨v,c,m',hc,h⟩:=h
    obtain ⟨o,d',h1,h2⟩:=ih _ _ h
    exact ⟨o,d',fL.yld hg hop hc h1,h2⟩
   |pan v=>
    rw[hop] at h
    cases dfs with
    |nil=>exact ⟨_,_,fL.pan hg hop,rfl,h⟩
    |cons=>exact h.elim
   |_=>rw[hop] at h;exact h.elim
  ·rename_i hg
   obtain ⟨o,d',h1,h2⟩:=ih _ _ h;exact ⟨o,d',fL.off hg h1,h2⟩
  ·exact h.elim
theorem u7:∀(l:List NOper) (hs:List (Nat×NH)) (rs:List (Nat×(NH->NR)×NV)) (d:Dyn) (K:Dyn->Prop),wD P S l hs rs d K->∃o d',be P.p S r l hs rs d o d'/\qN P K o d'/\(o= .norm∨hs= []):=by
 intro l
 induction l with
 |nil=>exact fun hs rs d K h=>⟨_,d,be.nil d,h,Or.inl rfl⟩
 |cons x l ih=>
  rintro hs rs ⟨t,dfs,ctx,m⟩ K h
  unfold wD at h
  dsimp only at h
  split at h
  ·rename_i hg
   split at h
   ·rename_i hcl
    cases hop:ab x.op t m with
    |val v=>rw[hop] at h;obtain ⟨o,d',h1,h2,h3⟩:=ih _ _ _ _ h;exact ⟨o,d',be.pure hg hcl hop h1,h2,h3⟩
    |_=>rw[hop] at h;exact h.elim
   ·rename_i hcl
    obtain ⟨ha,h⟩:=h
    cases hop:ab x.op t m with
    |mem v m'=>rw[hop] at h;obtain ⟨o,d',h1,h2,h3⟩:=ih _ _ _ _ h;exact ⟨o,d',be.alloc hg hcl ha hop h1,h2,h3⟩
    |_=>rw[hop] at h;exact h.elim
   ·rename_i hcl
    cases hop:ab x.op t m with
    |val v=>rw[hop] at h;obtain ⟨ha,h⟩:=h;obtain ⟨o,d',h1,h2,h3⟩:=ih _ _ _ _ h;exact ⟨o,d',be.read hg hcl hop ha h1,h2,h3⟩
    |_=>rw[hop] at h;exact h.elim
   ·rename_i hcl
    obtain ⟨ha,h⟩:=h
    have fin:∀{a:Nat×NH} {o:Out},o= .norm∨a::hs= []->o= .norm:=fun h=>h.elim id fun h=>by cases h
    cases hop:ab x.op t m with
    |val v=>
     rw[hop] at h
     have h:CL P S x.dst t dfs ctx m (.val v) (fun d'=>aO x.pre d'.h rs=true/\wD P S l ((x.idx,m)::hs) rs d' K):=by cases he:kT hs x.idx l<;>rw[he] at h<;>exact h
     obtain ⟨hst,h⟩:=h
     obtain ⟨o,d',h1,h2,h3⟩:=ih _ _ _ _ h
     obtain rfl:=fin h3
     exact ⟨_,d',be.effv hg hcl ha hop hst h1,h2,Or.inl rfl⟩
    |mem v m'=>
     rw[hop] at h
     have h:CL P S x.dst t dfs ctx m (.mem v m') (fun d'=>aO x.pre d'.h rs=true/\wD P S l ((x.idx,m)::hs) rs d' K):=by cases he:kT hs x.idx l<;>rw[he] at h<;>exact h
     obtain ⟨hst,h⟩:=h
     obtain ⟨o,d',h1,h2,h3⟩:=ih _ _ _ _ h
     obtain rfl:=fin h3
     exact ⟨_,d',be.eff hg hcl ha hop hst h1,h2,Or.inl rfl⟩
    |call f args=>
     rw[hop] at h
     have key:WF P.p S f args m (fun v m'=>aO x.pre m' rs=true/\wD P S l ((x.idx,m)::hs) rs ⟨ay x.dst v t,dfs,ctx,m'⟩ K)∨(hs= []/\dfs= []/\a7 x.idx l=true/\WF P S f args m (fun v m'=>aO x.pre m' rs=true/\wD P S l ((x.idx,m)::hs) rs ⟨ay x.dst v t,dfs,ctx,m'⟩ K)):=by
      cases he:kT hs x.idx l with
      |false=>rw[he] at h;exact Or.inl h
      |true=>
       rw[he] at h
       cases hs with
       |cons a hs=>cases he
       |nil=>
        cases dfs with
        |nil=>exact Or.inr ⟨rfl,rfl,he,h⟩
        |cons y dfs=>exact Or.inl h
     have go:∀{v:NV} {c:Option NV} {m':NH},Call P.p S f args m (.val v c m')->aO x.pre m' rs=true/\wD P S l ((x.idx,m)::hs) rs ⟨ay x.dst v t,dfs,ctx,m'⟩ K->∃o d',be P.p S r (x::l) hs rs ⟨t,dfs,ctx,m⟩ o d'/\qN P K o d'/\(o= .norm∨hs= []):=by
      rintro v c m' hc ⟨hst,h⟩
      obtain ⟨o,d',h1,h2,h3⟩:=ih _ _ _ _ h
      obtain rfl:=fin h3
      exact ⟨_,d',be.call hg hcl ha hop hc hst h1,h2,Or.inl rfl⟩
     rcases key with h|⟨rfl,rfl,hb,⟨v,c,m',hc,h⟩|⟨v,c,m',hc,h⟩⟩
     ·obtain ⟨v,c,m',hc,h⟩:=WF.ret' h
      exact go hc h
     ·exact go hc h
     ·exact ⟨_,_,be.callp hg hcl hop hb hc,⟨rfl,h⟩,Or.inr rfl⟩
    |yld q args=>
     rw[hop] at h
     have h:CL P S x.dst t dfs ctx m (.yld q args) (fun d'=>aO x.pre d'.h rs=true/\wD P S l ((x.idx,m)::hs) rs d' K):=by cases he:kT hs x.idx l<;>rw[he] at h<;>exact h
     obtain ⟨v,c,m',hc,hst,h⟩:=h
     obtain ⟨o,d',h1,h2,h3⟩:=ih _ _ _ _ h
     obtain rfl:=fin h3
     exact ⟨_,d',be.yld hg hcl ha hop hc hst h1,h2,Or.inl rfl⟩
    |_=>rw[hop] at h;cases he:kT hs x.idx l<;>rw[he] at h<;>exact h.elim
  ·rename_i hg
   obtain ⟨o,d',h1,h2,h3⟩:=ih _ _ _ _ h;exact ⟨o,d',be.off hg h1,h2,h3⟩
  ·exact h.elim
theorem nz:∀(c:NC) (d:Dyn) (Q:Out->Dyn->Prop),wp P S r c d Q->W P S r c d Q:=by
 intro c
 induction c with
 |skip=>exact fun d Q h=>⟨_,_,cI.skip d,h⟩
 |ret=>exact fun d Q h=>⟨_,_,cI.ret d,h⟩
 |exit i=>exact fun d Q h=>⟨_,_,cI.exit i d,h⟩
 |seq a b iha ihb=>
  intro d Q h
  obtain ⟨o,d1,h1,h2⟩:=iha _ _ h
  cases o with
  |norm=>obtain ⟨o,d2,h3,h4⟩:=ihb _ _ h2;exact ⟨o,d2,cI.seq h1 h3,h4⟩
  |_=>exact ⟨_,_,cI.seq_out h1 (by simp),h2⟩
 |cond g a b iha ihb=>
  intro d Q h
  unfold wp wB at h
  split at h
  ·rename_i q hq
   cases q with
   |true=>obtain ⟨o,d1,h1,h2⟩:=iha _ _ (h.1 rfl);exact ⟨o,d1,cI.cond hq (by simpa using h1),h2⟩
   |false=>obtain ⟨o,d1,h1,h2⟩:=ihb _ _ (h.2 rfl);exact ⟨o,d1,cI.cond hq (by simpa using h1),h2⟩
  ·exact h.elim
 |block i a iha=>
  intro d Q h
  obtain ⟨o,d1,h1,h2⟩:=iha _ _ h
  refine ⟨_,d1,cI.block h1, ?_⟩
  cases o with
  |exit j=>
   dsimp only
   change Q (if j=i then .norm else .exit j) d1 at h2
   by_cases e:j=i
   ·subst e;rw[ED rfl] at h2;rw[Nat.beq_refl];exact h2
   ·rw[EC e] at h2
    rw[show Nat.beq j i=false from by cases hb:Nat.beq j i with|false=>rfl|true=>exact EB (EG hb) e];exact h2
  |_=>exact h2
 |reg l=>
  intro d Q h
  obtain ⟨o,d',h1,h2⟩:=s5 (r:=r) _ _ _ h
  cases o with
  |norm=>exact ⟨_,_,cI.reg h1,h2⟩
  |pan v=>exact ⟨_,_,cI.reg h1,h2⟩
  |_=>exact h2.elim
 |regD l=>
  intro d Q h
  obtain ⟨o,d',h1,h2,h3⟩:=u7 (r:=r) _ _ _ _ _ h
  cases o with
  |norm=>exact ⟨_,_,cI.regD h1,h2⟩
  |pan v=>exact ⟨_,_,cI.regDp h1,h2⟩
  |_=>exact h2.elim
 |loop a _=>exact fun d Q h=>h
 |rangeFunc f ps a b _ _=>exact fun d Q h=>h
theorem W.loop {c:NC} {Q:Out->Dyn->Prop} (I:Nat->Dyn->Prop) (h:∀k d,I k d->W P S r c d (fun o d'=>match o with| .norm=>∃j,j<k/\I j d'|o=>Q o d')):∀k d,I k d->W P S r (.loop c) d Q:=by
 intro k
 induction k using Nat.strongRecOn with
 |ind k ih=>
  intro d hd
  obtain ⟨o,d',h1,h2⟩:=h k d hd
  cases o with
  |norm=>
   obtain ⟨j,hj,hI⟩:=h2
   obtain ⟨o,d2,h3,h4⟩:=ih j hj d' hI
   exact ⟨o,d2,cI.loop h1 h3,h4⟩
  |_=>exact ⟨_,_,cI.loop_out h1 (by simp),h2⟩
theorem W.mono {c:NC} {d:Dyn} {Q Q':Out->Dyn->Prop} (h:W P S r c d Q) (hq:∀o d,Q o d->Q' o d):W P S r c d Q':=by
 obtain ⟨o,d',h1,h2⟩:=h
 refine ⟨o,d',h1, ?_⟩
 cases o with
 |pan v=>exact h2
 |_=>exact hq _ _ h2
end
end Nm
namespace Nm
open Go Go.RowKit
section
variable {P:PE} {S:bE} {r:Option D4} {dst:Option D4} {op:NOp} {pre idx:Nat} {l:List NOper} {hs:List (Nat×NH)} {rs:List (Nat×(NH->NR)×NV)}
 {L:List (D4×NV)} {t:Tm} {dfs:List Dfr} {ctx:Option NV} {m m':NH} {v:NV} {k k':D4} {d:Dyn} {Q:Out->Dyn->Prop} {K:Dyn->Prop} {A B:Prop}
theorem zU:wp P S r .skip d Q=Q .norm d:=_root_.id rfl
theorem Cd:wp P S r .ret d Q=Q .ret d:=_root_.id rfl
theorem yS {i:Nat}:wp P S r (.exit i) d Q=Q (.exit i) d:=_root_.id rfl
theorem xp {i:Nat} {a:NC}:wp P S r (.block i a) d Q=wp P S r a d (je i Q):=_root_.id rfl
theorem B1:wp P S r (.reg l) d Q=wO P S l d (Q .norm):=_root_.id rfl
theorem zQ:wp P S r (.regD l) d Q=wD P S l [] [] d (Q .norm):=_root_.id rfl
theorem Af {a:NC}:wp P S r (.loop a) d Q=W P S r (.loop a) d Q:=_root_.id rfl
theorem Ar:jR K Q .norm d=K d:=_root_.id rfl
theorem zt:jR K Q .ret d=Q .ret d:=_root_.id rfl
theorem xL {i:Nat}:jR K Q (.exit i) d=Q (.exit i) d:=_root_.id rfl
theorem xf {i:Nat}:je i Q .norm d=Q .norm d:=_root_.id rfl
theorem Al {i:Nat}:je i Q .ret d=Q .ret d:=_root_.id rfl
theorem wq {i j:Nat}:je i Q (.exit j) d=Q (if j=i then .norm else .exit j) d:=_root_.id rfl
theorem AU:wO P S [] d K=K d:=_root_.id rfl
def wX (c:Cls) (x:NR) (P:PE) (S:bE) (f:NH->NR) (dst:Option D4) (pre idx:Nat) (l:List NOper) (hs:List (Nat×NH)) (rs:List (Nat×(NH->NR)×NV)) (d:Dyn) (K:Dyn->Prop):Prop:=
 match c with
 | .pure=>(match x with| .val v=>wD P S l hs rs ⟨ay dst v d.t,d.dfs,d.ctx,d.h⟩ K|_=>False)
 | .alloc=>ahead pre hs=true/\(match x with| .mem v m'=>wD P S l hs rs ⟨ay dst v d.t,d.dfs,d.ctx,m'⟩ K|_=>False)
 | .read=>(match x with| .val v=>cd pre f v hs=true/\wD P S l hs ((idx,f,v)::rs) ⟨ay dst v d.t,d.dfs,d.ctx,d.h⟩ K|_=>False)
 | .eff=>ahead pre hs=true/\Dz P S (kT hs idx l) dst d.t d.dfs d.ctx d.h x fun d'=>aO pre d'.h rs=true/\wD P S l ((idx,d.h)::hs) rs d' K
theorem zB:wD P S [] hs rs d K=K d:=_root_.id rfl
theorem xI:wD P S (⟨dst,op,none,pre,idx⟩::l) hs rs ⟨aK L t,dfs,ctx,m⟩ K=wX (aj op) (ab op (aK L t) m) P S (ab op (aK L t)) dst pre idx l hs rs ⟨aK L t,dfs,ctx,m⟩ K:=by
 cases h:aj op<;>simp only[wD,am,h,wX]<;>cases ab op (aK L t) m<;>rfl
section
variable {f:NH->NR}
theorem vN:wX .pure (.val v) P S f (some k) pre idx l hs rs ⟨aK L t,dfs,ctx,m⟩ K=wD P S l hs rs ⟨aK ((k,v)::L) t,dfs,ctx,m⟩ K:=_root_.id rfl
theorem t8:wX .alloc (.mem v m') P S f (some k) pre idx l hs rs ⟨aK L t,dfs,ctx,m⟩ K=(ahead pre hs=true/\wD P S l hs rs ⟨aK ((k,v)::L) t,dfs,ctx,m'⟩ K):=_root_.id rfl
theorem x9:wX .read (.val v) P S f (some k) pre idx l hs rs ⟨aK L t,dfs,ctx,m⟩ K=(cd pre f v hs=true/\wD P S l hs ((idx,f,v)::rs) ⟨aK ((k,v)::L) t,dfs,ctx,m⟩ K):=_root_.id rfl
theorem vg:cd pre f v []=true:=_root_.id rfl
theorem tN:ahead pre []=true:=_root_.id rfl
theorem ug:aO pre m []=true:=_root_.id rfl
end
theorem Bb:NT.get k (aK L t)=eC k L (NT.get k t):=g6 k L t
theorem B8:ρ (aK L t) (.tmp k)=eC k L (NT.get k t):=g6 k L t
theorem v6:ρ t (.const v)=some v:=_root_.id rfl
theorem vD {o:Option NV}:eC k [] o=o:=_root_.id rfl
theorem zV {o:Option NV}:eC k ((k',v)::L) o=cond (aT k k') (some v) (eC k L o):=_root_.id rfl
theorem DA:aT .e .e=true:=_root_.id rfl
theorem Dg:aT .e (.a k)=false:=_root_.id rfl
theorem Du:aT .e (.b k)=false:=_root_.id rfl
theorem Dn:aT .e (.c k)=false:=_root_.id rfl
theorem C5:aT .e (.f k)=false:=_root_.id rfl
theorem Dc:aT (.a k) .e=false:=_root_.id rfl
theorem CO:aT (.a k) (.a k')=aT k k':=_root_.id rfl
theorem CV:aT (.a k) (.b k')=false:=_root_.id rfl
theorem Df:aT (.a k) (.c k')=false:=_root_.id rfl
theorem DU:aT (.a k) (.f k')=false:=_root_.id rfl
theorem C8:aT (.b k) .e=false:=_root_.id rfl
theorem DP:aT (.b k) (.a k')=false:=_root_.id rfl
theorem DQ:aT (.b k) (.b k')=aT k k':=_root_.id rfl
theorem D6:aT (.b k) (.c k')=false:=_root_.id rfl
theorem Db:aT (.b k) (.f k')=false:=_root_.id rfl
theorem DN:aT (.c k) .e=false:=_root_.id rfl
theorem DY:aT (.c k) (.a k')=false:=_root_.id rfl
theorem CS:aT (.c k) (.b k')=false:=_root_.id rfl
theorem DL:aT (.c k) (.c k')=aT k k':=_root_.id rfl
theorem Dj:aT (.c k) (.f k')=false:=_root_.id rfl
theorem Do:aT (.f k) .e=false:=_root_.id rfl
theorem CZ:aT (.f k) (.a k')=false:=_root_.id rfl
theorem Da:aT (.f k) (.b k')=false:=_root_.id rfl
theorem Dy:aT (.f k) (.c k')=false:=_root_.id rfl
theorem Ds:aT (.f k) (.f k')=aT k k':=_root_.id rfl
end
def oN (o:Option NV) (K:NV->NR):NR:=match o with|some v=>K v|none=> .fail
theorem CT {v:NV} {K:NV->NR}:oN (some v) K=K v:=_root_.id rfl
theorem bZ {t:Tm} {x:NOpd} {K:NV->NR}:wV t x K=oN (ρ t x) K:=by
 unfold wV oN;cases ρ t x<;>rfl
theorem Dh {v:NV}:vr (some v)= .val v:=_root_.id rfl
def BT (v:NV):NR:=match v with| .slc _ _ n _ _=> .val (.int .i64 (.lit (.ofNat n)))| .nils=> .val (.int .i64 (.lit (.ofNat 0)))|_=> .fail
def uV (n:Nat) (s i:NV):NR:=match s,i with| .slc id off len _ _,.int _ (.lit (.ofNat i))=>if i<len then .val (.ptr id (off+i*n)) else .fail|_,_=> .fail
noncomputable def vQ (m:NH) (p:NV):NR:=match p with| .ptr id off=>(match m.get id with|some (.cells _ c)=>oN c[off]? .val|_=> .fail)|_=> .fail
noncomputable def wR (n:Nat) (m:NH) (p:NV):NR:=match p with| .ptr id off=>(match m.get id with|some (.cells _ c)=>if off+n<=c.length then .val (.agg ((c.drop off).take n)) else .fail|_=> .fail)|_=> .fail
def Cx (k:Nat) (p:NV):NR:=match p with| .ptr id off=> .val (.ptr id (off+k))|_=> .fail
section
variable {t:Tm} {m:NH}
theorem zK {x:NOpd}:ab (.move x) t m=oN (ρ t x) .val:=bZ
theorem Ce {c:BC} {op:BinOp} {x y:NOpd}:ab (.bin c op x y) t m=oN (ρ t x) fun a=>oN (ρ t y) fun b=>vr (dP c op a b):=by
 show wV t x (fun a=>wV t y fun b=>vr (dP c op a b))=_
 simp only[bZ]
theorem DC {u:UnOp} {x:NOpd}:ab (.un u x) t m=oN (ρ t x) fun v=>vr (CJ u v):=bZ
theorem AW {x:NOpd}:ab (.lenSlc x) t m=oN (ρ t x) BT:=by
 show wV t x _=_
 rw[bZ];cases ρ t x with
 |none=>rfl
 |some v=>cases v<;>rfl
theorem A5 {n:Nat} {x i:NOpd}:ab (.indexSlc n x i) t m=oN (ρ t x) fun s=>oN (ρ t i) fun i=>uV n s i:=by
 show wV t x (fun v=>cZ t i fun i=>match v with
  | .slc id off len _ _=>cond (Nat.ble (Nat.succ i) len) (ah (Nat.add off (Nat.mul i n)) fun o=> .val (.ptr id o)) .fail
  |_=> .fail)=_
 unfold cZ
 simp only[bZ]
 cases ρ t x with
 |none=>rfl
 |some s=>
  show oN (ρ t i) _=oN (ρ t i) _
  cases ρ t i with
  |none=>rfl
  |some j=>
   show aS (nI j) _=uV n s j
   cases j with
   |int k z=>
    cases z with
    |lit z=>
     cases z with
     |ofNat q=>
      cases s with
      |slc id off len e kc=>
       show cond (Nat.ble (Nat.succ q) len) (ah (Nat.add off (Nat.mul q n)) fun o=>NR.val (.ptr id o)) .fail=if q<len then _ else _
       rw[aa]
       by_cases hq:q<len
       ·rw[ED hq,Nat.ble_eq_true_of_le hq];rfl
       ·rw[EC hq,show Nat.ble (Nat.succ q) len=false from by cases hb:Nat.ble (Nat.succ q) len with|false=>rfl|true=>exact EB (Nat.le_of_ble_eq_true hb) hq];rfl
      |_=>rfl
     |negSucc q=>cases s<;>rfl
    |_=>cases s<;>rfl
   |_=>cases s<;>rfl
theorem BE {x:NOpd}:ab (.load1 x) t m=oN (ρ t x) (vQ m):=by
 show wV t x (fun a=>match a with| .ptr id off=>bP m id fun c=>aS (gt c off) .val|_=> .fail)=_
 rw[bZ]
 cases ρ t x with
 |none=>rfl
 |some v=>
  cases v with
  |ptr id off=>
   show bP m id (fun c=>aS (gt c off) .val)=vQ m (.ptr id off)
   unfold bP vQ
   dsimp only
   split<;>rename_i hm
   ·rw[hm];dsimp only;rw[cY];cases (_:List NV)[off]? <;>rfl
   ·split<;>rename_i h2
    ·exact EB h2 (hm _ _)
    ·rfl
  |_=>rfl
theorem A9 {k:Nat} {x:NOpd}:ab (.fieldAddr k x) t m=oN (ρ t x) (Cx k):=by
 show wV t x (fun v=>match v with| .ptr id o=>ah (Nat.add o k) fun o=> .val (.ptr id o)|_=> .fail)=_
 rw[bZ]
 cases ρ t x with
 |none=>rfl
 |some v=>cases v<;>first|rfl|exact aa (R:=NR) _ (fun o=> .val (.ptr _ o))
theorem Bj {k off:Nat} {id:D4}:Cx k (.ptr id off)= .val (.ptr id (off+k)):=_root_.id rfl
end
theorem zo {a b:Bool}:dP .bool .eql (.bool a) (.bool b)=some (.bool (a==b)):=by cases a<;>cases b<;>rfl
theorem AI {b:Bool}:CJ .not (.bool b)=some (.bool (!b)):=by cases b<;>rfl
end Nm
namespace Nm
open Go Go.RowKit
def rK (o:Option NV) (K:NV->Prop):Prop:=match o with|some v=>K v|none=>False
def DM (rs:List NRes) (K:NV->NH->Prop) (o:Out) (d:Dyn):Prop:=(o= .norm∨o= .ret)/\d.dfs= []/\∃v,cg d.h d.t rs .fail (fun l=> .val (iZ l) d.ctx d.h)= .val v d.ctx d.h/\K v d.h
section
variable {P:Program} {S:bE} {L:List (D4×NV)} {t:Tm} {ctx:Option NV} {m:NH} {K:NV->NH->Prop} {k k1 k2 k3:D4}
theorem D0 {v:NV} {K:NV->Prop}:rK (some v) K=K v:=_root_.id rfl
theorem Call.of_pan {P:Program} {f:Nat} {nf:NFun} (hs:∀l,S f l=fun _=>none) (hf:ak P f=some (.code nf)) {args:List NV} {m:NH} {v:NV} {d:Dyn} (h:cI P S none nf.body ⟨cV args 0 .leaf, [],none,m⟩ (.pan v) d) (hd:d.dfs= []):Call P S f args m (.pan v d.ctx d.h):=by
 obtain ⟨n,hn⟩:=h
 refine ⟨by simp,n, ?_⟩
 unfold br
 rw[hs]
 dsimp only
 rw[hf]
 dsimp only
 rw[dw,hf]
 dsimp only
 rw[hn]
 dsimp only
 rw[hd];rfl
end
end Nm
namespace Nm
open Go Go.RowKit
def na (m:NH) (j:Nat):D4:=D4.of (m.next.toNat+j)
def dC (m:NH) (id:D4):Prop:=id.toNat<m.next.toNat
instance (m:NH) (id:D4):Decidable (dC m id):=inferInstanceAs (Decidable (_<_))
inductive AK where
 |n (j:Nat)
 |o (id:D4)
noncomputable def ng (m:NH):List (AK×NO)->NT NO
 | []=>m.m
 |(.n j,x)::l=>NT.put (na m j) x (ng m l)
 |(.o id,x)::l=>if dC m id then NT.put id x (ng m l) else ng m l
noncomputable def hp (l:List (AK×NO)) (k:Nat) (m:NH):NH:=⟨ng m l,na m k⟩
def iU (j:Nat):List (AK×NO)->Option NO->Option NO
 | [],d=>d
 |(.n i,x)::l,d=>if j=i then some x else iU j l d
 |(.o _,_)::l,d=>iU j l d
noncomputable def eI (id:D4):List (AK×NO)->Option NO->Option NO
 | [],d=>d
 |(.n _,_)::l,d=>eI id l d
 |(.o i,x)::l,d=>@ite _ (id=i) (Classical.propDecidable _) (some x) (eI id l d)
theorem z8 {m:NH} {i j:Nat} (h:na m i=na m j):i=j:=by
 have:=D4.of_inj h;omega
theorem zz (m:NH) (k:Nat):(na m k).nxt=na m (k+1):=by
 apply D4.toNat_inj
 rw[D4.toNat_nxt];unfold na;rw[D4.toNat_of,D4.toNat_of];omega
theorem wT (m:NH):na m 0=m.next:=D4.of_toNat _
theorem ba (m:NH):hp [] 0 m=m:=by
 show NH.mk m.m (na m 0)=m
 rw[wT]
theorem dC.ne {m:NH} {id:D4} (h:dC m id) (j:Nat):id≠na m j:=by
 intro e
 unfold dC at h
 rw[e] at h;unfold na at h;rw[D4.toNat_of] at h;omega
section
variable {m:NH} {l:List (AK×NO)} {k j:Nat} {o:NO} {id:D4}
theorem zx:(hp l k m).next=na m k:=_root_.id rfl
theorem Cl:(hp l k m).add o=hp ((.n k,o)::l) (k+1) m:=by
 show NH.mk (NT.put (na m k) o (ng m l)) (na m k).nxt=NH.mk (NT.put (na m k) o (ng m l)) (na m (k+1))
 rw[zz]
theorem yP:(hp l k m).put (na m j) o=hp ((.n j,o)::l) k m:=_root_.id rfl
theorem zC (h:dC m id):(hp l k m).put id o=hp ((.o id,o)::l) k m:=by
 show NH.mk (NT.put id o (ng m l)) (na m k)=NH.mk (if dC m id then NT.put id o (ng m l) else ng m l) (na m k)
 rw[ED h]
theorem lw:(hp l k m).get (na m j)=iU j l (m.get (na m j)):=by
 show NT.get (na m j) (ng m l)=_
 induction l with
 |nil=>rfl
 |cons p l ih=>
  obtain ⟨a,x⟩:=p
  cases a with
  |n i=>
   show NT.get (na m j) (NT.put (na m i) x (ng m l))=if j=i then some x else iU j l _
   split
   ·rename_i h;rw[h];exact NT.get_put_same _ _ _
   ·rename_i h;rw[NT.get_put_ne (fun e=>h (z8 e))];exact ih
  |o i=>
   show NT.get (na m j) (if dC m i then NT.put i x (ng m l) else ng m l)=iU j l _
   split
   ·rename_i h;rw[NT.get_put_ne (fun e=>h.ne j e.symm)];exact ih
   ·exact ih
theorem uu (h:dC m id):(hp l k m).get id=eI id l (m.get id):=by
 show NT.get id (ng m l)=_
 induction l with
 |nil=>rfl
 |cons p l ih=>
  obtain ⟨a,x⟩:=p
  cases a with
  |n i=>
   show NT.get id (NT.put (na m i) x (ng m l))=eI id l _
   rw[NT.get_put_ne (h.ne _)];exact ih
  |o i=>
   show NT.get id (if dC m i then NT.put i x (ng m l) else ng m l)=@ite _ (id=i) (Classical.propDecidable _) (some x) (eI id l _)
   by_cases e:id=i
   ·rw[ED e,←e,ED h];exact NT.get_put_same _ _ _
   ·rw[EC e]
    split
    ·rw[NT.get_put_ne e];exact ih
    ·exact ih
theorem uG {i:Nat} {d:Option NO}:iU j ((.n i,o)::l) d=if j=i then some o else iU j l d:=_root_.id rfl
theorem s9 {d:Option NO}:eI id [] d=d:=_root_.id rfl
theorem nd {i:Nat} {d:Option NO}:eI id ((.n i,o)::l) d=eI id l d:=_root_.id rfl
theorem sH {d:Option NO}:eI id ((.o id,o)::l) d=some o:=ED rfl
theorem mD {i:D4} {d:Option NO} (h:id≠i):eI id ((.o i,o)::l) d=eI id l d:=EC h
end
structure Chg (S:List D4) (m m':NH):Prop where
 next:m.next.toNat<=m'.next.toNat
 get:∀{id},dC m id->id∉S->m'.get id=m.get id
theorem Chg.old {S:List D4} {m m':NH} {id:D4} (h:Chg S m m') (ho:dC m id):dC m' id:=Nat.lt_of_lt_of_le ho h.next
theorem Chg.refl (m:NH):Chg [] m m:=⟨Nat.le_refl _,fun _ _=>rfl⟩
theorem Chg.weak {S T:List D4} {a b:NH} (h:Chg S a b) (hs:∀id,id∈S->dC a id->id∈T):Chg T a b:=
 ⟨h.1,fun {id} ho hi=>h.2 ho fun q=>hi (hs id q ho)⟩
theorem Chg.trans {S T:List D4} {a b c:NH} (h:Chg S a b) (h':Chg T b c) (hs:∀id,id∈T->dC a id->id∈S):Chg S a c:=
 ⟨Nat.le_trans h.1 h'.1,fun {id} ho hi=>(h'.2 (h.old ho) fun q=>hi (hs id q ho)).trans (h.2 ho hi)⟩
def n7:List (AK×NO)->List D4
 | []=> []
 |(.n _,_)::l=>n7 l
 |(.o i,_)::l=>i::n7 l
theorem oV (l:List (AK×NO)) (k:Nat) (m:NH):Chg (n7 l) m (hp l k m):=by
 refine ⟨by show m.next.toNat<=(na m k).toNat;unfold na;rw[D4.toNat_of];omega,fun {id} ho hi=> ?_⟩
 rw[uu ho]
 induction l with
 |nil=>rfl
 |cons p l ih=>
  obtain ⟨a,x⟩:=p
  cases a with
  |n i=>rw[nd];exact ih hi
  |o i=>
   have hi:id∉i::n7 l:=hi
   rw[List.mem_cons] at hi
   rw[mD (fun e=>hi (Or.inl e))]
   exact ih fun q=>hi (Or.inr q)
theorem ao {l:List (AK×NO)} {k j:Nat} {m:NH} (h:j<k):dC (hp l k m) (na m j):=by
 show (na m j).toNat<(na m k).toNat
 unfold na;rw[D4.toNat_of,D4.toNat_of];omega
theorem ai {l:List (AK×NO)} {k:Nat} {m:NH} {id:D4} (h:dC m id):dC (hp l k m) id:=(oV l k m).old h
def c7 (P:Program) (S:bE) (f:Nat) (args:List NV) (m:NH) (v:NV) (m':NH):Prop:=∃c,Call P S f args m (.val v c m')
section
variable {P:Program} {S:bE} {f:Nat} {args:List NV} {m:NH}
theorem WF.ret {K:NV->NH->Prop} (h:WF P S f args m K):∃v m',c7 P S f args m v m'/\K v m':=by
 obtain ⟨v,c,m',hc,hk⟩:=WF.ret' h;exact ⟨v,m',⟨c,hc⟩,hk⟩
theorem Call.det {x y:CR} (h:Call P S f args m x) (h':Call P S f args m y):x=y:=by
 obtain ⟨hn,n,e⟩:=h
 obtain ⟨hn',k,e'⟩:=h'
 rw[←cn (bA (Nat.le_max_left n k)) e hn,cn (bA (Nat.le_max_right n k)) e' hn']
theorem c7.wf {E:NV->NH->Prop} {v:NV} {m':NH} (h:c7 P S f args m v m') {K:NV->NH->Prop}:WF ⟨P,E⟩ S f args m K=K v (hp [] 0 m'):=by
 rw[ba]
 apply propext
 constructor
 ·rintro (⟨u,c,n,hc,hk⟩|⟨u,c,n,hc,hk⟩)
  ·obtain ⟨c',h'⟩:=h
   have:=Call.det hc h'
   injection this with a _ b
   rw[←a,←b];exact hk
  ·obtain ⟨c',h'⟩:=h
   exact EB (Call.det hc h') (by simp)
 ·intro hk
  obtain ⟨c,h⟩:=h
  exact Or.inl ⟨v,c,m',h,hk⟩
def Eh (P:Program) (S:bE) (f:Nat) (args:List NV) (m:NH) (v:NV) (m':NH):Prop:=∃c,Call P S f args m (.pan v c m')
theorem Eh.wf {E:NV->NH->Prop} {v:NV} {m':NH} (h:Eh P S f args m v m') {K:NV->NH->Prop}:WF ⟨P,E⟩ S f args m K=E v m':=by
 apply propext
 constructor
 ·rintro (⟨u,c,n,hc,hk⟩|⟨u,c,n,hc,hk⟩)
  ·obtain ⟨c',h'⟩:=h
   exact EB (Call.det hc h') (by simp)
  ·obtain ⟨c',h'⟩:=h
   have:=Call.det hc h'
   injection this with a _ b
   rw[←a,←b];exact hk
 ·intro hk
  obtain ⟨c,h⟩:=h
  exact Or.inr ⟨v,c,m',h,hk⟩
end
section
variable {t:Tm} {m:NH}
theorem Ai {x:NOpd} {ty:Nat}:ab (.box x ty) t m=oN (ρ t x) fun v=>match cellsOf v with|some cs=> .mem (.ptr m.next 0) (m.add (.cells true cs))|none=> .fail:=by
 show wV t x (fun v=>aS (cellsOf v) fun cs=>m.new (.cells true cs) fun id h=> .mem (.ptr id 0) h)=_
 rw[bZ]
 cases ρ t x with
 |none=>rfl
 |some v=>
  show aS (cellsOf v) _=(match cellsOf v with|some cs=>_|none=>NR.fail)
  cases cellsOf v with
  |none=>rfl
  |some cs=>exact NH.new_eq m (.cells true cs) (fun id h=>NR.mem (.ptr id 0) h)
theorem wn {z:List NV} {ty:Nat}:ab (.alloc z ty) t m= .mem (.ptr m.next 0) (m.add (.cells true z)):=NH.new_eq m (.cells true z) (fun id h=>NR.mem (.ptr id 0) h)
end
end Nm
namespace Nm
open Go Go.RowKit
section
variable {P:Program} {S:bE}
theorem yA.of {l:D4} {args:List NV} {m:NH} {p p1:Jump} {tm tm1:NT NV} {ps ps1:List D4} {a b a1 b1:NC} {d1 d2:Dyn} {o:Out} {x:CR}
 (hm:m.get l=some (.loop 0 p tm ps a b)) (hlen:args.length=ps.length) (ha:cI P S (some l) a ⟨lG ps args tm, [],none,m⟩ .norm d1) (hd1:d1.dfs= [])
 (hm1:d1.h.get l=some (.loop 0 p1 tm1 ps1 a1 b1)) (hb:cI P S (some l) b ⟨d1.t, [],none,d1.h.put l (.loop 1 p1 tm1 ps1 a1 b1)⟩ o d2) (ho:∀v,o≠.pan v) (hr:dR l o d2.h=x) (hne:x≠.fail):yA P S l args m x:=by
 obtain ⟨n,hn⟩:=ha
 obtain ⟨k,hk⟩:=hb
 refine ⟨hne,max n k, ?_⟩
 have key:∀(ps:List D4) (args:List NV) (tm:Tm) (K:Tm->CR),args.length=ps.length->ct .fail ps args tm K=K (lG ps args tm):=by
  intro ps
  induction ps with
  |nil=>intro args tm K h;cases args with
   |nil=>rfl
   |cons=>simp at h
  |cons q ps ih=>
   intro args tm K h
   cases args with
   |nil=>simp at h
   |cons v vs=>
    have e:ct .fail (q::ps) (v::vs) tm K=NT.set q v tm fun t=>ct .fail ps vs t K:=rfl
    rw[e,NT.set_eq]
    exact ih _ _ _ (by simpa using h)
 unfold round
 rw[hm]
 show ct .fail ps args tm (fun t=>match ev P S (max n k) (some l) a ⟨t, [],none,m⟩ with
  | .mk .norm d=>(match d.dfs with| []=>bN (ev P S (max n k)) l b d.t d.h|_=> .fail)
  |_=> .fail)=x
 rw[key _ _ _ _ hlen,bA (Nat.le_max_left n k) _ _ _ _ _ hn]
 show (match d1.dfs with| []=>bN (ev P S (max n k)) l b d1.t d1.h|_=> .fail)=x
 rw[hd1]
 show bN (ev P S (max n k)) l b d1.t d1.h=x
 unfold bN
 rw[hm1]
 show (d1.h.set l (.loop 1 p1 tm1 ps1 a1 b1) fun h=>(match ev P S (max n k) (some l) b ⟨d1.t, [],none,h⟩ with
  | .mk o d=>(match o with
   | .pan v=>(match d.dfs with| []=>CR.pan v none d.h|_=> .fail)
   |o=>dR l o d.h)
  | .fail=> .fail))=x
 rw[NH.set_eq,bA (Nat.le_max_right n k) _ _ _ _ _ hk]
 cases o with
 |pan v=>exact EB rfl (ho v)
 |_=>exact hr
theorem cI.range {f:Nat} {cap:List NV} {fx:NOpd} {ps:List D4} {a b:NC} {t:Tm} {dfs:List Dfr} {ctx:Option NV} {m m':NH} {v:NV} {c:Option NV} {o:Out} {d:Dyn}
 (hf:ρ t fx=some (.fn f cap)) (hc:Call P S f (.yld (m.add (.defd true)).next::cap) ((m.add (.defd true)).add (.loop 0 .none t ps a b)) (.val v c m'))
 (he:dj (m.add (.defd true)).next t (.mark m.next::dfs) ctx m'= .mk o d):cI P S none (.rangeFunc fx ps a b) ⟨t,dfs,ctx,m⟩ o d:=by
 obtain ⟨hne,k,hk⟩:=hc
 refine ⟨k+1, ?_⟩
 show (match ρ t fx with
  |some (.fn f cap)=>m.new (.defd true) fun q m=>bB P S (ev P S k) f cap ps a b t (.mark q::dfs) ctx m
  |_=>Res.fail)=_
 rw[hf]
 try dsimp only
 rw[NH.new_eq]
 unfold bB
 rw[NH.new_eq,hk]
 exact he
end
end Nm
namespace Nm
open Go Go.RowKit
section
variable {t:Tm} {m:NH}
theorem Co {n:Nat} {x:NOpd}:ab (.loadN n x) t m=oN (ρ t x) (wR n m):=by
 show wV t x (fun a=>match a with| .ptr id off=>bP m id fun c=>aS (eU c off n) fun l=> .val (.agg l)|_=> .fail)=_
 rw[bZ]
 cases ρ t x with
 |none=>rfl
 |some v=>
  cases v with
  |ptr id off=>
   show bP m id (fun c=>aS (eU c off n) fun l=> .val (.agg l))=wR n m (.ptr id off)
   unfold bP wR
   dsimp only
   split<;>rename_i hm
   ·rw[hm];dsimp only;rw[e6];split<;>rfl
   ·split<;>rename_i h2
    ·exact EB h2 (hm _ _)
    ·rfl
  |_=>rfl
def BQ (i:Nat) (a:NV):NR:=match a with| .tup l=>oN l[i]? .val|_=> .fail
theorem qM {i:Nat} {x:NOpd}:ab (.extract x i) t m=oN (ρ t x) (BQ i):=by
 show wV t x (fun v=>match v with| .tup l=>aS (gt l i) .val|_=> .fail)=_
 rw[bZ]
 cases ρ t x with
 |none=>rfl
 |some v=>
  cases v with
  |tup l=>show aS (gt l i) .val=oN l[i]? .val;rw[cY];cases l[i]? <;>rfl
  |_=>rfl
theorem Bq {i:Nat} {l:List NV}:BQ i (.tup l)=oN l[i]? .val:=_root_.id rfl
def uL (f:NV) (l:List NV):NR:=match f with| .fn f cap=> .call f (l++cap)| .yld r=> .yld r l|_=> .fail
noncomputable def xK (t:Tm):List NOpd->(List NV->NR)->NR
 | [],K=>K []
 |x::l,K=>oN (ρ t x) fun v=>xK t l fun l=>K (v::l)
theorem qd {l:List NOpd} {K:List NV->NR}:pi t l .fail K=xK t l K:=by
 induction l generalizing K with
 |nil=>rfl
 |cons x l ih=>
  show Option.rec NR.fail (fun v=>pi t l .fail fun l=>K (v::l)) (ρ t x)=oN (ρ t x) fun v=>xK t l fun l=>K (v::l)
  cases ρ t x with
  |none=>rfl
  |some v=>exact ih
theorem zh {K:List NV->NR}:xK t [] K=K []:=_root_.id rfl
theorem BM {x:NOpd} {l:List NOpd} {K:List NV->NR}:xK t (x::l) K=oN (ρ t x) fun v=>xK t l fun l=>K (v::l):=_root_.id rfl
theorem Av {f:NOpd} {args:List NOpd}:ab (.call f args) t m=oN (ρ t f) fun f=>xK t args (uL f):=by
 show wV t f (fun f=>pi t args .fail fun l=>match f with| .fn f cap=>iV l cap fun l=> .call f l| .yld r=> .yld r l|_=> .fail)=_
 rw[bZ]
 cases ρ t f with
 |none=>rfl
 |some f=>
  show pi t args .fail _=xK t args (uL f)
  rw[qd]
  congr 1
  funext l
  cases f with
  |fn f cap=>exact ec l cap (fun l=>NR.call f l)
  |_=>rfl
theorem yY {f:Nat} {cap l:List NV}:uL (.fn f cap) l= .call f (l++cap):=_root_.id rfl
end
end Nm
namespace Nm
open Go Go.RowKit
section
variable {t:Tm} {m:NH}
noncomputable def CI (n:Nat) (m:NH) (a v:NV):NR:=match a with
 | .ptr id off=>(match cellsOf v with
  |some cs=>if cs.length=n then (match m.get id with
   |some (.cells true c)=>if off+cs.length<=c.length then .mem aH (m.put id (.cells true (c.take off++cs++c.drop (off+cs.length)))) else .fail
   |_=> .fail) else .fail
  |none=> .fail)
 |_=> .fail
theorem xC {n:Nat} {a x:NOpd}:ab (.store n a x) t m=oN (ρ t a) fun a=>oN (ρ t x) fun v=>CI n m a v:=by
 show wV t a (fun a=>wV t x fun v=>match a with
  | .ptr id off=>aS (cellsOf v) fun cs=>cA cs fun k=>cond (Nat.beq k n) (storeAt m id off cs fun h=> .mem aH h) .fail
  |_=> .fail)=_
 simp only[bZ]
 cases ρ t a with
 |none=>rfl
 |some a=>
  show oN (ρ t x) _=oN (ρ t x) _
  cases ρ t x with
  |none=>rfl
  |some v=>
   cases a with
   |ptr id off=>
    show aS (cellsOf v) (fun cs=>cA cs fun k=>cond (Nat.beq k n) (storeAt m id off cs fun h=> .mem aH h) .fail)=CI n m (.ptr id off) v
    unfold CI
    cases cellsOf v with
    |none=>rfl
    |some cs=>
     show cA cs (fun k=>cond (Nat.beq k n) (storeAt m id off cs fun h=> .mem aH h) .fail)=if cs.length=n then _ else _
     rw[bo]
     cases hb:Nat.beq cs.length n with
     |false=>rw[EC (Nat.ne_of_beq_eq_false hb)];rfl
     |true=>
      rw[ED (EG hb)]
      show storeAt m id off cs (fun h=> .mem aH h)=_
      unfold storeAt fp
      cases hm:m.get id with
      |none=>rfl
      |some o=>
       cases o with
       |cells w c=>
        cases w with
        |false=>rfl
        |true=>
         show aS (fO cs off c) (fun c=>m.set id (.cells true c) fun h=> .mem aH h)=if off+cs.length<=c.length then _ else _
         rw[eL]
         split
         ·exact NH.set_eq m id _ (fun h=>NR.mem aH h)
         ·rfl
       |_=>rfl
   |_=>rfl
end
end Nm
namespace Nm
open Go Go.RowKit
section
variable {t:Tm} {m:NH}
end
end Nm
namespace Nm
open Go Go.RowKit
def wQ (q:Bool) (A B:Dyn->Prop) (d:Dyn):Prop:=(q=true->A d)/\(q=false->B d)
def wC (o:Option NV) (A B:Dyn->Prop) (d:Dyn):Prop:=wB o (A d) (B d)
def wG (o:Option NV) (b:Bool) (A B:Dyn->Prop) (d:Dyn):Prop:=match o with
 |some (.bool q)=>wQ (q==b) A B d
 |some _=>B d
 |none=>False
def rA (F:Tm->List Dfr->Option NV->NH->Prop) (d:Dyn):Prop:=F d.t d.dfs d.ctx d.h
noncomputable def ol (x:NR) (v:NV):Bool:=match x with| .val u=>bc 4 u v|_=>false
section
variable {P:PE} {S:bE} {r:Option D4} {dst:Option D4} {op:NOp} {pre idx:Nat} {l:List NOper} {hs:List (Nat×NH)} {rs:List (Nat×(NH->NR)×NV)}
 {L:List (D4×NV)} {t:Tm} {dfs:List Dfr} {ctx:Option NV} {m m':NH} {v:NV} {k k' g:D4} {d:Dyn} {Q:Out->Dyn->Prop} {K:Dyn->Prop} {A B:Dyn->Prop} {b q:Bool}
theorem DX:wC (some (.bool q)) A B d=wQ q A B d:=_root_.id rfl
theorem Cm:wQ true A B d=A d:=by simp[wQ]
theorem CB:wQ false A B d=B d:=by simp[wQ]
theorem D7:wG (some (.bool q)) b A B d=wQ (q==b) A B d:=_root_.id rfl
theorem Cz:wG (some aH) b A B d=B d:=_root_.id rfl
theorem xj:wO P S (⟨dst,op,some (g,b),pre,idx⟩::l) ⟨aK L t,dfs,ctx,m⟩ K=wG (eC g L (NT.get g t)) b (rA fun t dfs ctx m=>wN P S dst t dfs ctx m (ab op t m) fun d=>wO P S l d K) (rA fun t dfs ctx m=>wO P S l ⟨ay dst aH t,dfs,ctx,m⟩ K) ⟨aK L t,dfs,ctx,m⟩:=by
 unfold wG
 rw[←g6]
 show (match am (aK L t) (some (g,b)) with|some true=>_|some false=>_|none=>False)=_
 have e:am (aK L t) (some (g,b))=(match NT.get g (aK L t) with|some (.bool q)=>some (q==b)|some _=>some false|none=>none):=by
  show Option.rec (motive:=fun _=>Option Bool) none (fun v=>NV.onBool (some false) (fun c=>some (dt b c)) v) (NT.get g (aK L t))=_
  cases NT.get g (aK L t) with
  |none=>rfl
  |some v=>cases v with
   |bool q=>cases q<;>cases b<;>rfl
   |_=>rfl
 rw[e]
 cases NT.get g (aK L t) with
 |none=>rfl
 |some v=>cases v with
  |bool q=>
   dsimp only
   unfold wQ rA
   cases (q==b)<;>simp
  |_=>rfl
theorem sS:wD P S (⟨dst,op,some (g,b),pre,idx⟩::l) hs rs ⟨aK L t,dfs,ctx,m⟩ K=wG (eC g L (NT.get g t)) b (rA fun t dfs ctx m=>wX (aj op) (ab op t m) P S (ab op t) dst pre idx l hs rs ⟨t,dfs,ctx,m⟩ K) (rA fun t dfs ctx m=>wD P S l hs rs ⟨ay dst aH t,dfs,ctx,m⟩ K) ⟨aK L t,dfs,ctx,m⟩:=by
 unfold wG
 rw[←g6]
 have e:am (aK L t) (some (g,b))=(match NT.get g (aK L t) with|some (.bool q)=>some (q==b)|some _=>some false|none=>none):=by
  show Option.rec (motive:=fun _=>Option Bool) none (fun v=>NV.onBool (some false) (fun c=>some (dt b c)) v) (NT.get g (aK L t))=_
  cases NT.get g (aK L t) with
  |none=>rfl
  |some v=>cases v with
   |bool q=>cases q<;>cases b<;>rfl
   |_=>rfl
 have e2:wD P S (⟨dst,op,some (g,b),pre,idx⟩::l) hs rs ⟨aK L t,dfs,ctx,m⟩ K=(match am (aK L t) (some (g,b)) with
  |some true=>wX (aj op) (ab op (aK L t) m) P S (ab op (aK L t)) dst pre idx l hs rs ⟨aK L t,dfs,ctx,m⟩ K
  |some false=>wD P S l hs rs ⟨ay dst aH (aK L t),dfs,ctx,m⟩ K
  |none=>False):=by
  unfold wX
  simp only[wD]
  all_goals (cases am (aK L t) (some (g,b)) with
   |none=>rfl
   |some q=>cases q with
    |false=>rfl
    |true=>cases aj op<;>cases ab op (aK L t) m<;>rfl)
 rw[e2,e]
 cases NT.get g (aK L t) with
 |none=>rfl
 |some v=>cases v with
  |bool q=>
   dsimp only
   unfold wQ rA
   cases (q==b)<;>simp
  |_=>rfl
theorem wv {i:Nat} {f:NH->NR}:cd pre f v ((i,m)::hs)=cond (Nat.testBit pre i) (cd pre f v hs) (ol (f m) v&&cd pre f v hs):=by
 show cond (Nat.testBit pre i) (cd pre f v hs) (match f m with| .val u=>cond (bc 4 u v) (cd pre f v hs) false|_=>false)=_
 congr 1
 cases f m with
 |val u=>show cond (bc 4 u v) _ false=(bc 4 u v&&_);cases bc 4 u v<;>rfl
 |_=>rfl
theorem w8 {i:Nat} {f:NH->NR} {u:NV}:aO pre m ((i,f,u)::rs)=cond (Nat.testBit pre i) (aO pre m rs) (ol (f m) u&&aO pre m rs):=by
 show cond (Nat.testBit pre i) (aO pre m rs) (match f m with| .val v=>cond (bc 4 v u) (aO pre m rs) false|_=>false)=_
 congr 1
 cases f m with
 |val u'=>show cond (bc 4 u' u) _ false=(bc 4 u' u&&_);cases bc 4 u' u<;>rfl
 |_=>rfl
theorem xn {i:Nat}:ahead pre ((i,m)::hs)=cond (Nat.testBit pre i) (ahead pre hs) false:=_root_.id rfl
theorem uk {u:NV}:ol (.val u) v=bc 4 u v:=_root_.id rfl
end
theorem eA (d:D4):aT d d=true:=jp d
theorem nn (l:List Nat):qL l l=true:=by
 induction l with
 |nil=>rfl
 |cons x l ih=>show cond (Nat.beq x x) (qL l l) false=true;rw[Nat.beq_refl];exact ih
theorem pg (l:List ST):k7 l l=true:=by
 induction l with
 |nil=>rfl
 |cons x l ih=>
  obtain ⟨m,i,lo,hi⟩:=x
  show cond (Nat.beq m m) (cond (Nat.beq i i) (cond (Nat.beq lo lo) (cond (Nat.beq hi hi) (k7 l l) false) false) false) false=true
  simp[ih]
def qw (v:NV):Prop:=match v with| .agg _| .tup _| .fn _ _| .ifc _ _| .int _ (.ge _)| .int _ (.le _)=>False|_=>True
theorem iC {n:Nat} {v:NV} (h:qw v):bc (n+1) v v=true:=by
 show qp (bc n) v v=true
 have hi:∀z:Int,fF z z=true:=fun z=>by rw[bp];simp
 cases v with
 |bool b=>cases b<;>rfl
 |int k x=>cases x with
  |lit z=>show cond (eg k k) (fF z z) false=true;rw[hi];cases k<;>rfl
  |sym c ts=>show cond (eg k k) (cond (fF c c) (k7 ts ts) false) false=true;rw[hi,pg];cases k<;>rfl
  |ge z=>exact h.elim
  |le z=>exact h.elim
 |str s=>exact nn s
 |ptr id o=>show cond (aT id id) (Nat.beq o o) false=true;rw[eA];simp
 |slc id o n e k=>show cond (aT id id) (cond (Nat.beq o o) (cond (Nat.beq n n) (cond (Nat.beq e e) (Nat.beq k k) false) false) false) false=true;rw[eA];simp
 |map id=>exact eA id
 |yld id=>exact eA id
 |agg l=>exact h.elim
 |tup l=>exact h.elim
 |fn f c=>exact h.elim
 |ifc t v=>exact h.elim
 |_=>rfl
theorem ph {n:Nat} {l:List NV} (h:∀v∈l,qw v):cK (bc (n+1)) l l=true:=by
 induction l with
 |nil=>rfl
 |cons x l ih=>
  show cond (bc (n+1) x x) (cK (bc (n+1)) l l) false=true
  rw[iC (h x (List.mem_cons_self ..))]
  exact ih fun v hv=>h v (List.mem_cons_of_mem _ hv)
theorem sN {n:Nat} {l:List NV} (h:∀v∈l,qw v):bc (n+2) (.agg l) (.agg l)=true:=ph h
theorem xH {n:Nat} {k:IntKind} {z:Int}:bc (n+1) (.int k (.lit z)) (.int k (.lit z))=true:=iC trivial
end Nm
namespace Nm
open Go Go.RowKit
theorem Cq {a b:Int} (h:-9223372036854775808<=a - b) (h':a - b<9223372036854775808):dP .num .sub (.int .i64 (.lit a)) (.int .i64 (.lit b))=some (.int .i64 (.lit (a - b))):=by
 refine (ry rfl).trans ?_
 show bJ .i64 (bz .i64 (lq a b))=_
 rw[d8,wrap_small h h']
 exact bY _ _
theorem yR {p:Prop} [Decidable p] (h:p):decide p=true:=by simp[h]
theorem vM {p:Prop} [Decidable p] (h:¬p):decide p=false:=by simp[h]
section
variable {m:NH}
theorem tg {n off len e kc:Nat} {id:D4} {ik:IntKind} {z:Int} (h0:0<=z) (h1:z<len):uV n (.slc id off len e kc) (.int ik (.lit z))= .val (.ptr id (off+z.toNat*n)):=by
 obtain ⟨i,rfl⟩:=EH h0
 show (if i<len then NR.val (.ptr id (off+i*n)) else .fail)= .val (.ptr id (off+i*n))
 rw[ED (by omega)]
noncomputable def Ct (off:Nat) (o:Option NO):NR:=match o with|some (.cells _ c)=>oN c[off]? .val|_=> .fail
noncomputable def Cg (n off:Nat) (o:Option NO):NR:=match o with|some (.cells _ c)=>if off+n<=c.length then .val (.agg ((c.drop off).take n)) else .fail|_=> .fail
theorem A6 {id:D4} {off:Nat}:vQ m (.ptr id off)=Ct off (m.get id):=_root_.id rfl
theorem BX {id:D4} {n off:Nat}:wR n m (.ptr id off)=Cg n off (m.get id):=_root_.id rfl
theorem yT {off:Nat} {w:Bool} {c:List NV}:Ct off (some (.cells w c))=oN c[off]? .val:=_root_.id rfl
theorem zJ {n off:Nat} {w:Bool} {c:List NV} (h:off+n<=c.length):Cg n off (some (.cells w c))= .val (.agg ((c.drop off).take n)):=ED h
noncomputable def Ed (n:Nat) (id:D4) (off:Nat) (m:NH) (cs:Option (List NV)) (o:Option NO):NR:=match cs with
 |some cs=>if cs.length=n then (match o with
  |some (.cells true c)=>if off+cs.length<=c.length then .mem aH (m.put id (.cells true (c.take off++cs++c.drop (off+cs.length)))) else .fail
  |_=> .fail) else .fail
 |none=> .fail
theorem DJ {n off:Nat} {id:D4} {v:NV}:CI n m (.ptr id off) v=Ed n id off m (cellsOf v) (m.get id):=_root_.id rfl
theorem AZ {n off:Nat} {id:D4} {cs c:List NV} (h:cs.length=n+2) (h':off+(n+2)<=c.length):Ed (n+2) id off m (some cs) (some (.cells true c))= .mem aH (m.put id (.cells true (c.take off++cs++c.drop (off+(n+2))))):=by
 rw[←h] at h' ⊢
 show (if cs.length=cs.length then (if off+cs.length<=c.length then NR.mem aH (m.put id (.cells true (c.take off++cs++c.drop (off+cs.length)))) else .fail) else .fail)=_
 rw[ED rfl,ED h']
end
section
variable {t:Tm} {m:NH}
def qx (c:NV) (a b:Option NV):NR:=match c with| .bool c=>(if c then oN a .val else oN b .val)|_=> .fail
theorem At {c a b:NOpd}:ab (.pick c a b) t m=oN (ρ t c) fun c=>qx c (ρ t a) (ρ t b):=by
 show wV t c (fun c=>match c with| .bool c=>Bool.rec (wV t b .val) (wV t a .val) c|_=> .fail)=_
 rw[bZ]
 cases ρ t c with
 |none=>rfl
 |some v=>
  cases v with
  |bool q=>show Bool.rec (wV t b .val) (wV t a .val) q=if q then oN (ρ t a) .val else oN (ρ t b) .val;rw[bZ,bZ];cases q<;>rfl
  |_=>rfl
theorem xw {a b:Option NV}:qx (.bool true) a b=oN a .val:=_root_.id rfl
theorem vV {a b:Option NV}:qx (.bool false) a b=oN b .val:=_root_.id rfl
theorem wb {q p r:Bool}:qx (.bool q) (some (.bool p)) (some (.bool r))= .val (.bool (if q then p else r)):=by cases q<;>rfl
theorem uK {mx:Bool} {l:List NOpd}:ab (.minmax mx l) t m=xK t l fun l=>oN (qI mx l) .val:=by
 show pi t l .fail (fun l=>aS (qI mx l) .val)=_
 rw[qd]
 congr 1
 funext l
 cases qI mx l<;>rfl
theorem BH {k:IntKind} {a b:Int}:qI true [.int k (.lit a),.int k (.lit b)]=some (.int k (.lit (max a b))):=by
 show Option.rec (motive:=fun _=>Option NV) none some (cond (cond true (fJ a b) (fJ b a)) (some (NV.int k (.lit b))) (some (.int k (.lit a))))=_
 rw[bx]
 by_cases h:a<b
 ·simp[h,Int.max_def,show a<=b by omega]
 ·simp[h,Int.max_def];omega
theorem Bp {k:IntKind} {a b:Int}:qI false [.int k (.lit a),.int k (.lit b)]=some (.int k (.lit (min a b))):=by
 show Option.rec (motive:=fun _=>Option NV) none some (cond (cond false (fJ a b) (fJ b a)) (some (NV.int k (.lit b))) (some (.int k (.lit a))))=_
 rw[bx a b,bx b a]
 by_cases h:b<a
 ·rw[EF h,Int.min_eq_right (by omega)];rfl
 ·rw[EE h,Int.min_eq_left (by omega)];rfl
noncomputable def D9 (neg:Bool) (es:List EK) (a b:NV):NR:=match a,b with
 | .agg a,.agg b=>aS (cj es a b) fun r=>vr (aP (cond neg (dz r) r))
 |_,_=> .fail
theorem xG {neg:Bool} {es:List EK} {x y:NOpd}:ab (.eqAgg neg es x y) t m=oN (ρ t x) fun a=>oN (ρ t y) fun b=>D9 neg es a b:=by
 show wV t x (fun a=>wV t y fun b=>match a,b with
  | .agg a,.agg b=>aS (cj es a b) fun r=>vr (aP (cond neg (dz r) r))
  |_,_=> .fail)=_
 rw[bZ];congr 1;funext a;rw[bZ];rfl
theorem CX {es:List EK} {a b:List NV} {q:Bool} (h:cj es a b=some q):D9 false es (.agg a) (.agg b)= .val (.bool q):=by
 show aS (cj es a b) (fun r=>vr (aP (cond false (dz r) r)))=_
 rw[h];cases q<;>rfl
end
end Nm
namespace Nm
open Go Go.RowKit
section
variable {t:Tm} {m:NH}
end
end Nm
namespace Nm
open Go Go.RowKit
def ids:NV->List D4
 | .slc id _ _ _ _=> [id]
 |_=> []
def Sl (m:NH) (v:NV) (e:Nat) (C:List (List NV)):Prop:=(∀x∈C,x.length=e)/\((v= .nils/\C= [])∨
 ∃id off kc w c,v= .slc id off C.length e kc/\m.get id=some (.cells w c)/\dC m id/\off+C.length*e<=c.length/\(c.drop off).take (C.length*e)=C.flatten)
def sw (B m:NH) (v:NV) (e:Nat) (C:List (List NV)):Prop:=(∀x∈C,x.length=e)/\((v= .nils/\C= [])∨
 ∃id off kc c,v= .slc id off C.length e kc/\¬dC B id/\m.get id=some (.cells true c)/\dC m id/\off+C.length*e<=c.length/\off+kc*e<=c.length/\(c.drop off).take (C.length*e)=C.flatten)
theorem jl {e:Nat} {C:List (List NV)} (h:∀x∈C,x.length=e):C.flatten.length=C.length*e:=by
 induction C with
 |nil=>simp
 |cons a C ih=>
  rw[List.flatten_cons,List.length_append,h a (List.mem_cons_self ..),ih fun x hx=>h x (List.mem_cons_of_mem _ hx),List.length_cons,Nat.succ_mul]
  omega
theorem qP {e:Nat}:∀{C:List (List NV)} (_:∀x∈C,x.length=e) (i:Nat) (hi:i<C.length),(C.flatten.drop (i*e)).take e=C[i]:=by
 intro C
 induction C with
 |nil=>intro _ i hi;simp at hi
 |cons a C ih=>
  intro h i hi
  have ha:=h a (List.mem_cons_self ..)
  cases i with
  |zero=>
   rw[Nat.zero_mul,List.drop_zero,List.flatten_cons,List.take_append,ha,Nat.sub_self,List.take_zero,List.append_nil,←ha]
   simp
  |succ i=>
   rw[List.flatten_cons,List.drop_append,Nat.succ_mul,List.drop_eq_nil_of_le (by omega),List.nil_append,ha,Nat.add_sub_cancel]
   exact ih (fun x hx=>h x (List.mem_cons_of_mem _ hx)) i (by simpa using hi)
section
variable {m:NH} {v:NV} {e:Nat} {C:List (List NV)}
theorem Sl.len (h:Sl m v e C):BT v= .val (.int .i64 (.lit (C.length:Int))):=by
 obtain ⟨_,⟨rfl,rfl⟩|⟨id,off,kc,w,c,rfl,_⟩⟩:=h<;>rfl
theorem Sl.one (h:Sl m v e C):cellsOf v=some [v]:=by
 obtain ⟨_,⟨rfl,rfl⟩|⟨id,off,kc,w,c,rfl,_⟩⟩:=h<;>rfl
theorem qt {c:List NV} {off n e:Nat} (h:∀x∈C,x.length=e) (hn:C.length=n) (hc:off+n*e<=c.length) (hf:(c.drop off).take (n*e)=C.flatten) (i:Nat) (hi:i<C.length):
 off+i*e+e<=c.length/\(c.drop (off+i*e)).take e=C[i]:=by
 subst hn
 have h1:i*e+e<=C.length*e:=by rw[←Nat.succ_mul];exact Nat.mul_le_mul_right e hi
 refine ⟨by omega, ?_⟩
 rw[←qP h i hi,←hf,List.drop_take,List.take_take,List.drop_drop,Nat.min_eq_left (by omega)]
theorem Sl.at (h:Sl m v e C) (i:Nat) (hi:i<C.length):∃id off w c,uV e v (.int .i64 (.lit (i:Int)))= .val (.ptr id off)/\m.get id=some (.cells w c)/\dC m id/\off+e<=c.length/\(c.drop off).take e=C[i]:=by
 obtain ⟨h0,⟨rfl,rfl⟩|⟨id,off,kc,w,c,rfl,h1,h2,h3,h4⟩⟩:=h
 ·simp at hi
 ·obtain ⟨h5,h6⟩:=qt h0 rfl h3 h4 i hi
  exact ⟨id,off+i*e,w,c,tg (by omega) (by omega),h1,h2,h5,h6⟩
theorem Sl.chg {T:List D4} {m':NH} (h:Sl m v e C) (hc:Chg T m m') (ht:∀id∈ids v,id∉T):Sl m' v e C:=by
 obtain ⟨h0,⟨rfl,rfl⟩|⟨id,off,kc,w,c,rfl,h1,h2,h3,h4⟩⟩:=h
 ·exact ⟨h0,Or.inl ⟨rfl,rfl⟩⟩
 ·exact ⟨h0,Or.inr ⟨id,off,kc,w,c,rfl,(hc.get h2 (ht id (List.mem_cons_self ..))).trans h1,hc.old h2,h3,h4⟩⟩
theorem Sl.grew {m':NH} (h:Sl m v e C) (hc:Chg [] m m'):Sl m' v e C:=h.chg hc fun _ _=>List.not_mem_nil
theorem Sl.old (h:Sl m v e C):∀id∈ids v,dC m id:=by
 obtain ⟨h0,⟨rfl,rfl⟩|⟨id,off,kc,w,c,rfl,h1,h2,h3,h4⟩⟩:=h
 ·intro id hid;simp[ids] at hid
 ·intro i hi;simp[ids] at hi;rw[hi];exact h2
theorem sw.chg {B m:NH} {T:List D4} {m':NH} (h:sw B m v e C) (hc:Chg T m m') (ht:∀id∈ids v,id∉T):sw B m' v e C:=by
 obtain ⟨h0,⟨rfl,rfl⟩|⟨id,off,kc,c,rfl,hb,h1,h2,h3,h4⟩⟩:=h
 ·exact ⟨h0,Or.inl ⟨rfl,rfl⟩⟩
 ·exact ⟨h0,Or.inr ⟨id,off,kc,c,rfl,hb,(hc.get h2 (ht id (List.mem_cons_self ..))).trans h1,hc.old h2,h3,h4⟩⟩
theorem sw.new {B m:NH} (h:sw B m v e C):∀id∈ids v,¬dC B id:=by
 obtain ⟨h0,⟨rfl,rfl⟩|⟨id,off,kc,c,rfl,hb,h1,h2,h3,h4⟩⟩:=h
 ·intro id hid;simp[ids] at hid
 ·intro i hi;simp[ids] at hi;rw[hi];exact hb
theorem sw.nil {B m:NH}:sw B m .nils e []:=⟨fun x hx=>by simp at hx,Or.inl ⟨rfl,rfl⟩⟩
theorem Sl.nil:Sl m .nils e []:=⟨fun x hx=>by simp at hx,Or.inl ⟨rfl,rfl⟩⟩
theorem sw.of {B m:NH} {id:D4} {n k:Nat} {c:List NV} (h:∀x∈C,x.length=e) (hb:¬dC B id) (hg:m.get id=some (.cells true c)) (ho:dC m id) (hc:c=C.flatten) (hn:n=C.length) (hk:k=C.length):sw B m (.slc id 0 n e k) e C:=by
 subst hn hk hc
 have hl:=jl h
 exact ⟨h,Or.inr ⟨id,0,_,_,rfl,hb,hg,ho,by omega,by omega,by rw[List.drop_zero,←hl,List.take_length]⟩⟩
theorem Chg.put (m:NH) (id:D4) (o:NO):Chg [id] m (m.put id o):=
 ⟨Nat.le_refl _,fun {i} _ hn=>NH.get_put_ne m o (by simpa using hn)⟩
theorem dC.next_ne {m:NH} {i:D4} (h:dC m i):i≠m.next:=by
 intro e;rw[e] at h;exact Nat.lt_irrefl _ h
theorem Chg.add (m:NH) (o:NO):Chg [] m (m.add o):=
 ⟨by show m.next.toNat<=m.next.nxt.toNat;rw[D4.toNat_nxt];omega,fun {i} ho _=>NH.get_add_ne m o ho.next_ne⟩
theorem eR (m:NH) (o:NO):dC (m.add o) m.next:=by
 show m.next.toNat<m.next.nxt.toNat;rw[D4.toNat_nxt];omega
def jK (off:Nat):List (Nat×NV)->List NV->List NV
 | [],c=>c
 |(k,x)::us,c=>jK off us (c.set (off+k) x)
theorem kv {off:Nat}:∀(us:List (Nat×NV)) (c:List NV),(jK off us c).length=c.length:=by
 intro us
 induction us with
 |nil=>intro c;rfl
 |cons u us ih=>intro c;obtain ⟨k,x⟩:=u;show (jK off us (c.set (off+k) x)).length=_;rw[ih,List.length_set]
theorem sw.at {B:NH} (h:sw B m v e C) (i:Nat) (hi:i<C.length):∃id off c,uV e v (.int .i64 (.lit (i:Int)))= .val (.ptr id off)/\ids v= [id]/\¬dC B id/\m.get id=some (.cells true c)/\dC m id/\off+e<=c.length/\(c.drop off).take e=C[i]/\
 ∀(us:List (Nat×NV)) (M:NH),(∀u∈us,u.1<e)->M.get id=some (.cells true (jK off us c))->dC M id->sw B M v e (C.set i (jK 0 us C[i])):=by
 obtain ⟨h0,⟨rfl,rfl⟩|⟨id,off,kc,c,rfl,hb,h1,h2,h3,h3',h4⟩⟩:=h
 ·simp at hi
 ·obtain ⟨h5,h6⟩:=qt h0 rfl h3 h4 i hi
  refine ⟨id,off+i*e,c,tg (by omega) (by omega),rfl,hb,h1,h2,h5,h6,fun us M hk hM hMo=> ?_⟩
  have hlen:∀y∈C.set i (jK 0 us C[i]),y.length=e:=by
   intro y hy
   rcases List.mem_or_eq_of_mem_set hy with hy|hy
   ·exact h0 y hy
   ·rw[hy,kv];exact h0 _ (List.getElem_mem hi)
  refine ⟨hlen,Or.inr ⟨id,off,kc,_,by rw[List.length_set],hb,hM,hMo,by rw[kv,List.length_set];exact h3,by rw[kv];exact h3', ?_⟩⟩
  rw[List.length_set]
  have hone:∀(k:Nat) (x:NV) (_:k<e) (C:List (List NV)) (_:∀x∈C,x.length=e) (i:Nat) (hi:i<C.length),(C.set i (C[i].set k x)).flatten=C.flatten.set (i*e+k) x:=by
   intro k x hk C
   induction C with
   |nil=>intro _ i hi;simp at hi
   |cons a C ih=>
    intro h i hi
    have ha:=h a (List.mem_cons_self ..)
    cases i with
    |zero=>simp only[List.set_cons_zero,List.flatten_cons,List.getElem_cons_zero,Nat.zero_mul,Nat.zero_add];rw[List.set_append_left _ _ (by omega)]
    |succ i=>
     simp only[List.set_cons_succ,List.flatten_cons,List.getElem_cons_succ]
     rw[ih (fun x hx=>h x (List.mem_cons_of_mem _ hx)) i (by simpa using hi),List.set_append_right _ _ (by rw[ha,Nat.succ_mul];omega),ha,Nat.succ_mul]
     congr 2;omega
  have hall:∀(us:List (Nat×NV)) (_:∀u∈us,u.1<e) (c:List NV) (C:List (List NV)) (_:∀x∈C,x.length=e) (hi:i<C.length),(c.drop off).take (C.length*e)=C.flatten->
   ((jK (off+i*e) us c).drop off).take (C.length*e)=(C.set i (jK 0 us C[i])).flatten:=by
   intro us
   induction us with
   |nil=>intro _ c C _ hi hf;simp[jK];exact hf
   |cons u us ih=>
    obtain ⟨k,x⟩:=u
    intro hk c C hC hi hf
    have hk0:k<e:=hk (k,x) (List.mem_cons_self ..)
    have:=ih (fun u hu=>hk u (List.mem_cons_of_mem _ hu)) (c.set (off+i*e+k) x) (C.set i (C[i].set k x))
     (fun y hy=>by
      rcases List.mem_or_eq_of_mem_set hy with hy|hy
      ·exact hC y hy
      ·rw[hy,List.length_set];exact hC _ (List.getElem_mem hi))
     (by rw[List.length_set];exact hi)
     (by rw[List.length_set,hone k x hk0 C hC i hi,←hf,List.drop_set,EC (by omega),List.take_set];congr 1;omega)
    rw[List.getElem_set_self,List.set_set] at this
    simp only[List.length_set] at this
    show ((jK (off+i*e) us (c.set (off+i*e+k) x)).drop off).take (C.length*e)=(C.set i (jK 0 us (C[i].set (0+k) x))).flatten
    rw[Nat.zero_add];exact this
  exact hall us hk c C h0 hi h4
theorem Sl.flat (h:Sl m v e C):qw v:=by
 obtain ⟨_,⟨rfl,rfl⟩|⟨id,off,kc,w,c,rfl,_⟩⟩:=h<;>trivial
theorem Sl.same (h:Sl m v e C) {n:Nat}:bc (n+1) v v=true:=iC h.flat
end
end Nm
namespace Nm
open Go Go.RowKit
section
variable {L:List (D4×NV)} {t:Tm} {ctx:Option NV} {m:NH} {K:NV->NH->Prop}
theorem Am {q:Bool}:(q==true)=q:=by cases q<;>rfl
theorem As {q:Bool}:(q==false)= !q:=by cases q<;>rfl
theorem aQ {l:List (AK×NO)} {k:Nat} {m:NH} {S:List D4} (h:n7 l=S):Chg S m (hp l k m):=h▸oV l k m
theorem c7.wf' {P:Program} {E:NV->NH->Prop} {S:bE} {f:Nat} {args:List NV} {m m':NH} {v:NV} (h:c7 P S f args m v m') {K:NV->NH->Prop}:WF ⟨P,E⟩ S f args m K=K v m':=by
 rw[h.wf,ba]
theorem Bl {l:List NV}:cellsOf (.agg l)=some l:=_root_.id rfl
noncomputable def AC (m:NH) (o:Option (List NV)):NR:=match o with|some cs=> .mem (.ptr m.next 0) (m.add (.cells true cs))|none=> .fail
theorem AO {t:Tm} {m:NH} {x:NOpd} {ty:Nat}:ab (.box x ty) t m=oN (ρ t x) fun v=>AC m (cellsOf v):=Ai
theorem Bg {m:NH} {cs:List NV}:AC m (some cs)= .mem (.ptr m.next 0) (m.add (.cells true cs)):=_root_.id rfl
abbrev ii (z:Int):NV:= .int .i64 (.lit z)
end
end Nm
namespace Nm
open Go Go.RowKit
def yU (P:Program) (S:bE) (q:D4) (args:List NV) (m:NH) (v:NV) (m':NH):Prop:=∃c,yA P S q args m (.val v c m')
def WY (P:Program) (S:bE) (q:D4) (args:List NV) (m:NH) (K:NV->NH->Prop):Prop:=∃v c m',yA P S q args m (.val v c m')/\K v m'
section
variable {P:Program} {S:bE} {f:Nat} {q:D4} {args:List NV} {m:NH}
section
variable {K:NV->NH->Prop} {st:Nat} {p:Jump} {tm:NT NV} {ps:List D4} {a b:NC} {i:Nat}
end
theorem WY.ret {K:NV->NH->Prop} (h:WY P S q args m K):∃v m',yU P S q args m v m'/\K v m':=by
 obtain ⟨v,c,m',hc,hk⟩:=h;exact ⟨v,m',⟨c,hc⟩,hk⟩
theorem WY.ex {Φ:NV->NH->Prop} (h:∀K:NV->NH->Prop,(∀v m',Φ v m'->K v m')->WY P S q args m K):∃v m',yU P S q args m v m'/\Φ v m':=(h Φ fun _ _ h=>h).ret
theorem WF.ex {Φ:NV->NH->Prop} (h:∀K:NV->NH->Prop,(∀v m',Φ v m'->K v m')->WF P S f args m K):∃v m',c7 P S f args m v m'/\Φ v m':=(h Φ fun _ _ h=>h).ret
def nu (ks:List D4) (t t':Tm):Prop:=∀k,k∉ks->NT.get k t'=NT.get k t
theorem nu.refl (ks:List D4) (t:Tm):nu ks t t:=fun _ _=>rfl
theorem nu.get {ks:List D4} {t t':Tm} (h:nu ks t t') {k:D4} {v:Option NV} (g:NT.get k t=v) (hk:k∉ks):NT.get k t'=v:=(h k hk).trans g
theorem nu.trans {ks ls:List D4} {a b c:Tm} (h:nu ks a b) (h':nu ls b c) (hs:∀k∈ls,k∈ks):nu ks a c:=fun k hk=>(h' k fun q=>hk (hs k q)).trans (h k hk)
theorem W.range {cap:List NV} {fx:NOpd} {ps:List D4} {a b:NC} {t:Tm} {dfs:List Dfr} {ctx:Option NV} {Q:Out->Dyn->Prop} {M m':NH} {v:NV}
 (hf:ρ t fx=some (.fn f cap)) {x:D4} (hx:m.next=x) {y:D4} (hy:(m.add (.defd true)).next=y) (hM:(m.add (.defd true)).add (.loop 0 .none t ps a b)=M) (hc:c7 P S f (.yld y::cap) M v m')
 {tm:NT NV} {ps':List D4} {a' b':NC} (hl:m'.get y=some (.loop 0 .none tm ps' a' b')) (hQ:Q .norm ⟨t,.mark x::dfs,ctx,hp [] 0 (m'.put y (.loop 3 .none tm ps' a' b'))⟩):
 W P S none (.rangeFunc fx ps a b) ⟨t,dfs,ctx,m⟩ Q:=by
 subst hx hy hM
 rw[ba] at hQ
 obtain ⟨c,hc⟩:=hc
 refine ⟨.norm,_,cI.range hf hc ?_,hQ⟩
 unfold dj
 rw[hl]
 dsimp only
 rw[show Nat.beq 0 1=false from rfl,cond_false,NH.set_eq]
end
end Nm
namespace Nm
open Go Go.RowKit
section
variable (P:PE) (S:bE) (r:Option D4)
def CG (c:NC) (Q:Out->Dyn->Prop) (d:Dyn):Prop:=wp P S r c d Q
def yZ (dst:Option D4) (t:Tm) (dfs:List Dfr) (ctx:Option NV) (m:NH) (x:NR) (l:List NOper) (K:Dyn->Prop):Prop:=wN P S dst t dfs ctx m x fun d=>wO P S l d K
def yE (dst:Option D4) (t:Tm) (dfs:List Dfr) (ctx:Option NV) (l:List NOper) (K:Dyn->Prop) (v:NV) (m:NH):Prop:=wO P S l ⟨ay dst v t,dfs,ctx,m⟩ K
def gA (dst:Option D4) (op:NOp) (l:List NOper) (K:Dyn->Prop) (d:Dyn):Prop:=yZ P S dst d.t d.dfs d.ctx d.h (ab op d.t d.h) l K
def gB (dst:Option D4) (l:List NOper) (K:Dyn->Prop) (d:Dyn):Prop:=wO P S l ⟨ay dst aH d.t,d.dfs,d.ctx,d.h⟩ K
def dA (dst:Option D4) (op:NOp) (pre idx:Nat) (l:List NOper) (hs:List (Nat×NH)) (rs:List (Nat×(NH->NR)×NV)) (K:Dyn->Prop) (d:Dyn):Prop:=wX (aj op) (ab op d.t d.h) P S (ab op d.t) dst pre idx l hs rs d K
def dB (dst:Option D4) (l:List NOper) (hs:List (Nat×NH)) (rs:List (Nat×(NH->NR)×NV)) (K:Dyn->Prop) (d:Dyn):Prop:=wD P S l hs rs ⟨ay dst aH d.t,d.dfs,d.ctx,d.h⟩ K
def A4 (pre idx:Nat) (m:NH) (l:List NOper) (hs:List (Nat×NH)) (rs:List (Nat×(NH->NR)×NV)) (K:Dyn->Prop) (d:Dyn):Prop:=aO pre d.h rs=true/\wD P S l ((idx,m)::hs) rs d K
def yd (dst:Option D4) (t:Tm) (dfs:List Dfr) (ctx:Option NV) (K:Dyn->Prop) (v:NV) (m:NH):Prop:=K ⟨ay dst v t,dfs,ctx,m⟩
end
section
variable {P:PE} {S:bE} {r:Option D4} {dst:Option D4} {op:NOp} {pre idx:Nat} {l:List NOper} {hs:List (Nat×NH)} {rs:List (Nat×(NH->NR)×NV)}
 {L:List (D4×NV)} {t:Tm} {dfs:List Dfr} {ctx:Option NV} {m m':NH} {v:NV} {k g:D4} {d:Dyn} {Q:Out->Dyn->Prop} {K:Dyn->Prop} {b:Bool}
theorem Bf {x y:NC}:wp P S r (.seq x y) d Q=wp P S r x d (jR (CG P S r y Q) Q):=_root_.id rfl
theorem AV {c:NC}:CG P S r c Q d=wp P S r c d Q:=_root_.id rfl
theorem Aj {g:NOpd} {x y:NC}:wp P S r (.cond g x y) ⟨aK L t,dfs,ctx,m⟩ Q=wC (ρ (aK L t) g) (CG P S r x Q) (CG P S r y Q) ⟨aK L t,dfs,ctx,m⟩:=_root_.id rfl
theorem zN:wO P S (⟨dst,op,none,pre,idx⟩::l) ⟨aK L t,dfs,ctx,m⟩ K=yZ P S dst (aK L t) dfs ctx m (ab op (aK L t) m) l K:=_root_.id rfl
theorem AF:yZ P S (some k) (aK L t) dfs ctx m (.val v) l K=wO P S l ⟨aK ((k,v)::L) t,dfs,ctx,m⟩ K:=_root_.id rfl
theorem Bz:yZ P S (some k) (aK L t) dfs ctx m (.mem v m') l K=wO P S l ⟨aK ((k,v)::L) t,dfs,ctx,m'⟩ K:=_root_.id rfl
theorem yG:yZ P S none (aK L t) dfs ctx m (.mem v m') l K=wO P S l ⟨aK L t,dfs,ctx,m'⟩ K:=_root_.id rfl
theorem Ae {f:Nat} {args:List NV}:yZ P S dst t [] ctx m (.call f args) l K=WF P S f args m (yE P S dst t [] ctx l K):=_root_.id rfl
theorem yb:yE P S (some k) (aK L t) dfs ctx l K v m=wO P S l ⟨aK ((k,v)::L) t,dfs,ctx,m⟩ K:=_root_.id rfl
theorem w7:wO P S (⟨dst,op,some (g,b),pre,idx⟩::l) ⟨aK L t,dfs,ctx,m⟩ K=wG (eC g L (NT.get g t)) b (gA P S dst op l K) (gB P S dst l K) ⟨aK L t,dfs,ctx,m⟩:=xj
theorem CQ:gA P S dst op l K ⟨aK L t,dfs,ctx,m⟩=yZ P S dst (aK L t) dfs ctx m (ab op (aK L t) m) l K:=_root_.id rfl
theorem DB:gB P S (some k) l K ⟨aK L t,dfs,ctx,m⟩=wO P S l ⟨aK ((k,aH)::L) t,dfs,ctx,m⟩ K:=_root_.id rfl
theorem sV:wD P S (⟨dst,op,some (g,b),pre,idx⟩::l) hs rs ⟨aK L t,dfs,ctx,m⟩ K=wG (eC g L (NT.get g t)) b (dA P S dst op pre idx l hs rs K) (dB P S dst l hs rs K) ⟨aK L t,dfs,ctx,m⟩:=sS
theorem Dp:dA P S dst op pre idx l hs rs K ⟨aK L t,dfs,ctx,m⟩=wX (aj op) (ab op (aK L t) m) P S (ab op (aK L t)) dst pre idx l hs rs ⟨aK L t,dfs,ctx,m⟩ K:=_root_.id rfl
theorem Dd:dB P S (some k) l hs rs K ⟨aK L t,dfs,ctx,m⟩=wD P S l hs rs ⟨aK ((k,aH)::L) t,dfs,ctx,m⟩ K:=_root_.id rfl
def DH (b:Bool) (P:PE) (S:bE) (dst:Option D4) (t:Tm) (dfs:List Dfr) (ctx:Option NV) (m:NH) (x:NR) (K:Dyn->Prop):Prop:=Dz P S b dst t dfs ctx m x K
section
variable {f:NH->NR}
theorem zZ {x:NR}:wX .eff x P S f dst pre idx l hs rs ⟨t,dfs,ctx,m⟩ K=(ahead pre hs=true/\DH (kT hs idx l) P S dst t dfs ctx m x (A4 P S pre idx m l hs rs K)):=_root_.id rfl
end
theorem xP:DH b P S none (aK L t) dfs ctx m (.mem v m') K=K ⟨aK L t,dfs,ctx,m'⟩:=by cases b<;>rfl
theorem uZ {P:Program} {f:Nat} {args:List NV}:DH b P S dst t dfs ctx m (.call f args) K=WF P S f args m (yd dst t dfs ctx K):=by cases b<;>cases dfs<;>rfl
theorem Ac {x:Nat×NH} {i:Nat}:kT (x::hs) i l=false:=_root_.id rfl
theorem xz {i:Nat}:kT [] i l=a7 i l:=_root_.id rfl
theorem Au {i:Nat}:a7 i []=true:=_root_.id rfl
theorem Cy {i:Nat} {g:Option (D4×Bool)}:a7 i (⟨dst,op,g,pre,idx⟩::l)=cond (Nat.testBit pre i) (a7 i l) false:=_root_.id rfl
theorem xS:yd (some k) (aK L t) dfs ctx K v m=K ⟨aK ((k,v)::L) t,dfs,ctx,m⟩:=_root_.id rfl
theorem zO {m0:NH}:A4 P S pre idx m0 l hs rs K ⟨t,dfs,ctx,m⟩=(aO pre m rs=true/\wD P S l ((idx,m0)::hs) rs ⟨t,dfs,ctx,m⟩ K):=_root_.id rfl
end
end Nm
namespace Nm
open Go Go.RowKit
section
variable {t:Tm} {m:NH}
def yz (v:NV):NR:=match v with| .str s=> .val (.int .i64 (.lit (s.length:Int)))|_=> .fail
theorem z7 {x:NOpd}:ab (.lenStr x) t m=oN (ρ t x) yz:=by
 show wV t x (fun v=>match v with| .str s=>cA s fun n=> .val (.int .i64 (.lit (.ofNat n)))|_=> .fail)=_
 rw[bZ]
 congr 1
 funext v
 cases v with
 |str s=>exact bo s (fun n=>NR.val (.int .i64 (.lit (.ofNat n))))
 |_=>rfl
theorem vJ {s:List Nat}:yz (.str s)= .val (.int .i64 (.lit (s.length:Int))):=_root_.id rfl
noncomputable def Ao (v i:NV):NR:=aS (nI i) fun i=>match v with| .str s=>aS s[i]? fun b=> .val (.int .u8 (.lit (.ofNat b)))|_=> .fail
theorem Bn {x i:NOpd}:ab (.indexStr x i) t m=oN (ρ t x) fun v=>oN (ρ t i) fun i=>Ao v i:=by
 show wV t x (fun v=>cZ t i fun i=>match v with
  | .str s=>aS (gt s i) fun b=> .val (.int .u8 (.lit (.ofNat b)))
  |_=> .fail)=_
 rw[bZ]
 congr 1
 funext v
 unfold cZ
 rw[bZ]
 congr 1
 funext i
 unfold Ao
 congr 1
 funext i
 cases v with
 |str s=>dsimp only;rw[cY]
 |_=>rfl
def zm (o:Option Nat):NR:=match o with|some b=> .val (.int .u8 (.lit (b:Int)))|none=> .fail
theorem BR {s:List Nat} {k:IntKind} {z:Int} (h0:0<=z):Ao (.str s) (.int k (.lit z))=zm s[z.toNat]? :=by
 obtain ⟨i,rfl⟩:=EH h0
 show aS s[i]? (fun b=> .val (.int .u8 (.lit (.ofNat b))))=zm s[i]?
 cases s[i]? <;>rfl
theorem zl {b:Nat}:zm (some b)= .val (.int .u8 (.lit (b:Int))):=_root_.id rfl
theorem CC {a b:List Nat}:dP .num .eql (.str a) (.str b)=some (.bool (decide (a=b))):=by
 show aP (qL a b)=_
 rw[aC]
 congr 2
 rw[Bool.eq_iff_iff,decide_eq_true_eq]
 constructor
 ·intro h
  induction a generalizing b with
  |nil=>cases b with
   |nil=>rfl
   |cons=>cases h
  |cons x a ih=>cases b with
   |nil=>cases h
   |cons y b=>
    change cond (Nat.beq x y) (qL a b) false=true at h
    cases hxy:Nat.beq x y with
    |false=>rw[hxy] at h;cases h
    |true=>rw[hxy] at h;rw[EG hxy,ih h]
 ·rintro rfl;exact nn a
theorem yX {a b:List Nat} (h:a.length+b.length<=1099511627776):dP .num .add (.str a) (.str b)=some (.str (a++b)):=by
 show iV a b (fun l=>cA l fun n=>cond (Nat.ble n 1099511627776) (some (NV.str l)) none)=_
 rw[ec,bo,Nat.ble_eq_true_of_le (by rw[List.length_append];exact h)];rfl
theorem wrap_u64 {n:Int}:bz .u64 n=n % 18446744073709551616:=by rw[bg];rfl
noncomputable def AB (k:IntKind) (v:NV):NR:=match v with| .int _ (.lit n)=> .val (.int k (.lit (bz k n)))| .int _ (.sym c ts)=>vr (e9 k c ts)|_=> .fail
theorem BY {k:IntKind} {x:NOpd}:ab (.toInt k x) t m=oN (ρ t x) (AB k):=by
 show wV t x (fun v=>match v with| .int _ (.lit n)=>vr (bJ k (bz k n))| .int _ (.sym c ts)=>vr (e9 k c ts)|_=> .fail)=_
 rw[bZ]
 congr 1
 funext v
 cases v with
 |int k' x=>cases x with
  |lit n=>show vr (bJ k (bz k n))=_;rw[aM];rfl
  |_=>rfl
 |_=>rfl
theorem zn {k:IntKind} {n:Int}:AB .u64 (.int k (.lit n))= .val (.int .u64 (.lit (n % 18446744073709551616))):=by show NR.val (.int .u64 (.lit (bz .u64 n)))=_;rw[wrap_u64]
noncomputable def yv (v:NV):NR:=match v with| .ptr i o=> .val (.ptr i o)| .fn f c=> .val (.fn f c)| .yld l=> .val (.yld l)|_=> .fail
theorem zG {x:NOpd}:ab (.nilCheck x) t m=oN (ρ t x) yv:=by
 show wV t x _=_
 rw[bZ]
 cases ρ t x with
 |none=>rfl
 |some v=>cases v<;>rfl
theorem vw {i:D4} {o:Nat}:yv (.ptr i o)= .val (.ptr i o):=_root_.id rfl
noncomputable def rR (x:NR) (K:NV->Prop):Prop:=match x with| .val v=>K v|_=>False
noncomputable def nV (t:Tm) (m:NH):List NRes->(List NV->Prop)->Prop
 | [],K=>K []
 | .tmp k::l,K=>rK (NT.get k t) fun v=>nV t m l fun vs=>K (v::vs)
 | .cell1 k::l,K=>rR (ab (.load1 (.tmp k)) t m) fun v=>nV t m l fun vs=>K (v::vs)
 | .cellN k n::l,K=>rR (ab (.loadN n (.tmp k)) t m) fun v=>nV t m l fun vs=>K (v::vs)
theorem u9:∀(rs:List NRes) (K:List NV->Prop) (G:List NV->CR),nV t m rs K->∃l,cg m t rs .fail G=G l/\K l:=by
 intro rs
 induction rs with
 |nil=>intro K G h;exact ⟨[],rfl,h⟩
 |cons r rs ih=>
  intro K G h
  cases r with
  |tmp k=>
   cases hv:NT.get k t with
   |none=>unfold nV at h;rw[hv] at h;exact h.elim
   |some v=>
    unfold nV at h;rw[hv] at h
    obtain ⟨l,h1,h2⟩:=ih (fun vs=>K (v::vs)) (fun l=>G (v::l)) h
    refine ⟨v::l, ?_,h2⟩
    show (match (match NT.get k t with|some v=>NR.val v|none=> .fail) with| .val v=>cg m t rs .fail (fun l=>G (v::l))|_=> .fail)=_
    rw[hv];exact h1
  |cell1 k=>
   cases hv:ab (.load1 (.tmp k)) t m with
   |val v=>
    unfold nV at h;rw[hv] at h
    obtain ⟨l,h1,h2⟩:=ih (fun vs=>K (v::vs)) (fun l=>G (v::l)) h
    refine ⟨v::l, ?_,h2⟩
    change dM (.tmp k) t m= .val v at hv
    show (match dM (.tmp k) t m with| .val v=>cg m t rs .fail (fun l=>G (v::l))|_=> .fail)=_
    rw[hv];exact h1
   |_=>unfold nV at h;rw[hv] at h;exact h.elim
  |cellN k n=>
   cases hv:ab (.loadN n (.tmp k)) t m with
   |val v=>
    unfold nV at h;rw[hv] at h
    obtain ⟨l,h1,h2⟩:=ih (fun vs=>K (v::vs)) (fun l=>G (v::l)) h
    refine ⟨v::l, ?_,h2⟩
    change dD n (.tmp k) t m= .val v at hv
    show (match dD n (.tmp k) t m with| .val v=>cg m t rs .fail (fun l=>G (v::l))|_=> .fail)=_
    rw[hv];exact h1
   |_=>unfold nV at h;rw[hv] at h;exact h.elim
def zP (rs:List NRes) (K:NV->NH->Prop) (o:Out) (d:Dyn):Prop:=(o= .norm∨o= .ret)/\d.dfs= []/\nV d.t d.h rs fun l=>K (iZ l) d.h
theorem zq {rs:List NRes} {K:NV->NH->Prop} {o:Out} {d:Dyn} (h:zP rs K o d):DM rs K o d:=by
 obtain ⟨h1,h2,h3⟩:=h
 obtain ⟨l,h4,h5⟩:=u9 rs _ (fun l=> .val (iZ l) d.ctx d.h) h3
 exact ⟨h1,h2,iZ l,h4,h5⟩
theorem zi {rs:List NRes} {K:NV->NH->Prop} {ctx:Option NV}:zP rs K .ret ⟨t, [],ctx,m⟩=nV t m rs (fun l=>K (iZ l) m):=propext ⟨fun h=>h.2.2,fun h=>⟨.inr rfl,rfl,h⟩⟩
theorem BB {K:List NV->Prop}:nV t m [] K=K []:=_root_.id rfl
theorem Cn {K:List NV->Prop} {k:D4} {l:List NRes}:nV t m (.tmp k::l) K=rK (NT.get k t) fun v=>nV t m l fun vs=>K (v::vs):=_root_.id rfl
theorem wM {v:NV}:iZ [v]=v:=_root_.id rfl
theorem wE {a b:NV} {l:List NV}:iZ (a::b::l)= .tup (a::b::l):=_root_.id rfl
theorem WF.of_wpG {P:Program} {E:NV->NH->Prop} {S:bE} {f:Nat} {args:List NV} {nf:NFun} (hs:∀l,S f l=fun _=>none) (hf:ak P f=some (.code nf)) {K:NV->NH->Prop} {L:List (D4×NV)} (hL:cV args 0 .leaf=aK L .leaf)
 (h:wp ⟨P,E⟩ S none nf.body ⟨aK L .leaf, [],none,hp [] 0 m⟩ (zP nf.results K)):WF ⟨P,E⟩ S f args m K:=by
 rw[ba] at h
 obtain ⟨o,d,h1,h2⟩:=nz _ _ _ h
 rw[←hL] at h1
 cases o with
 |pan v=>exact Or.inr ⟨v,d.ctx,d.h,Call.of_pan hs hf h1 h2.1,h2.2⟩
 |_=>
  obtain ⟨ho,hd,v,hv,hK⟩:=zq h2
  exact Or.inl ⟨v,d.ctx,d.h,Call.of_run hs hf ho h1 hd hv (by simp),hK⟩
end
end Nm
namespace Nm
open Go Go.RowKit
section
variable {t:Tm} {m:NH}
end
end Nm
namespace Nm
open Go Go.RowKit
section
variable {P:Program} {S:bE}
end
section
variable {P:PE} {S:bE} {dst:D4} {L:List (D4×NV)} {t:Tm} {dfs:List Dfr} {ctx:Option NV} {l:List NOper} {K:Dyn->Prop} {B m:NH} {v:NV} {e:Nat} {C:List (List NV)} {x:D4} {w:Bool} {cs:List NV} {kc bytes:Nat}
end
section
variable {P:Program} {S:bE} {f:Nat} {args:List NV} {m:NH} {K:NV->NH->Prop}
variable {E:NV->NH->Prop}
end
section
variable {P:PE} {S:bE} {r:Option D4} {a b:NC} {d:Dyn} {Q:Out->Dyn->Prop}
end
section
variable {P:Program} {S:bE} {q:D4} {args:List NV} {m:NH} {K:NV->NH->Prop}
end
section
variable {P:Program} {S:bE} {f:Nat} {q:D4} {args:List NV} {m:NH}
theorem WF.ex1 {v:NV} {Φ:NH->Prop} (h:∀K:NV->NH->Prop,(∀m',Φ m'->K v m')->WF P S f args m K):∃m',c7 P S f args m v m'/\Φ m':=by
 obtain ⟨w,m',h1,rfl,h2⟩:=WF.ret (h (fun w m'=>w=v/\Φ m') fun m' h=>⟨rfl,h⟩)
 exact ⟨m',h1,h2⟩
theorem WY.ex1 {v:NV} {Φ:NH->Prop} (h:∀K:NV->NH->Prop,(∀m',Φ m'->K v m')->WY P S q args m K):∃m',yU P S q args m v m'/\Φ m':=by
 obtain ⟨w,m',h1,rfl,h2⟩:=WY.ret (h (fun w m'=>w=v/\Φ m') fun m' h=>⟨rfl,h⟩)
 exact ⟨m',h1,h2⟩
end
end Nm
namespace Nm
open Go Go.RowKit
def k8 (P:Program):List Field->Nat->Nat->Bool
 | [],o,n=>o==n
 |f::fs,o,n=>(f.offset==o)&&k8 P fs (o+P.cellsOf f.type) n
def gi (P:Program) (T:List TypeId) (t:TypeId):Bool:=match P.underlying t with
 |some .bool|some (.int _)|some .string=>true
 |some (.slice e)=>T.contains e&&decide (0<P.cellsOf e)
 |some (.struct fs)=>fs.toList.all (fun f=>T.contains f.type)&&k8 P fs.toList 0 (P.cellsOf t)
 |_=>false
def qn (P:Program) (T:List TypeId):Bool:=T.all (gi P T)
mutual
inductive Ty (P:Program) (m:NH):TypeId->List NV->Prop
 |bool {t:TypeId} (ht:P.underlying t=some .bool) (b:Bool):Ty P m t [.bool b]
 |int {t:TypeId} {k:IntKind} (ht:P.underlying t=some (.int k)) (n:Int) (h:(Lit.int k n).wf=true):Ty P m t [.int k (.lit n)]
 |str {t:TypeId} (ht:P.underlying t=some .string) (l:List Nat) (h:∀b∈l,b<256) (hl:l.length<=maxLen):Ty P m t [.str l]
 |slc {t e:TypeId} (ht:P.underlying t=some (.slice e)) (v:NV) (C:List (List NV)) (hS:Sl m v (P.cellsOf e) C) (hl:C.length<=maxLen) (h:∀c∈C,Ty P m e c):Ty P m t [v]
 |struct {t:TypeId} {fs:Array Field} (ht:P.underlying t=some (.struct fs)) (l:List NV) (h:TyL P m (fs.toList.map (·.type)) l):Ty P m t l
inductive TyL (P:Program) (m:NH):List TypeId->List NV->Prop
 |nil:TyL P m [] []
 |cons {t:TypeId} {ts:List TypeId} (a b:List NV) (h:Ty P m t a) (hl:TyL P m ts b):TyL P m (t::ts) (a++b)
end
mutual
theorem Ty.grew {P:Program} {m m':NH} (hC:Chg [] m m'):∀{t:TypeId} {l:List NV},Ty P m t l->Ty P m' t l
 |_,_,.bool ht b=> .bool ht b
 |_,_,.int ht n h=> .int ht n h
 |_,_,.str ht l h hl=> .str ht l h hl
 |_,_,.slc ht v C hS hl h=> .slc ht v C (hS.grew hC) hl (fun c hc=>(h c hc).grew hC)
 |_,_,.struct ht l h=> .struct ht l (TyL.grew hC h)
theorem TyL.grew {P:Program} {m m':NH} (hC:Chg [] m m'):∀{ts:List TypeId} {l:List NV},TyL P m ts l->TyL P m' ts l
 |_,_,.nil=> .nil
 |_,_,.cons a b h hl=> .cons a b (h.grew hC) (TyL.grew hC hl)
end
section
variable [Val]
def Ro (P:Program) (W:World) (ι:az) (m:NH):Prop:=Rel P ι W.heap.size m W/\∀i p,ι i=some p->¬Live (m.get i)
def ext (ι:az) (i:D4) (p:Pl):az:=fun j=>if j.toNat=i.toNat then some p else ι j
theorem Ro.addE {P:Program} {W:World} {ι:az} {m:NH} (h:Ro P W ι m) {b o:Nat} {c:List NV} {cur:Array Value} {T:TypeId} {fz:Nat×Nat} (hb:W.heap[b]? =some (.cells cur T fz)) (hn:o+c.length<=cur.size)
 (hc:∀i v,c[i]? =some v->∃v',cur[o+i]? =some v'/\VR ι v v'/\v'.oneCell'=true):
 ∃ι',Ro P W ι' (m.add (.cells false c))/\ι.le ι'/\Chg [] m (m.add (.cells false c))/\ι' m.next=some ⟨b,o,cur.size⟩/\(m.add (.cells false c)).get m.next=some (.cells false c)/\dC (m.add (.cells false c)) m.next:=by
 obtain ⟨hR,hL⟩:=h
 have hold:∀i p,ι i=some p->dC m i:=fun i p hi=>by
  obtain ⟨x,hx,_⟩:=hR.obj i p hi
  exact hR.fresh i x hx
 have hext:∀i p,ι i=some p->ext ι m.next ⟨b,o,cur.size⟩ i=some p:=fun i p hi=>by
  unfold ext;rw[EC (Nat.ne_of_lt (hold i p hi))];exact hi
 have hle:ι.le (ext ι m.next ⟨b,o,cur.size⟩):=hext
 have hinv:∀i p,ext ι m.next ⟨b,o,cur.size⟩ i=some p->(i=m.next/\p=⟨b,o,cur.size⟩)∨(ι i=some p/\i≠m.next):=fun i p hi=>by
  unfold ext at hi
  by_cases e:i.toNat=m.next.toNat
  ·rw[ED e] at hi;injection hi with hi;exact Or.inl ⟨D4.toNat_inj e,hi.symm⟩
  ·rw[EC e] at hi;exact Or.inr ⟨hi,fun q=>e (by rw[q])⟩
 have hnl:∀i p,ext ι m.next ⟨b,o,cur.size⟩ i=some p->¬Live ((m.add (.cells false c)).get i):=fun i p hi=>by
  rcases hinv i p hi with ⟨rfl,_⟩|⟨hi,hne⟩
  ·rw[NH.get_add_same];exact fun q=>q.2 c rfl
  ·rw[NH.get_add_ne _ _ hne];exact hL i p hi
 refine ⟨ext ι m.next ⟨b,o,cur.size⟩,⟨⟨?_, ?_, ?_, ?_, ?_,hR.gl.mono hle⟩,hnl⟩,hle,Chg.add m _,by unfold ext;rw[ED rfl],NH.get_add_same m _,eR m _⟩
 ·intro i p hi
  rcases hinv i p hi with ⟨rfl,rfl⟩|⟨hi,hne⟩
  ·refine ⟨.cells false c,NH.get_add_same m _, ?_⟩
   show ∃(cur':Array Value) (T:TypeId) (fz:Nat×Nat),W.heap[b]? =some (.cells cur' T fz)/\(false=true->fz=(0,0))/\cur'.size=cur.size/\o+c.length<=cur.size/\∀i v,c[i]? =some v->∃v',cur'[o+i]? =some v'/\VR (ext ι m.next ⟨b,o,cur.size⟩) v v'/\v'.oneCell'=true
   refine ⟨cur,T,fz,hb,fun q=>Bool.noConfusion q,rfl,hn,fun i v hv=> ?_⟩
   obtain ⟨v',h1,h2,h3⟩:=hc i v hv
   exact ⟨v',h1,h2.mono hle,h3⟩
  ·obtain ⟨x,h1,h2⟩:=hR.obj i p hi
   exact ⟨x,(NH.get_add_ne m _ hne).trans h1,h2.mono hle rfl⟩
 ·intro i j p q hi hj hne hl _
  exact EB hl (hnl i p hi)
 ·intro i p hi hl;exact EB hl (hnl i p hi)
 ·intro i p hi
  rcases hinv i p hi with ⟨rfl,rfl⟩|⟨hi,_⟩
  ·exact (Array.getElem?_eq_some_iff.mp hb).1
  ·exact hR.lt i p hi
 ·intro i x hx
  by_cases e:i=m.next
  ·subst e;exact eR m _
  ·rw[NH.get_add_ne _ _ e] at hx
   exact (Chg.add m (.cells false c)).old (hR.fresh i x hx)
theorem Ro.add {P:Program} {W:World} {ι:az} {m:NH} (h:Ro P W ι m) {b o:Nat} {c:List NV} {cur:Array Value} {T:TypeId} {fz:Nat×Nat} (hb:W.heap[b]? =some (.cells cur T fz)) (hn:o+c.length<=cur.size)
 (hc:∀i v,c[i]? =some v->∃v',cur[o+i]? =some v'/\VR ι v v'/\v'.oneCell'=true):
 ∃ι' m',Ro P W ι' m'/\ι.le ι'/\Chg [] m m'/\ι' m.next=some ⟨b,o,cur.size⟩/\m'.get m.next=some (.cells false c)/\dC m' m.next:=by
 obtain ⟨ι',h⟩:=h.addE hb hn hc
 exact ⟨ι',_,h⟩
theorem Ro.nil (P:Program) (W:World) (hw:NG<=W.heap.size):Ro P W ι0 G0:=⟨AJ P W hw,fun i p h=>by rw[gR h];exact cG⟩
omit [Val] in
theorem uU (a:Addr) (j:Nat):(a.add j).block=a.block:=by unfold Addr.add;split<;>rfl
omit [Val] in
theorem za (a:Addr) (j:Nat):(a.add j).off=a.off+j:=by
 unfold Addr.add;split
 ·rename_i h;subst h;rfl
 ·rfl
omit [Val] in
theorem o6 (a:Addr) (m n:Nat):(a.add m).add n=a.add (m+n):=by
 unfold Addr.add
 by_cases h:n=0
 ·subst h;simp
 ·by_cases h':m=0
  ·subst h';simp
  ·simp[h,h'];omega
omit [Val] in
theorem ko {w:World} {a:Addr} {v:Value} (h:w.cell? a=some v):∃cur T fz,w.heap[a.block]? =some (.cells cur T fz)/\cur[a.off]? =some v:=by
 unfold World.cell? at h
 split at h
 ·rename_i cur T fz hb
  refine ⟨cur,T,fz,hb, ?_⟩
  split at h
  ·cases h
  ·exact h
 ·cases h
theorem VRL.append {ι:az} {a:List NV} {a':List Value} {b:List NV} {b':List Value} (h:VRL ι a a') (k:VRL ι b b'):VRL ι (a++b) (a'++b'):=by
 induction a generalizing a' with
 |nil=>cases h;exact k
 |cons v l ih=>cases h with
  |cons _ v' _ l' h hl=>exact .cons _ _ _ _ h (ih hl)
def Cs (W:World) (ι:az) (a:Addr) (l:List NV):Prop:=∀(j:Nat) (v:NV),l[j]? =some v->∃v',W.cell? (a.add j)=some v'/\VR ι v v'/\v'.oneCell'=true
theorem Cs.mono {W:World} {ι ι':az} (hι:ι.le ι') {a:Addr} {l:List NV} (h:Cs W ι a l):Cs W ι' a l:=fun j v hv=>let ⟨v',h1,h2,h3⟩:=h j v hv;⟨v',h1,h2.mono hι,h3⟩
theorem vk {P:Program} {W:World} {T:List TypeId} (hT:qn P T=true) (hne:∃(b:Nat) (cur:Array Value) (T:TypeId) (fz:Nat×Nat),W.heap[b]? =some (.cells cur T fz)) {H:Type} {enc:TypeId×Value->H}:∀(n:Nat) (t:TypeId),t∈T->∀(cs:List Value) (x:DataW H×List MemPlace),DataW.trod enc P W 0 (fun _=>true) true n t cs=some x->
 ∀(ι:az) (m:NH),Ro P W ι m->∃ι' m' l,Ro P W ι' m'/\ι.le ι'/\Chg [] m m'/\VRL ι' l cs/\(∀v∈cs,v.oneCell'=true)/\Ty P m' t l:=by
 intro n
 induction n with
 |zero=>intro t _ cs x h;simp[DataW.trod] at h
 |succ n ih=>
  intro t ht cs x h ι m hR
  have hok:gi P T t=true:=List.all_eq_true.mp hT t ht
  unfold gi at hok
  split at hok
  ·rename_i hu
   obtain ⟨b,rfl,_⟩:=DataW.trod_bool hu h
   exact ⟨ι,m, [.bool b],hR,az.le_refl ι,Chg.refl m,.cons _ _ _ _ (.bool b) .nil,by simp[Value.oneCell'],.bool hu b⟩
  ·rename_i k hu
   obtain ⟨z,rfl,_,hw⟩:=DataW.trod_int hu h
   exact ⟨ι,m, [.int k (.lit z)],hR,az.le_refl ι,Chg.refl m,.cons _ _ _ _ (.int k z) .nil,by simp[Value.oneCell'],.int hu z hw⟩
  ·rename_i hu
   obtain ⟨s,rfl,_,hs⟩:=DataW.trod_string hu h
   refine ⟨ι,m, [.str (s.data.toList.map UInt8.toNat)],hR,az.le_refl ι,Chg.refl m,.cons _ _ _ _ (.str _ s rfl) .nil,by simp[Value.oneCell'],.str hu _ ?_ ?_⟩
   ·intro b hb
    obtain ⟨c,_,rfl⟩:=List.mem_map.mp hb
    exact c.toNat_lt
   ·rw[List.length_map];exact hs
  ·rename_i e hu
   rw[Bool.and_eq_true,decide_eq_true_eq] at hok
   obtain ⟨he,hce⟩:=hok
   have he:e∈T:=by simpa using he
   rcases DataW.trod_slice hu h with ⟨rfl,_⟩|⟨a,len,cap,elems,rest,n',hn',rfl,_,_,hlc,hcm,hel,hE,hS,_⟩
   ·exact ⟨ι,m, [.nils],hR,az.le_refl ι,Chg.refl m,.cons _ _ _ _ .nils .nil,by simp[Value.oneCell'],.slc hu .nils [] Sl.nil (by simp) (by simp)⟩
   ·have hn':n'=n:=by omega
    subst hn'
    obtain ⟨hrl,hS⟩:=hS rfl
    have go:∀k,k<=len->∃(ι':az) (m':NH) (C:List (List NV)),Ro P W ι' m'/\ι.le ι'/\Chg [] m m'/\C.length=k/\(∀c∈C,Ty P m' e c/\c.length=P.cellsOf e)/\Cs W ι' a C.flatten:=by
     intro k
     induction k with
     |zero=>intro _;exact ⟨ι,m, [],hR,az.le_refl ι,Chg.refl m,rfl,by simp,fun j v hv=>by simp at hv⟩
     |succ k ihk=>
      intro hk
      obtain ⟨ι1,m1,C,hR1,hle1,hC1,hlen,hall,hcs⟩:=ihk (by omega)
      have hEk:=hE k (by omega)
      rw[List.getElem?_eq_getElem (by omega)] at hEk
      obtain ⟨cs',h1,h2⟩:=Option.bind_eq_some_iff.mp hEk
      obtain ⟨_,hl',hcell⟩:=World.cells?_some h1
      obtain ⟨ι2,m2,l,hR2,hle2,hC2,hvr,hone,hty⟩:=ih e he cs' _ h2 ι1 m1 hR1
      have hll:=hvr.length
      have hfl:C.flatten.length=k*P.cellsOf e:=by rw[jl fun c hc=>(hall c hc).2,hlen]
      refine ⟨ι2,m2,C++ [l],hR2,hle1.trans hle2,hC1.trans hC2 (fun _ h _=>h),by simp[hlen], ?_, ?_⟩
      ·intro c hc
       rcases List.mem_append.mp hc with hc|hc
       ·exact ⟨(hall c hc).1.grew hC2,(hall c hc).2⟩
       ·simp at hc;subst hc;exact ⟨hty,by omega⟩
      ·intro j v hv
       rw[List.flatten_append] at hv
       by_cases hj:j<C.flatten.length
       ·rw[List.getElem?_append_left hj] at hv
        exact (hcs.mono hle2) j v hv
       ·rw[List.getElem?_append_right (by omega)] at hv
        simp only[List.flatten_cons,List.flatten_nil,List.append_nil] at hv
        obtain ⟨v',h3,h4⟩:=hvr.get hv
        have hjl:j - C.flatten.length<cs'.length:=by
         rcases Nat.lt_or_ge (j - C.flatten.length) cs'.length with q|q
         ·exact q
         ·rw[List.getElem?_eq_none q] at h3;cases h3
        refine ⟨v', ?_,h4,hone v' (List.mem_of_getElem? h3)⟩
        have:=hcell (j - C.flatten.length) (by omega)
        rw[h3] at this
        rw[←this]
        rw[o6]
        congr 2
        omega
    obtain ⟨ι1,m1,C,hR1,hle1,hC1,hlen,hall,hcs⟩:=go len (Nat.le_refl _)
    have hfl:C.flatten.length=len*P.cellsOf e:=by rw[jl fun c hc=>(hall c hc).2,hlen]
    have hend:∀(b o:Nat) (cur:Array Value) (T':TypeId) (fz:Nat×Nat) (c:List NV),W.heap[b]? =some (.cells cur T' fz)->o+c.length<=cur.size->(∀i v,c[i]? =some v->∃v',cur[o+i]? =some v'/\VR ι1 v v'/\v'.oneCell'=true)->
     (0<cap->a=⟨b,o,none⟩/\o+cap*P.cellsOf e<=cur.size)->c=C.flatten->
     ∃ι' m' l,Ro P W ι' m'/\ι.le ι'/\Chg [] m m'/\VRL ι' l [.slice (some a) len cap]/\(∀v∈ [Value.slice (some a) len cap],v.oneCell'=true)/\Ty P m' t l:=by
     rintro b o cur T' fz c hb hoc hcc ha rfl
     obtain ⟨ι2,m2,hR2,hle2,hC2,hi2,hg2,ho2⟩:=hR1.add hb hoc hcc
     refine ⟨ι2,m2, [.slc m1.next 0 len (P.cellsOf e) 0],hR2,hle1.trans hle2,hC1.trans hC2 (fun _ h _=>h),.cons _ _ _ _ (.slc _ _ _ _ _ _ a cap hi2 hlc (Nat.zero_le _) hcm hce fun hc=> ?_) .nil,by simp[Value.oneCell'], ?_⟩
     ·obtain ⟨h1,h2⟩:=ha hc
      exact ⟨h1,by simpa using h2⟩
     ·refine .slc hu _ C ⟨fun c hc=>(hall c hc).2,Or.inr ⟨m1.next,0,0,false,_,by rw[hlen],hg2,ho2, ?_, ?_⟩⟩ (by rw[hlen];omega) fun c hc=>((hall c hc).1).grew hC2
      ·rw[hfl,hlen];omega
      ·rw[List.drop_zero,hlen,←hfl,List.take_length]
    by_cases hcap:cap=0
    ·have hl0:len=0:=by omega
     have hC0:C= []:=List.length_eq_zero_iff.mp (by omega)
     subst hC0
     obtain ⟨b,cur,T',fz,hb⟩:=hne
     exact hend b 0 cur T' fz [] hb (by simp) (fun i v hv=>by simp at hv) (fun h=>by omega) rfl
    ·
     have cells:∀i,i<cap->∃cs',W.cells? 0 (a.add (i*P.cellsOf e)) (P.cellsOf e)=some cs':=by
      intro i hi
      rcases Nat.lt_or_ge i len with h|h
      ·have:=hE i h
       rw[List.getElem?_eq_getElem (by omega)] at this
       obtain ⟨cs',h1,_⟩:=Option.bind_eq_some_iff.mp this
       exact ⟨cs',h1⟩
      ·have:=hS (i - len) (by omega)
       rw[List.getElem?_eq_getElem (by omega),show len+(i - len)=i by omega] at this
       obtain ⟨cs',h1,_⟩:=Option.bind_eq_some_iff.mp this
       exact ⟨cs',h1⟩
     obtain ⟨cs0,h0⟩:=cells 0 (by omega)
     obtain ⟨_,hl0,hc0⟩:=World.cells?_some h0
     have hv0:=hc0 0 hce
     rw[List.getElem?_eq_getElem (by omega)] at hv0
     have hsp:=World.cell?_spot hv0
     obtain ⟨cur,T',fz,hb,_⟩:=ko hv0
     have hab:(a.add (0*P.cellsOf e)).add 0=a:=by rw[o6];simp[Addr.add]
     rw[hab] at hsp hb
     have hin:∀j v',W.cell? (a.add j)=some v'->cur[a.off+j]? =some v':=by
      intro j v' h
      obtain ⟨cur',T2,fz2,hb',hc'⟩:=ko h
      rw[uU] at hb'
      rw[za] at hc'
      rw[hb] at hb'
      injection hb' with hb'
      injection hb' with hb' _ _
      subst hb'
      exact hc'
     obtain ⟨cs1,h1⟩:=cells (cap - 1) (by omega)
     obtain ⟨_,hl1,hc1⟩:=World.cells?_some h1
     have hv1:=hc1 (P.cellsOf e - 1) (by omega)
     rw[List.getElem?_eq_getElem (by omega)] at hv1
     have hmul:(cap - 1)*P.cellsOf e+P.cellsOf e=cap*P.cellsOf e:=by
      rw[←Nat.succ_mul];congr 1;omega
     have hlast:cur[a.off+(cap*P.cellsOf e - 1)]? =some cs1[P.cellsOf e - 1]:=by
      refine hin (cap*P.cellsOf e - 1) _ ?_
      rw[←hv1]
      rw[o6]
      congr 2
      omega
     have hsz:a.off+(cap*P.cellsOf e - 1)<cur.size:=(Array.getElem?_eq_some_iff.mp hlast).1
     have hcapp:0<cap*P.cellsOf e:=Nat.mul_pos (by omega) hce
     have hlm:len*P.cellsOf e<=cap*P.cellsOf e:=Nat.mul_le_mul_right _ hlc
     refine hend a.block a.off cur T' fz C.flatten hb (by omega) (fun i v hv=> ?_) (fun _=>⟨by cases a;simp at hsp;simp[hsp],by omega⟩) rfl
     obtain ⟨v',q1,q2,q3⟩:=hcs i v hv
     exact ⟨v',hin i v' q1,q2,q3⟩
  ·rename_i fs hu
   rw[Bool.and_eq_true] at hok
   obtain ⟨hft,htl⟩:=hok
   obtain ⟨xs,n',hn',_,hcl,hxl,hF⟩:=DataW.trod_struct hu h
   have hn':n'=n:=by omega
   subst hn'
   have go:∀(fl:List Field) (o:Nat) (ys:List (DataW H×List MemPlace)),(∀f∈fl,f.type∈T)->k8 P fl o (P.cellsOf t)=true->o<=cs.length->(∀(i:Nat) (f:Field),fl[i]? =some f->∃y,DataW.trod enc P W 0 (fun _=>true) true n' f.type ((cs.drop f.offset).take (P.cellsOf f.type))=some y)->
    ∀(ι:az) (m:NH),Ro P W ι m->∃ι' m' l,Ro P W ι' m'/\ι.le ι'/\Chg [] m m'/\VRL ι' l (cs.drop o)/\(∀v∈cs.drop o,v.oneCell'=true)/\TyL P m' (fl.map (·.type)) l:=by
    intro fl
    induction fl with
    |nil=>
     intro o ys _ htl _ _ ι m hR
     have ho:o=cs.length:=by rw[hcl];exact of_decide_eq_true htl
     subst ho
     rw[List.drop_length]
     exact ⟨ι,m, [],hR,az.le_refl ι,Chg.refl m,.nil,by simp,.nil⟩
    |cons f fl ihf=>
     intro o ys hfT htl ho hF ι m hR
     have htl:((f.offset==o)&&k8 P fl (o+P.cellsOf f.type) (P.cellsOf t))=true:=htl
     rw[Bool.and_eq_true,beq_iff_eq] at htl
     obtain ⟨rfl,htl⟩:=htl
     obtain ⟨y,hy⟩:=hF 0 f rfl
     obtain ⟨ι1,m1,l1,hR1,hle1,hC1,hvr1,hone1,hty1⟩:=ih f.type (hfT f (List.mem_cons_self ..)) _ y hy ι m hR
     have hle:f.offset+P.cellsOf f.type<=cs.length:=by
      have:∀(fl:List Field) (o:Nat),k8 P fl o (P.cellsOf t)=true->o<=P.cellsOf t:=by
       intro fl
       induction fl with
       |nil=>intro o h;exact Nat.le_of_eq (of_decide_eq_true h)
       |cons g fl ih=>
        intro o h
        have h:((g.offset==o)&&k8 P fl (o+P.cellsOf g.type) (P.cellsOf t))=true:=h
        rw[Bool.and_eq_true] at h
        have:=ih _ h.2
        omega
      have:=this fl _ htl
      omega
     obtain ⟨ι2,m2,l2,hR2,hle2,hC2,hvr2,hone2,hty2⟩:=ihf (f.offset+P.cellsOf f.type) [] (fun g hg=>hfT g (List.mem_cons_of_mem _ hg)) htl hle (fun i g hg=>hF (i+1) g (by simpa using hg)) ι1 m1 hR1
     have hsplit:cs.drop f.offset=(cs.drop f.offset).take (P.cellsOf f.type)++cs.drop (f.offset+P.cellsOf f.type):=by
      rw[←List.drop_drop,List.take_append_drop]
     refine ⟨ι2,m2,l1++l2,hR2,hle1.trans hle2,hC1.trans hC2 (fun _ h _=>h), ?_, ?_,.cons l1 l2 (hty1.grew hC2) hty2⟩
     ·rw[hsplit];exact VRL.append (hvr1.mono hle2) hvr2
     ·rw[hsplit];intro v hv
      rcases List.mem_append.mp hv with hv|hv
      ·exact hone1 v hv
      ·exact hone2 v hv
   obtain ⟨ι',m',l,h1,h2,h3,h4,h5,h6⟩:=go fs.toList 0 [] (fun f hf=>by simpa using List.all_eq_true.mp hft f hf) htl (Nat.zero_le _) (fun i f hf=>by
    have hi:i<xs.length:=by
     rcases Nat.lt_or_ge i fs.toList.length with q|q
     ·rw[hxl];simpa using q
     ·rw[List.getElem?_eq_none q] at hf;cases hf
    exact ⟨xs[i],by rw[hF i f (by simpa using hf),List.getElem?_eq_getElem hi]⟩) ι m hR
   rw[List.drop_zero] at h4 h5
   exact ⟨ι',m',l,h1,h2,h3,h4,h5,.struct hu l h6⟩
  ·cases hok
inductive TyA (P:Program) (m:NH):List TypeId->List NV->Prop
 |nil:TyA P m [] []
 |one {t:TypeId} {ts:List TypeId} {l:List NV} (x:NV) (hn:∀fs,P.underlying t≠some (.struct fs)) (h:Ty P m t [x]) (hl:TyA P m ts l):TyA P m (t::ts) (x::l)
 |agg {t:TypeId} {ts:List TypeId} {l:List NV} {fs:Array Field} (c:List NV) (ht:P.underlying t=some (.struct fs)) (h:Ty P m t c) (hl:TyA P m ts l):TyA P m (t::ts) (.agg c::l)
omit [Val] in
theorem TyA.grew {P:Program} {m m':NH} (hC:Chg [] m m'):∀{ts:List TypeId} {l:List NV},TyA P m ts l->TyA P m' ts l
 |_,_,.nil=> .nil
 |_,_,.one x hn h hl=> .one x hn (h.grew hC) (TyA.grew hC hl)
 |_,_,.agg c ht h hl=> .agg c ht (h.grew hC) (TyA.grew hC hl)
omit [Val] in
theorem qW {P:Program} {W:World} {base:Nat} {t:TypeId} {v:Value} (hok:∀fs,P.underlying t≠some (.struct fs)) (h:Value.okWide P W .any base t v) (ht:gi P [] t=true∨∃e,P.underlying t=some (.slice e)):v.cells=#[v]:=by
 unfold Value.okWide at h
 rcases ht with ht|⟨e,hu⟩
 ·unfold gi at ht
  split at ht
  ·rename_i hu;rw[hu] at h;unfold Cell.okWide Cell.ok at h;rw[hu] at h;dsimp only at h;cases v<;>first|rfl|exact h.elim
  ·rename_i hu;rw[hu] at h;unfold Cell.okWide Cell.ok at h;rw[hu] at h;dsimp only at h;cases v<;>first|rfl|exact h.elim
  ·rename_i hu;rw[hu] at h;unfold Cell.okWide Cell.ok at h;rw[hu] at h;dsimp only at h;cases v<;>first|rfl|exact h.elim
  ·rename_i e hu;rw[hu] at h;unfold Cell.okWide Cell.ok at h;rw[hu] at h;dsimp only at h;cases v<;>first|rfl|exact h.elim
  ·rename_i fs hu;exact EB hu (hok fs)
  ·cases ht
 ·rw[hu] at h;unfold Cell.okWide Cell.ok at h;rw[hu] at h;dsimp only at h;cases v<;>first|rfl|exact h.elim
theorem sb {P:Program} {W:World} {T:List TypeId} (hT:qn P T=true) (hne:∃(b:Nat) (cur:Array Value) (T:TypeId) (fz:Nat×Nat),W.heap[b]? =some (.cells cur T fz)) {base:Nat} {H:Type} {enc:TypeId×Value->H}:
 ∀(ts:List TypeId) (args:List Value) (ds:List (DataW H)) (ps:List MemPlace),(∀t∈ts,t∈T)->DataW.TrodAll enc P W 0 (fun _=>true) true ts args ds ps->(∀(j:Nat) t v,ts[j]? =some t->args[j]? =some v->Value.okWide P W .any base t v)->
 ∀(ι:az) (m:NH),Ro P W ι m->∃ι' m' l,Ro P W ι' m'/\ι.le ι'/\Chg [] m m'/\VRL ι' l args/\TyA P m' ts l:=by
 intro ts
 induction ts with
 |nil=>
  intro args ds ps _ h _ ι m hR
  cases args with
  |nil=>exact ⟨ι,m, [],hR,az.le_refl ι,Chg.refl m,.nil,.nil⟩
  |cons=>cases h
 |cons t ts ih=>
  intro args ds ps hts h hval ι m hR
  cases args with
  |nil=>cases h
  |cons v args=>
   cases ds with
   |nil=>cases h
   |cons d ds=>
    obtain ⟨p,q,⟨n,hd⟩,hr,_⟩:=h
    obtain ⟨ι1,m1,c,hR1,hle1,hC1,hv1,hone1,hty1⟩:=vk hT hne n t (hts t (List.mem_cons_self ..)) _ _ hd ι m hR
    obtain ⟨ι2,m2,l,hR2,hle2,hC2,hv2,hty2⟩:=ih args ds q (fun t ht=>hts t (List.mem_cons_of_mem _ ht)) hr (fun j t v h1 h2=>hval (j+1) t v (by simpa using h1) (by simpa using h2)) ι1 m1 hR1
    have hv:=hval 0 t v rfl rfl
    have hok:gi P T t=true:=List.all_eq_true.mp hT t (hts t (List.mem_cons_self ..))
    have hC:=hC1.trans hC2 (fun _ h _=>h)
    by_cases hst:∃fs,P.underlying t=some (.struct fs)
    ·obtain ⟨fs,hu⟩:=hst
     have hv':=hv
     unfold Value.okWide at hv'
     rw[hu] at hv'
     obtain ⟨cs,rfl,_,_⟩:=hv'
     refine ⟨ι2,m2,.agg c::l,hR2,hle1.trans hle2,hC,.cons _ _ _ _ ?_ hv2,.agg c hu (hty1.grew hC2) hty2⟩
     have:=VR.agg (ι:=ι2) c cs.toList (hv1.mono hle2) hone1
     simpa using this
    ·have hn:∀fs,P.underlying t≠some (.struct fs):=fun fs q=>hst ⟨fs,q⟩
     have hc:v.cells=#[v]:=by
      refine qW hn hv ?_
      unfold gi at hok ⊢
      split at hok
      ·rename_i hu;exact Or.inl rfl
      ·rename_i hu;exact Or.inl rfl
      ·rename_i hu;exact Or.inl rfl
      ·rename_i e hu;exact Or.inr ⟨e,hu⟩
      ·rename_i fs hu;exact EB hu (hn fs)
      ·cases hok
     rw[hc] at hv1
     cases hv1 with
     |cons x _ xl _ hx hxl=>
      cases hxl
      exact ⟨ι2,m2,x::l,hR2,hle1.trans hle2,hC,.cons _ _ _ _ (hx.mono hle2) hv2,.one x hn (hty1.grew hC2) hty2⟩
theorem nZ {P:Program} (hM:P.follows .mixedOrders=true) (hP:P.check= .ok ()) {S:bE} (hS:cQ P S) {T:List TypeId} (hT:qn P T=true) {f:Nat} {nf:NFun} (hf:ak P f=some (.code nf)) (hs:∀l,S f l=fun _=>none) {ts:List TypeId} (hts:∀t∈ts,t∈T)
 {m0:NH} (law:∀(m:NH) (l:List NV),Chg [] m0 m->TyA P m ts l->∃m',c7 P S f l m (.bool true) m') {W:World} {ι0:az} (h0:Ro P W ι0 m0) (hne:∃(b:Nat) (cur:Array Value) (T:TypeId) (fz:Nat×Nat),W.heap[b]? =some (.cells cur T fz)) {base:Nat} {H:Type} {enc:TypeId×Value->H} {args:List Value} {ds:List (DataW H)} {ps:List MemPlace}
 (h:DataW.TrodAll enc P W 0 (fun _=>true) true ts args ds ps) (hval:∀(j:Nat) t v,ts[j]? =some t->args[j]? =some v->Value.okWide P W .any base t v):
 Calls P f args.toArray W fun e W'=>e= .returned (.bool true)/\Below W.heap.size W W':=by
 obtain ⟨ι,m,l,hR,_,hC,hv,hty⟩:=sb hT hne ts args ds ps hts h hval ι0 m0 h0
 obtain ⟨m',c,hc⟩:=law m l hC hty
 refine (uR hM hP hS hf (hs l) hc hR.1 hR.2 hv).mono ?_
 rintro e W' ⟨⟨ι',v',rfl,h1,_,_⟩,hb⟩
 cases h1
 exact ⟨rfl,hb⟩
omit [Val] in
theorem trodAll_stays {P:Program} (hl:laidOutB P=true) {W W':World} (hb:Below W.heap.size W W') {H:Type} {enc:TypeId×Value->H} {sp:Nat->Bool}:∀(ts:List TypeId) (args:List Value) (ds:List (DataW H)) (ps:List MemPlace),(∀t∈ts,P.readableRec t=true/\t<P.types.size)->
 DataW.TrodAll enc P W 0 (fun _=>true) true ts args ds ps->(∀p∈ps,p.block<W.heap.size)->(∀p∈ps,sp p.block=true)->DataW.TrodAll enc P W' 0 sp true ts args ds ps:=by
 intro ts
 induction ts with
 |nil=>
  intro args ds ps _ h _ _
  cases args with
  |nil=>cases ds with
   |nil=>exact h
   |cons=>cases h
  |cons=>cases h
 |cons t ts ih=>
  intro args ds ps hr h hlt hsp
  cases args with
  |nil=>cases h
  |cons v args=>
   cases ds with
   |nil=>cases h
   |cons d ds=>
    obtain ⟨p,q,hd,hq,rfl⟩:=h
    exact ⟨p,q,WideElems.Trod_stays hl (hr t (List.mem_cons_self ..)).1 (hr t (List.mem_cons_self ..)).2 hd (fun x hx=>hb.same (hlt x (List.mem_append_left _ hx))) (fun x hx=>hsp x (List.mem_append_left _ hx)),
     ih args ds q (fun t ht=>hr t (List.mem_cons_of_mem _ ht)) hq (fun x hx=>hlt x (List.mem_append_right _ hx)) (fun x hx=>hsp x (List.mem_append_right _ hx)),rfl⟩
omit [Val] in
theorem Ty.inv_int {P:Program} {m:NH} {t:TypeId} {k:IntKind} {l:List NV} (hu:P.underlying t=some (.int k)) (h:Ty P m t l):∃n,l= [.int k (.lit n)]/\(Lit.int k n).wf=true:=by
 cases h with
 |bool ht=>rw[hu] at ht;cases ht
 |int ht n h=>rw[hu] at ht;injection ht with ht;injection ht with ht;subst ht;exact ⟨n,rfl,h⟩
 |str ht=>rw[hu] at ht;cases ht
 |slc ht=>rw[hu] at ht;cases ht
 |struct ht=>rw[hu] at ht;cases ht
omit [Val] in
theorem Ty.inv_struct {P:Program} {m:NH} {t:TypeId} {fs:Array Field} {l:List NV} (hu:P.underlying t=some (.struct fs)) (h:Ty P m t l):TyL P m (fs.toList.map (·.type)) l:=by
 cases h with
 |bool ht=>rw[hu] at ht;cases ht
 |int ht=>rw[hu] at ht;cases ht
 |str ht=>rw[hu] at ht;cases ht
 |slc ht=>rw[hu] at ht;cases ht
 |struct ht _ h=>rw[hu] at ht;injection ht with ht;injection ht with ht;subst ht;exact h
omit [Val] in
theorem TyL.inv {P:Program} {m:NH} {t:TypeId} {ts:List TypeId} {l:List NV} (h:TyL P m (t::ts) l):∃a b,l=a++b/\Ty P m t a/\TyL P m ts b:=by
 cases h with
 |cons a b h hl=>exact ⟨a,b,rfl,h,hl⟩
omit [Val] in
theorem TyL.inv0 {P:Program} {m:NH} {l:List NV} (h:TyL P m [] l):l= []:=by cases h;rfl
omit [Val] in
theorem TyA.invS {P:Program} {m:NH} {t:TypeId} {ts:List TypeId} {fs:Array Field} {l:List NV} (hu:P.underlying t=some (.struct fs)) (h:TyA P m (t::ts) l):∃c r,l= .agg c::r/\TyL P m (fs.toList.map (·.type)) c/\TyA P m ts r:=by
 cases h with
 |one x hn=>exact EB hu (hn _)
 |agg c ht h hl=>exact ⟨c,_,rfl,h.inv_struct hu,hl⟩
omit [Val] in
theorem TyA.inv0 {P:Program} {m:NH} {l:List NV} (h:TyA P m [] l):l= []:=by cases h;rfl
omit [Val] in
theorem c7.kept {P:Program} {S:bE} {f:Nat} {args:List NV} {v:NV} (h:S f args=fun h=>some (v,h)) (m:NH):c7 P S f args m v m:=by
 refine ⟨none,by simp,0, ?_⟩
 unfold br;rw[h]
omit [Val] in
theorem c7.keptM {P:Program} {S:bE} {f:Nat} {args:List NV} {v:NV} {m m':NH} (h:S f args m=some (v,m')):c7 P S f args m v m':=by
 refine ⟨none,by simp,0, ?_⟩
 unfold br;rw[h]
omit [Val] in
theorem trodAll_len {P:Program} {W:World} {base:Nat} {sp:Nat->Bool} {hd:Bool} {H:Type} {enc:TypeId×Value->H}:∀{ts:List TypeId} {vs:List Value} {ds:List (DataW H)} {ps:List MemPlace},DataW.TrodAll enc P W base sp hd ts vs ds ps->ds.length=ts.length:=by
 intro ts
 induction ts with
 |nil=>intro vs ds ps h;cases vs<;>cases ds<;>first|rfl|cases h
 |cons t ts ih=>
  intro vs ds ps h
  cases vs with
  |nil=>cases h
  |cons v vs=>cases ds with
   |nil=>cases h
   |cons d ds=>obtain ⟨_,_,_,h,_⟩:=h;simp[ih h]
end
end Nm
namespace Nm
open Go Go.RowKit
attribute [go_sem] zU Cd yS Bf AV Aj xp B1 zQ Af Ar zt xL xf Al wq DX Cm CB
attribute [go_sem] D7 Cz AU zN AF Bz yG Ae yb w7 CQ DB sV Dp Dd
attribute [go_sem] zZ xP uZ Ac xz Au Cy xS zO zB xI vN t8 x9 vg tN ug wv
attribute [go_sem] w8 xn uk xH Bool.and_true Bool.true_and Bb B8 v6 vD zV DA Dg Du Dn C5
attribute [go_sem] Dc CO CV Df DU C8 DP DQ D6 Db DN DY CS DL Dj Do CZ Da Dy Ds
attribute [go_sem] CT Dh zK Ce DC AW A5 BE Co A9 qM Av AO wn xC
attribute [go_sem] At uK xG z7 vJ Bn BR zl
attribute [go_sem] zG vw CC yX
attribute [go_sem] BY zn Bj Bq yY zh BM Bw
attribute [go_sem] AG B5 Bx Cv Cq zo AI tg A6 BX yT zJ DJ AZ
attribute [go_sem] xw vV wb BH Bp Nat.sub_self Nat.sub_zero
attribute [go_sem] zi BB Cn wM wE
attribute [go_sem] D0 Cl zx lw uu yP zC uG s9 nd sH mD
attribute [go_sem] Bl Bg Bool.not_true Bool.not_false Am As Int.toNat_natCast Int.toNat_zero Int.toNat_one
attribute [go_sem] List.getElem?_cons_zero List.getElem?_cons_succ List.length_cons List.length_nil List.set_cons_zero List.set_cons_succ List.take_zero List.drop_zero List.take_succ_cons List.drop_succ_cons List.take_nil List.drop_nil List.nil_append List.cons_append List.append_nil Nat.zero_add Nat.zero_mul Nat.testBit cond_true cond_false
attribute [go_sem] NT.get_leaf yR vM aj beq_self_eq_true decide_true decide_false if_true if_false ite_true ite_false eq_self true_and and_true true_implies
noncomputable def bF:=And.intro (@List.length_set.{0})<|And.intro (@List.length_cons.{0})<|And.intro (@List.length_nil.{0})<|And.intro (@List.length_append.{0})<|And.intro (@List.length_map.{0,0})<|@List.length_replicate.{0}
namespace C
abbrev t (a:D4):NOpd:= .tmp a
abbrev k (z:Int):NOpd:= .const (.int .i64 (.lit z))
abbrev kb (z:Int):NOpd:= .const (.int .u8 (.lit z))
abbrev ku (z:Int):NOpd:= .const (.int .u64 (.lit z))
abbrev kt:NOpd:= .const (.bool true)
abbrev kf:NOpd:= .const (.bool false)
abbrev kn:NOpd:= .const .nils
abbrev F (n:Nat):NOpd:= .const (.fn n [])
abbrev o (d:D4) (p:NOp) (i:Nat):NOper:=⟨some d,p,none,0,i⟩
abbrev O (d:D4) (p:NOp) (q i:Nat):NOper:=⟨some d,p,none,q,i⟩
abbrev G (d:D4) (p:NOp) (g:D4) (b:Bool) (i:Nat):NOper:=⟨some d,p,some (g,b),0,i⟩
abbrev m (d s:D4) (i:Nat):NOper:=⟨some d,.move (.tmp s),none,0,i⟩
abbrev f (n:Nat) (d s:D4) (i:Nat):NOper:=⟨some d,.fieldAddr n (.tmp s),none,0,i⟩
abbrev l (d s:D4) (i:Nat):NOper:=⟨some d,.load1 (.tmp s),none,0,i⟩
abbrev L (d s:D4) (i:Nat):NOper:=⟨some d,.lenSlc (.tmp s),none,0,i⟩
abbrev n (d s:D4) (i:Nat):NOper:=⟨some d,.nilCheck (.tmp s),none,0,i⟩
abbrev x (d s:D4) (j i:Nat):NOper:=⟨some d,.extract (.tmp s) j,none,0,i⟩
abbrev q (p:NOp) (i:Nat):NOper:=⟨none,p,none,0,i⟩
abbrev b (d:D4) (p:BinOp) (a c:NOpd) (i:Nat):NOper:=⟨some d,.bin .num p a c,none,0,i⟩
end C
end Nm
namespace Nm
open Go Go.RowKit
section
variable {t:Tm} {m:NH}
end
end Nm
namespace Nm
open Go Go.RowKit
section
variable {t:Tm} {m:NH}
end
end Nm
namespace Nm
open Go Go.RowKit
noncomputable def ot (f:Nat) (F:List NV->NH->Option (NV×NH)) (S:bE):bE:=fun g=>cond (Nat.beq g f) F (S g)
section
variable [Val]
def du (P:Program) (f:Nat) (F:List NV->NH->Option (NV×NH)):Prop:=
 ∀(ι:az) (B:Nat) (h:NH) (w:World) (args:List NV) (args':List Value) (v:NV) (h':NH),F args h=some (v,h')->Rel P ι B h w->B<=w.heap.size->VRL ι args args'->
  li P ι B h w ((callFunc f args'.toArray).run P w) (.val v none h')
theorem gL {P:Program} {S:bE} {f:Nat} {F:List NV->NH->Option (NV×NH)} (hS:cQ P S) (hF:du P f F):cQ P (ot f F S):=by
 intro ι B h w g args args' v h' hg hR hB hl
 unfold ot at hg
 cases hb:Nat.beq g f with
 |true=>
  rw[hb] at hg
  obtain rfl:=EG hb
  exact hF ι B h w args args' v h' hg hR hB hl
 |false=>
  rw[hb] at hg
  exact hS ι B h w g args args' v h' hg hR hB hl
theorem du.of {P:Program} {f:Nat} {F:List NV->NH->Option (NV×NH)} (hen:∀args w,(callFunc f args).run P w= .ok (.enter f args) w)
 (H:∀(ι:az) (B:Nat) (h:NH) (w:World) (args:List NV) (args':List Value) (v:NV) (h':NH),F args h=some (v,h')->Rel P ι B h w->B<=w.heap.size->VRL ι args args'->
  Calls P f args'.toArray w fun e w'=>∃ι' v',e= .returned v'/\VR ι' v v'/\Rel P ι' B h' w'/\B<=w'.heap.size/\Grow ι h w ι' h' w'):du P f F:=by
 intro ι B h w args args' v h' hF hR hB hl c0 cs
 obtain ⟨e,w',fr,⟨ι',v',he,hv,hR',hB',hG⟩,hcomes,hfn,hleave⟩:=H ι B h w args args' v h' hF hR hB hl (c0::cs)
 subst he
 exact ⟨ι',v',w',hv,hR',hB',hG,.inr ⟨w,.inl ⟨f,args'.toArray,hen _ w,Steps.trans hcomes (.one (step_leave_returned hleave))⟩⟩⟩
theorem Rel.below {P:Program} {ι:az} {B:Nat} {h:NH} {w w':World} (hR:Rel P ι B h w) (hb:Below w.heap.size w w'):Rel P ι B h w':=
 ⟨fun i p hi=>by
  obtain ⟨o,o1,o2⟩:=hR.obj i p hi
  exact ⟨o,o1,o2.mono (az.le_refl _) (hb.block _ (hR.lt i p hi))⟩,hR.inj,hR.base,fun i p hi=>Nat.lt_of_lt_of_le (hR.lt i p hi) hb.size,hR.fresh,hR.gl⟩
omit [Val] in
theorem Grow.below {ι:az} {h:NH} {w w':World} (hb:Below w.heap.size w w'):Grow ι h w ι h w':=
 ⟨az.le_refl _,Nat.le_refl _,fun _ _ x=> .inl x,fun i p x y=> .inr ⟨i,p,x,y,rfl⟩,fun _ _ _=>rfl,hb.size,hb.os,hb.tape,hb.output,fun b hb' _=>hb.block b hb'⟩
theorem du.plain {P:Program} {f:Nat} {F:List NV->NH->Option (NV×NH)} (hen:∀args w,(callFunc f args).run P w= .ok (.enter f args) w)
 (H:∀(ι:az) (B:Nat) (h:NH) (w:World) (args:List NV) (args':List Value) (v:NV) (h':NH),F args h=some (v,h')->Rel P ι B h w->VRL ι args args'->
  h'=h/\Calls P f args'.toArray w fun e w'=>(∃v',e= .returned v'/\VR ι v v')/\Below w.heap.size w w'):du P f F:=
 du.of hen fun ι B h w args args' v h' hF hR hB hl=>by
  obtain ⟨rfl,hc⟩:=H ι B h w args args' v h' hF hR hl
  refine hc.mono ?_
  rintro e w' ⟨⟨v',he,hv⟩,hb⟩
  exact ⟨ι,v',he,hv,hR.below hb,Nat.le_trans hB hb.size,.below hb⟩
theorem Rel.global {P:Program} {ι:az} {B:Nat} {h:NH} {w:World} (hR:Rel P ι B h w) {g:Nat} (hg:g<NG) {wr:Bool} {c:List NV} (hc:h.get (D4.of g)=some (.cells wr c)) (hn:c.length=GN g):
 ∃cur T fz,w.heap[g]? =some (.cells cur T fz)/\VRL ι c cur.toList:=by
 obtain ⟨o,o1,o2⟩:=hR.obj _ _ (hR.gl g hg)
 rw[hc] at o1
 cases o1
 obtain ⟨cur,T,fz,k1,k2,k3,k4,k5⟩:=o2
 dsimp only at k1 k3 k4 k5
 refine ⟨cur,T,fz,k1,VRL.of_get (by simp;omega) fun i v hi=> ?_⟩
 obtain ⟨v',a,b,_⟩:=k5 i v hi
 exact ⟨v',by simpa using a,b⟩
theorem Ro.lay {P:Program} {W:World} {ι:az} {m:NH} (h:Ro P W ι m) {g:Nat} (hg:g<NG) {c:List NV} {cur:Array Value} {T:TypeId} {fz:Nat×Nat} (hb:W.heap[g]? =some (.cells cur T fz)) (hn:cur.size=GN g)
 (hc:VRL ι c cur.toList) (h1:∀v∈cur.toList,v.oneCell'=true):Ro P W ι (m.put (D4.of g) (.cells false c)):=by
 obtain ⟨hR,hL⟩:=h
 have hι:=hR.gl g hg
 have hnl:∀i p,ι i=some p->¬Live ((m.put (D4.of g) (.cells false c)).get i):=fun i p hi=>by
  by_cases e:i=D4.of g
  ·subst e;rw[NH.get_put_same];exact fun q=>q.2 c rfl
  ·rw[NH.get_put_ne _ _ e];exact hL i p hi
 have hold:(D4.of g).toNat<m.next.toNat:=by
  obtain ⟨o,o1,_⟩:=hR.obj _ _ hι;exact hR.fresh _ _ o1
 refine ⟨⟨fun i p hi=> ?_,fun i j p q hi _ _ hl _=>EB hl (hnl i p hi),fun i p hi hl=>EB hl (hnl i p hi),hR.lt,fun i o ho=> ?_,hR.gl⟩,hnl⟩
 ·by_cases e:i=D4.of g
  ·subst e
   rw[hι] at hi;cases hi
   refine ⟨_,NH.get_put_same _ _ _,cur,T,fz,hb,fun q=>Bool.noConfusion q,hn,by rw[hc.length];simp;omega,fun i v hv=> ?_⟩
   obtain ⟨v',a,b⟩:=hc.get hv
   exact ⟨v',by simpa using a,b,h1 _ (List.mem_of_getElem? a)⟩
  ·obtain ⟨o,o1,o2⟩:=hR.obj i p hi
   exact ⟨o,by rw[NH.get_put_ne _ _ e];exact o1,o2⟩
 ·show i.toNat<m.next.toNat
  by_cases e:i=D4.of g
  ·subst e;exact hold
  ·rw[NH.get_put_ne _ _ e] at ho;exact hR.fresh i o ho
theorem Rel.madeC {P:Program} {ι:az} {B:Nat} {h:NH} {w w':World} (hR:Rel P ι B h w) (hb:Below w.heap.size w w') {N:Nat} (hN:w.heap.size<=N) {cur:Array Value} {T:TypeId} {fz:Nat×Nat} (hc:w'.heap[N]? =some (.cells cur T fz)) {o:Nat} {c:List NV} (hlen:o+c.length<=cur.size) (hcs:∀(ι2:az) (i:Nat) (v:NV),c[i]? =some v->∃v',cur[o+i]? =some v'/\VR ι2 v v'/\v'.oneCell'=true):
 ∃ι',ι' h.next=some ⟨N,o,cur.size⟩/\Rel P ι' B (h.add (.cells false c)) w'/\Grow ι h w ι' (h.add (.cells false c)) w':=by
 have hR':=hR.below hb
 have hn:ι h.next=none:=by
  cases hi:ι h.next with
  |none=>rfl
  |some q=>obtain ⟨o,h1,_⟩:=hR.obj _ _ hi;exact EB (hR.fresh _ _ h1) (Nat.lt_irrefl _)
 have hle:ι.le (ext ι h.next ⟨N,o,cur.size⟩):=fun i p hi=>by
  unfold ext
  by_cases e:i.toNat=h.next.toNat
  ·rw[D4.toNat_inj e,hn] at hi;cases hi
  ·rw[EC e];exact hi
 have hinv:∀i p,ext ι h.next ⟨N,o,cur.size⟩ i=some p->(i=h.next/\p=⟨N,o,cur.size⟩)∨(ι i=some p/\i≠h.next):=fun i p hi=>by
  unfold ext at hi
  by_cases e:i.toNat=h.next.toNat
  ·rw[ED e] at hi;injection hi with hi;exact Or.inl ⟨D4.toNat_inj e,hi.symm⟩
  ·rw[EC e] at hi;exact Or.inr ⟨hi,fun q=>e (by rw[q])⟩
 have hget:∀i,i≠h.next->(h.add (.cells false c)).get i=h.get i:=fun i e=>NH.get_add_ne _ _ e
 have hnl:¬Live ((h.add (.cells false c)).get h.next):=by rw[NH.get_add_same];exact fun q=>q.2 c rfl
 refine ⟨ext ι h.next ⟨N,o,cur.size⟩,by unfold ext;rw[ED rfl],⟨fun i p hi=> ?_,fun i j p q hi hj hij d1 d2=> ?_,fun i p hi d=> ?_,fun i p hi=> ?_,fun i o ho=> ?_,hR.gl.mono hle⟩,hle, ?_,fun i p hi=> ?_,fun i p hi d=> ?_,fun i hi hl=> ?_,hb.size,hb.os,hb.tape,hb.output,fun b hb' _=>hb.block b hb'⟩
 ·rcases hinv i p hi with ⟨rfl,rfl⟩|⟨hi,hne⟩
  ·refine ⟨_,NH.get_add_same _ _,cur,T,fz,hc,fun q=>Bool.noConfusion q,rfl,hlen,fun i v hv=>hcs _ i v hv⟩
  ·obtain ⟨o,o1,o2⟩:=hR'.obj i p hi
   exact ⟨o,by rw[hget i hne];exact o1,o2.mono hle rfl⟩
 ·rcases hinv i p hi with ⟨rfl,rfl⟩|⟨hi,hne⟩
  ·exact EB d1 hnl
  ·rw[hget i hne] at d1
   rcases hinv j q hj with ⟨rfl,rfl⟩|⟨hj,hne'⟩
   ·have:=hR.lt i p hi;show p.b≠N;omega
   ·rw[hget j hne'] at d2
    exact hR.inj i j p q hi hj hij d1 d2
 ·rcases hinv i p hi with ⟨rfl,rfl⟩|⟨hi,hne⟩
  ·exact EB d hnl
  ·rw[hget i hne] at d;exact hR.base i p hi d
 ·rcases hinv i p hi with ⟨rfl,rfl⟩|⟨hi,_⟩
  ·exact (Array.getElem?_eq_some_iff.1 hc).1
  ·exact hR'.lt i p hi
 ·show i.toNat<h.next.nxt.toNat
  rw[D4.toNat_nxt]
  by_cases e:i=h.next
  ·subst e;omega
  ·rw[hget i e] at ho;have:=hR.fresh i o ho;omega
 ·show h.next.toNat<=h.next.nxt.toNat
  rw[D4.toNat_nxt];omega
 ·rcases hinv i p hi with ⟨rfl,_⟩|⟨hi,_⟩
  ·exact .inr (Nat.le_refl _)
  ·exact .inl hi
 ·rcases hinv i p hi with ⟨rfl,_⟩|⟨hi,hne⟩
  ·exact EB d hnl
  ·rw[hget i hne] at d;exact .inr ⟨i,p,hi,d,rfl⟩
 ·exact hget i fun e=>by rw[e] at hl;exact Nat.lt_irrefl _ hl
theorem Rel.made {P:Program} {ι:az} {B:Nat} {h:NH} {w w':World} (hR:Rel P ι B h w) (hb:Below w.heap.size w w') {N:Nat} (hN:w.heap.size<=N) {cur:Array Value} {T:TypeId} {fz:Nat×Nat} (hc:w'.heap[N]? =some (.cells cur T fz)):
 ∃ι',ι' h.next=some ⟨N,0,cur.size⟩/\Rel P ι' B (h.add (.cells false [])) w'/\Grow ι h w ι' (h.add (.cells false [])) w':=
 hR.madeC hb hN hc (o:=0) (by simp) fun _ i v hv=>by simp at hv
noncomputable def wj (args c:List NV) (off len e kc:Nat) (l:List NV) (h:NH):Option (NV×NH):=cond (cK (bc 3) l args) (h.new (.cells false c) fun id h=>some (.slc id off len e kc,h)) none
noncomputable def ip (cf:Nat->Option NFn) (S:bE) (n f:Nat) (args c:List NV) (off len e kc:Nat):Bool:=
 match lF cf S n f args with
 | .val (.slc id o l k m) _ h=>cond (dg args) (cond (dg c) (cond (Nat.beq o off) (cond (Nat.beq l len) (cond (Nat.beq k e) (cond (Nat.beq m kc) (match h.get id with
  |some (.cells true d)=>cK (bc 3) d c
  |_=>false) false) false) false) false) false) false
 |_=>false
omit [Val] in
theorem di.row {P:Program} {cf:Nat->Option NFn} (hc:di P cf) {S:bE} {n f:Nat} {args c:List NV} {off len e kc:Nat} (hr:ip cf S n f args c off len e kc=true):ip P S n f args c off len e kc=true:=by
 have e:cf=ak P:=funext hc
 rw[e] at hr;exact hr
omit [Val] in
theorem ru:∀{l:List NV} {i:Nat} {v:NV},dg l=true->l[i]? =some v->cz v=true:=by
 intro l
 induction l with
 |nil=>intro i v _ h;simp at h
 |cons a l ih=>
  intro i v h hi
  simp only[dg,Bool.and_eq_true] at h
  cases i with
  |zero=>simp at hi;subst hi;exact h.1
  |succ i=>exact ih h.2 (by simpa using hi)
theorem uP {P:Program} {S:bE} (hM:P.follows .mixedOrders=true) (hP:P.check= .ok ()) (hS:cQ P S) {n f:Nat} {args c:List NV} {off len e kc:Nat} (hr:ip P S n f args c off len e kc=true)
 (hen:∀args w,(callFunc f args).run P w= .ok (.enter f args) w):du P f (wj args c off len e kc):=
 du.of hen fun ι B h w l args' v h' hF hR hB hl=>by
  unfold wj at hF
  obtain ⟨h1,hF'⟩:=ax hF
  clear hF
  rw[NH.new_eq] at hF'
  have:=dl (cN 3) h1
  subst this
  injection hF' with hF
  injection hF with e1 e2
  subst e1;subst e2
  unfold ip at hr
  split at hr
  ·rename_i id o l' k m x h0 hrun
   obtain ⟨p1,hr1⟩:=aE hr
   obtain ⟨p2,hr2⟩:=aE hr1
   obtain ⟨q1,hr3⟩:=aE hr2
   obtain ⟨q2,hr4⟩:=aE hr3
   obtain ⟨q3,hr5⟩:=aE hr4
   obtain ⟨q4,hr6⟩:=aE hr5
   clear hr hr1 hr2 hr3 hr4 hr5
   obtain rfl:=EG q1
   obtain rfl:=EG q2
   obtain rfl:=EG q3
   obtain rfl:=EG q4
   split at hr6
   ·rename_i d hd
    have:=dl (cN 3) hr6
    subst this
    refine (lP hM hP hS hrun (hl.plain p1) w hR.room).mono ?_
    rintro e w' ⟨⟨ι1,v',rfl,hv,hR1⟩,hb⟩
    cases hv with
    |slc _ _ _ _ _ p a cap z1 z2 z3 z4 z5 z6=>
     have hlive:Live (h0.get id):=by rw[hd];simp
     have hbase:=hR1.base id p z1 hlive
     obtain ⟨ob,o1,o2⟩:=hR1.obj id p z1
     rw[hd] at o1;cases o1
     obtain ⟨cur,T,fz,k1,k2,k3,k4,k5⟩:=o2
     obtain ⟨ι',r1,r2,r3⟩:=hR.madeC hb hbase k1 (by rw[k3];exact k4) (fun ι2 i u hi=>by
      obtain ⟨u',a1,a2,a3⟩:=k5 i u hi
      exact ⟨u',a1,a2.plain (ru p2 hi),a3⟩)
     exact ⟨ι',_,rfl,.slc _ _ _ _ _ _ _ _ r1 z2 z3 z4 z5 (by rw[←k3] at z6;exact z6),r2,Nat.le_trans hB hb.size,r3⟩
   ·cases hr6
  ·cases hr
noncomputable def uw (k:IntKind) (F:Int->Option NV) (l:List NV) (h:NH):Option (NV×NH):=
 match l with
 | [.int k' (.lit n)]=>cond (eg k k') (match F n with|some v=>some (v,h)|none=>none) none
 |_=>none
theorem xt {P:Program} {S:bE} (hM:P.follows .mixedOrders=true) (hP:P.check= .ok ()) (hS:cQ P S) {N f:Nat} {k:IntKind} {F:Int->Option NV} (hen:∀args w,(callFunc f args).run P w= .ok (.enter f args) w)
 (H:∀n v,F n=some v->∃x:SI,(∀ι,VR ι (.int k x) (.int k n))/\bi P S N f [.int k x] v=true):du P f (uw k F):=
 du.plain hen fun ι B h w l args' v h' hF hR hl=>by
  unfold uw at hF
  split at hF
  ·rename_i k' n
   obtain ⟨c1,hF2⟩:=ax hF
   clear hF
   obtain rfl:=dq c1
   cases hu:F n with
   |none=>rw[hu] at hF2;cases hF2
   |some u=>
    rw[hu] at hF2
    injection hF2 with hF3
    injection hF3 with e1 e2
    subst e1;subst e2
    obtain ⟨x,hx,hr⟩:=H n u hu
    unfold bi at hr
    split at hr
    ·rename_i u' y h0 hrun
     obtain ⟨p1,hr1⟩:=aE hr
     obtain ⟨p2,hr2⟩:=aE hr1
     have:=cN _ _ _ hr2
     subst this
     cases hl with
     |cons _ _ _ _ h1 hl=>
      cases hl;cases h1
      refine ⟨rfl,(lP hM hP hS hrun (.cons _ _ _ _ (hx _) .nil) w hR.room).mono ?_⟩
      rintro e w' ⟨⟨ι1,v',rfl,hv,_⟩,hb⟩
      exact ⟨⟨v',rfl,hv.plain p2⟩,hb⟩
    ·cases hr
  ·cases hF
end
end Nm
namespace Nm
open Go Go.RowKit Go.Proofs Go.Sort
noncomputable section
def fG (fuel:Nat):Nat->List Nat->List Nat:=Nat.rec (fun _ acc=>acc) (fun _ ih u acc=>cond (Nat.ble (Nat.succ u) 10) (ah (Nat.add 48 u) fun d=>d::acc) (ah (Nat.add 48 (Nat.mod u 10)) fun d=>ih (Nat.div u 10) (d::acc))) fuel
def cW (n:Int):List Nat:=Int.rec (fun m=>fG 20 m []) (fun m=>45::fG 20 (Nat.succ m) []) n
def DE (k:Nat):Nat->List NV:=Nat.rec (fun _=> []) (fun _ ih x=>ah x fun x=> .int .u64 (.lit (.ofNat x))::ih (Nat.mul x 10)) k
def ei:List NV:=DE 20 1
def kU (g:Nat) (h:NH):Bool:=match h.get (D4.of g) with|some (.cells _ c)=>cK (bc 1) c ei|_=>false
def qf (g:Nat) (l:List NV) (h:NH):Option (NV×NH):=
 match l with
 | [.int .i64 (.lit n)]=>cond (kU g h) (cond (g8 (.negSucc 9223372036854775807) n) (cond (g8 n (.ofNat 9223372036854775807)) (some (.str (cW n),h)) none) none) none
 |_=>none
end
theorem fE (k u:Nat) (acc:List Nat):fG (k+1) u acc=if u<10 then (48+u)::acc else fG k (u / 10) ((48+u % 10)::acc):=by
 have e:fG (k+1) u acc=cond (Nat.ble (Nat.succ u) 10) (ah (Nat.add 48 u) fun d=>d::acc) (ah (Nat.add 48 (Nat.mod u 10)) fun d=>fG k (Nat.div u 10) (d::acc)):=rfl
 rw[e,aa,aa]
 by_cases h:u<10
 ·rw[ED h,Nat.ble_eq_true_of_le (by omega)];rfl
 ·rw[EC h]
  cases hb:Nat.ble (Nat.succ u) 10 with
  |true=>exact EB (Nat.le_of_ble_eq_true hb) (by omega)
  |false=>rfl
theorem ma:∀(k u:Nat) (acc:List Nat),u<10 ^ k->0<k->fG k u acc=(Lib.decDigits u).map UInt8.toNat++acc:=by
 intro k
 induction k with
 |zero=>intro u acc _ h;omega
 |succ k ih=>
  intro u acc hu _
  rw[fE,Lib.decDigits]
  by_cases h:u<10
  ·rw[ED h,dif_pos h];simp;omega
  ·rw[EC h,dif_neg h]
   rcases Nat.eq_zero_or_pos k with rfl|hk
   ·omega
   ·rw[ih _ _ (by rw[Nat.pow_succ] at hu;omega) hk]
    simp;omega
theorem mJ {n:Int} (h0:-9223372036854775808<=n) (h1:n<=9223372036854775807):cW n=(Lib.itoa n).map UInt8.toNat:=by
 unfold Lib.itoa
 cases n with
 |ofNat m=>
  have e:cW (.ofNat m)=fG 20 m []:=rfl
  rw[e,ma 20 m [] (by show m<100000000000000000000;have:((m:Nat):Int)<=9223372036854775807:=h1;omega) (by omega),EC (by simp)]
  simp
 |negSucc m=>
  have e:cW (.negSucc m)=45::fG 20 (m+1) []:=rfl
  rw[e,ma 20 (m+1) [] (by show m+1<100000000000000000000;omega) (by omega),ED (by omega)]
  simp
theorem ld:ei=Lib.pow10Tab.map fun z=> .int .u64 (.lit z):=by
 have e:ei= [0,1,2,3,4,5,6,7,8,9,10,11,12,13,14,15,16,17,18,19].map fun k:Nat=>NV.int .u64 (.lit (.ofNat (10 ^ k))):=by kernel_rfl
 rw[e];rfl
theorem oI (w:World) (q:Nat) (os:Array Obj):Below w.heap.size w (grow (w.drewN q) os):=
 ⟨rfl,rfl,rfl,by first|(simp[grow];done)|(simp[grow];omega),fun i hi=>by
  show ((w.drewN q).heap++os)[i]? =_
  rw[Array.getElem?_append_left (by show i<w.heap.size;omega)]
  rfl⟩
section
variable [Val]
theorem VRL.ints {ι:az} {k:IntKind}:∀{zs:List Int} {l:List Value},VRL ι (zs.map fun z=> .int k (.lit z)) l->l=zs.map fun z=> .int k z:=by
 intro zs
 induction zs with
 |nil=>intro l h;cases h;rfl
 |cons z zs ih=>
  intro l h
  cases h with
  |cons _ v _ l' h hl=>cases h;rw[ih hl];rfl
theorem yQ {P:Program} {ι:az} {B:Nat} {h:NH} {w:World} (hR:Rel P ι B h w) {g:Nat} (hg:g<NG) (hn:GN g=20) (hN:P.globalNamed "internal/strconv.uint64pow10" =some g) (ht:kU g h=true):Lib.TabIs P w "internal/strconv.uint64pow10" .u64 Lib.pow10Tab:=by
 unfold kU at ht
 split at ht
 ·rename_i wr c hc
  have:=dl (cN 1) ht
  subst this
  obtain ⟨cur,T,fz,k1,k2⟩:=hR.global hg hc (by rw[hn];decide+kernel)
  rw[ld] at k2
  have:=VRL.ints k2
  unfold Lib.TabIs World.var?
  rw[hN]
  simp only[Option.bind_some,k1]
  rw[←this]
 ·cases ht
theorem ur {P:Program} {ρ:Shelf.Ren} (L:LaysM.n171 P ρ) {g:Nat} (hg:g<NG) (hn:GN g=20) (hN:P.globalNamed "internal/strconv.uint64pow10" =some g):du P (ρ.f 171) (qf g):=
 du.plain (enters_of L.f171 (by kernel_rfl) rfl) fun ι B h w args args' v h' hF hR hl=>by
  unfold qf at hF
  split at hF
  ·rename_i n
   obtain ⟨c1,hF⟩:=ax hF
   obtain ⟨c2,hF⟩:=ax hF
   obtain ⟨c3,hF⟩:=ax hF
   cases hF
   rw[bD] at c2 c3
   have h0:-9223372036854775808<=n:=of_decide_eq_true c2
   have h1:n<=9223372036854775807:=of_decide_eq_true c3
   cases hl with
   |cons _ _ _ _ hx hnil=>
    cases hnil;cases hx
    refine ⟨rfl,(Any.strconv_Itoa L n h0 h1 w (yQ hR hg hn hN c1)).mono ?_⟩
    rintro e w' ⟨rfl,k,os,rfl⟩
    refine ⟨⟨_,rfl,.str _ _ ?_⟩,oI _ _ _⟩
    rw[mJ h0 h1]
  ·cases hF
theorem vC {P:Program} {ρ:Shelf.Ren} (L:LaysM.n171 P ρ) {f g:Nat} (hf:ρ.f 171=f) (hg:g<NG) (hn:GN g=20) (hN:P.globalNamed "internal/strconv.uint64pow10" =some g):du P f (qf g):=hf▸ur L hg hn hN
end
end Nm
namespace Nm
open Go Go.RowKit Go.Proofs Go.Sort
noncomputable section
def lc (s:List Nat):Lib.NumEnd Int:=Lib.atoiAll (s.map UInt8.ofNat)
def wi (g t:Nat) (v:Int) (h:NH):Option (NV×NH):=
 match h.get (D4.of g) with
 |some (.cells _ [.ifc _ _])=>h.new (.cells false []) fun id h=>some (.tup [.int .i64 (.lit v),.ifc t (.ptr id 0)],h)
 |_=>none
def ve (g0 g1 t:Nat) (l:List NV) (h:NH):Option (NV×NH):=
 match l with
 | [.str s]=>cond (Nat.ble s.length 281474976710656) (match lc s with
  | .ok v=>some (.tup [.int .i64 (.lit v),.nili],h)
  | .range=>wi g1 t (Lib.atoiSat (s.map UInt8.ofNat)) h
  |_=>wi g0 t 0 h) none
 |_=>none
end
theorem oF (s:ByteArray):(s.data.toList.map UInt8.toNat).map UInt8.ofNat=s.data.toList:=by
 rw[List.map_map]
 conv=>rhs;rw[←List.map_id s.data.toList]
 apply List.map_congr_left
 intro b _
 exact UInt8.ofNat_toNat
section
variable [Val]
theorem p7 {P:Program} {f g t:Nat} {z:Int} (hg:g<NG) (hn:GN g=1) {s':ByteArray} {ι:az} {B:Nat} {h:NH} {w:World} {v:NV} {h':NH} (hF:wi g t z h=some (v,h')) (hR:Rel P ι B h w) (hB:B<=w.heap.size)
 (H:∀(ev:Value),w.cell? ⟨g,0,none⟩=some ev->(ev= .nilIface∨∃te pe,ev= .iface te pe)->
  Calls P f #[.string s'] w fun e w'=>∃N T c,e= .returned (.tuple #[.int .i64 z,.iface t (.pointer (some ⟨N,0,none⟩))])/\w.heap.size<=N/\w'.heap[N]? =some (.cells c T (0,0))/\Below w.heap.size w w'):
 Calls P f #[.string s'] w fun e w'=>∃ι' v',e= .returned v'/\VR ι' v v'/\Rel P ι' B h' w'/\B<=w'.heap.size/\Grow ι h w ι' h' w':=by
 unfold wi at hF
 split at hF
 ·rename_i wr t' x hc
  rw[NH.new_eq] at hF
  cases hF
  obtain ⟨cur,T,fz,k1,k2⟩:=hR.global hg hc (by rw[hn];rfl)
  have hcur:∃te pe,cur=#[.iface te pe]:=by
   generalize hcl:cur.toList=cl at k2
   cases k2 with
   |cons _ _ _ _ a b=>cases a with
    |ifc _ _ v' _=>cases b;exact ⟨t',v',by apply Array.ext';simpa using hcl⟩
  obtain ⟨te,pe,rfl⟩:=hcur
  have hcell:w.cell? ⟨g,0,none⟩=some (.iface te pe):=by unfold World.cell?;rw[k1];rfl
  refine (H _ hcell (.inr ⟨te,pe,rfl⟩)).mono ?_
  rintro e w' ⟨N,T',c,rfl,hN,hb',hbl⟩
  obtain ⟨ι',q1,q2,q3⟩:=hR.made hbl hN hb'
  refine ⟨ι',_,rfl, ?_,q2,Nat.le_trans hB hbl.size,q3⟩
  have:=VR.ptr h.next 0 _ q1
  exact .tup _ _ (.cons _ _ _ _ (.int _ _) (.cons _ _ _ _ (.ifc _ _ _ (by simpa using this)) .nil))
 ·cases hF
theorem vR {P:Program} {ρ:Shelf.Ren} (L:LaysC.n172 P ρ) {f g0 g1 t:Nat} (hf:ρ.f 172=f) (e0:ρ.g 15=g0) (e1:ρ.g 16=g1) (et:ρ.t 168=t) (hg0:g0<NG) (hn0:GN g0=1) (hg1:g1<NG) (hn1:GN g1=1):du P f (ve g0 g1 t):=by
 subst hf;subst e0;subst e1;subst et
 refine du.of (enters_of L.f172 (by kernel_rfl) rfl) fun ι B h w args args' v h' hF hR hB hl=> ?_
 unfold ve at hF
 split at hF
 ·rename_i s
  obtain ⟨c1,hF⟩:=ax hF
  have hlen:=Nat.le_of_ble_eq_true c1
  cases hl with
  |cons _ _ _ _ hx hnil=>
   cases hnil
   cases hx with
   |str _ s' hs=>
    subst hs
    unfold lc at hF
    rw[oF] at hF
    have hsz:s'.size<=281474976710656:=by simpa using hlen
    cases hz:Lib.atoiAll s'.data.toList with
    |ok z=>
     rw[hz] at hF
     cases hF
     refine (Any.strconv_Atoi_ok L s' (by omega) z hz w).mono ?_
     rintro e w' ⟨rfl,hW⟩
     have hb:Below w.heap.size w w':=by
      rcases hW with rfl|⟨t,rfl⟩
      ·exact Below.refl _ _
      ·exact Lib.bytesWorld_below _ _ _
     exact ⟨ι,_,rfl,.tup _ _ (.cons _ _ _ _ (.int _ _) (.cons _ _ _ _ .nili .nil)),hR.below hb,Nat.le_trans hB hb.size,.below hb⟩
    |range=>
     rw[hz] at hF
     exact p7 hg1 hn1 hF hR hB fun ev h1 h2=>(Any.strconv_Atoi_range L s' hsz hz ev w h1 h2).mono fun e w' ⟨N,a,b,c,d⟩=>⟨N,_,_,a,b,c,d⟩
    |_=>
     rw[hz] at hF
     exact p7 hg0 hn0 hF hR hB fun ev h1 h2=>(Any.strconv_Atoi_syntax L s' hsz hz ev w h1 h2).mono fun e w' ⟨N,a,b,c,d⟩=>⟨N,_,_,a,b,c,d⟩
 ·cases hF
end
theorem tS:∀(k u acc:Nat),u<10 ^ k->0<k->∀l,Lib.decFrom acc (Lib.decDigits u++l)=Lib.decFrom (acc*10 ^ (Lib.decDigits u).length+u) l:=by
 intro k
 induction k with
 |zero=>intro u acc _ h;omega
 |succ k ih=>
  intro u acc hu _ l
  rw[Lib.decDigits]
  have hd:∀d:Nat,d<10->Lib.digitVal (UInt8.ofNat (48+d))=some d:=by
   intro d hd
   have:d=0∨d=1∨d=2∨d=3∨d=4∨d=5∨d=6∨d=7∨d=8∨d=9:=by omega
   rcases this with rfl|rfl|rfl|rfl|rfl|rfl|rfl|rfl|rfl|rfl<;>rfl
  by_cases h:u<10
  ·rw[dif_pos h]
   simp only[List.cons_append,List.nil_append,Lib.decFrom,hd u h,List.length_cons,List.length_nil]
  ·rw[dif_neg h]
   rcases Nat.eq_zero_or_pos k with rfl|hk
   ·omega
   ·rw[List.append_assoc,ih _ _ (by rw[Nat.pow_succ] at hu;omega) hk]
    simp only[List.cons_append,List.nil_append,Lib.decFrom,hd (u % 10) (by omega),List.length_append,List.length_cons,List.length_nil]
    congr 1
    rw[Nat.zero_add,Nat.pow_succ,Nat.add_mul,Nat.mul_assoc]
    omega
theorem ri:∀(k u:Nat) (acc:List Nat),(fG k u acc).length<=k+acc.length:=by
 intro k
 induction k with
 |zero=>intro u acc;show acc.length<=_;omega
 |succ k ih=>
  intro u acc
  rw[fE]
  split
  ·simp;omega
  ·have:=ih (u / 10) ((48+u % 10)::acc);simp at this ⊢;omega
theorem qq {u:Nat} (hu:u<10 ^ 11):Lib.decNat (Lib.decDigits u)=some u/\(Lib.decDigits u).length<=11:=by
 have h:=tS 11 u 0 hu (by omega) []
 rw[List.append_nil] at h
 constructor
 ·unfold Lib.decNat
  have hne:(Lib.decDigits u).isEmpty=false:=by
   rw[Lib.decDigits];split<;>simp
  rw[hne,h]
  show some _=_
  congr 1;omega
 ·have e:=ma 11 u [] hu (by omega)
  have l:(fG 11 u []).length<=11:=by
   have:=ri 11 u [];simpa using this
  rw[e] at l
  simpa using l
theorem qV {n:Int} (h0:-4294967296<=n) (h1:n<=4294967296):lc (cW n)= .ok n:=by
 unfold lc
 rw[mJ (by omega) (by omega),List.map_map]
 have e:(Lib.itoa n).map (UInt8.ofNat ∘ UInt8.toNat)=Lib.itoa n:=by
  conv=>rhs;rw[←List.map_id (Lib.itoa n)]
  exact List.map_congr_left fun b _=>UInt8.ofNat_toNat
 rw[e]
 unfold Lib.itoa
 split
 ·obtain ⟨d1,d2⟩:=qq (u:=n.natAbs) (by omega)
  rw[Lib.atoiAll_short _ (by simp;omega)]
  unfold Lib.atoi
  show Lib.NumEnd.ofOption (Option.map (fun (m:Nat)=>-(m:Int)) (Lib.decNat (Lib.decDigits n.natAbs)))=_
  rw[d1]
  show Lib.NumEnd.ok (-(n.natAbs:Int))=_
  congr 1;omega
 ·obtain ⟨d1,d2⟩:=qq (u:=n.toNat) (by omega)
  rw[Lib.atoiAll_short _ (by omega)]
  unfold Lib.atoi
  cases hd:Lib.decDigits n.toNat with
  |nil=>rw[hd] at d1;cases d1
  |cons b r=>
   rw[hd] at d1
   have hv:∀c:UInt8,Lib.digitVal c=none->(b==c)=false:=by
    intro c hc
    cases hb:b==c with
    |false=>rfl
    |true=>
     have:=eq_of_beq hb
     subst this
     simp only[Lib.decNat,Lib.decFrom,hc] at d1
     cases d1
   simp only[hv 45 rfl,hv 43 rfl,d1]
   show Lib.NumEnd.ok (n.toNat:Int)=_
   congr 1;omega
end Nm
