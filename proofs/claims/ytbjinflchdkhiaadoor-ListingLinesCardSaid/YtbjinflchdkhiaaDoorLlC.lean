/- A machine that runs the given program with memory and order of evaluation taken apart, and what it shows of the law ListingLines: part 3. -/
import Derived.WideKeyArgs
import Derived.Carry
import Derived.ChangeArms
import Derived.HandedShaped
import Derived.Shelf.Strconv.Itoa3
import Derived.Shelf.Strconv.RangeError
import Derived.Shelf.Strconv.SyntaxError
import Derived.Shelf.Strconv.AtoiAll
import Derived.Test.YtbjinflchdkhiaaDoorLlB
set_option linter.unusedSimpArgs false
set_option linter.unusedVariables false
set_option linter.unusedSectionVars false
set_option linter.defProp false
namespace Nm
open Go Go.RowKit
def Le (a b:Option D4->NC->Dyn->Res):Prop:=∀r c d o d',a r c d= .mk o d'->b r c d= .mk o d'
section
variable {P:Program} {S:bP} {a b:Option D4->NC->Dyn->Res}
theorem fu {F G:Nat->List NV->Option NV->NH->CR} (h:∀f l p m r,F f l p m=r->r≠.fail->G f l p m=r) {K:Option NV->NH->CR}:∀(l:List Dfr) (p:Option NV) (m:NH) (r:CR),unwind F K l p m=r->r≠.fail->unwind G K l p m=r:=by
 intro l
 induction l with
 |nil=>exact fun p m r e _=>e
 |cons c l ih=>
  intro p m r e hr
  rw[jx] at e ⊢
  cases c with
  |mark id=>
   dsimp only at e ⊢
   split at e
   ·exact ih _ _ _ e hr
   ·exact Hl e.symm hr
  |call f cap=>
   dsimp only at e ⊢
   cases hf:F f cap p m with
   |fail=>rw[hf] at e;exact Hl e.symm hr
   |pan v x m'=>rw[hf] at e;exact Hl e.symm hr
   |val v x m'=>
    rw[hf] at e
    rw[h f cap p m _ hf (by simp)]
    exact ih _ _ _ e hr
theorem qH (h:Le a b):∀(d f:Nat) (l:List NV) (p:Option NV) (m:NH) (r:CR),cw P a d f l p m=r->r≠.fail->cw P b d f l p m=r:=by
 intro d
 induction d with
 |zero=>intro f l p m r e hr;exact Hl e.symm hr
 |succ d ih=>
  intro f l p m r e hr
  rw[d6] at e ⊢
  cases hc:am P f with
  |none=>rw[hc] at e;exact Hl e.symm hr
  |some x=>
   cases x with
   |ext x=>rw[hc] at e;exact Hl e.symm hr
   |code nf=>
    rw[hc] at e
    dsimp only at e ⊢
    cases ha:a none nf.body ⟨dv l 0 .leaf, [],p,m⟩ with
    |fail=>rw[ha] at e;exact Hl e.symm hr
    |mk o d'=>
     rw[ha] at e
     rw[h _ _ _ _ _ ha]
     cases o with
     |norm=>exact fu (fun f l p m r=>ih f l p m r) _ _ _ _ e hr
     |ret=>exact fu (fun f l p m r=>ih f l p m r) _ _ _ _ e hr
     |pan v=>exact fu (fun f l p m r=>ih f l p m r) _ _ _ _ e hr
     |exit id=>exact Hl e.symm hr
theorem cL (h:Le a b) {f:Nat} {l:List NV} {m:NH} {r:CR} (e:bA P S a f l m=r) (hr:r≠.fail):bA P S b f l m=r:=by
 unfold bA at e ⊢
 cases hs:S f l m with
 |some v=>rw[hs] at e;exact e
 |none=>
  rw[hs] at e
  dsimp only at e ⊢
  cases hc:am P f with
  |none=>rw[hc] at e;exact e
  |some x=>
   rw[hc] at e
   cases x with
   |ext x=>exact e
   |code nf=>exact qH h _ _ _ _ _ _ e hr
theorem kP (h:Le a b) {l:D4} {bd:NC} {t:Tm} {m:NH} {r:CR} (e:bZ a l bd t m=r) (hr:r≠.fail):bZ b l bd t m=r:=by
 unfold bZ at e ⊢
 split at e
 ·rename_i p tm ps assign body hm
  rw[NH.set_eq] at e ⊢
  cases ha:a (some l) bd ⟨t, [],none,m.put l (.loop 1 p tm ps assign body)⟩ with
  |fail=>rw[ha] at e;exact Hl e.symm hr
  |mk o d=>rw[ha] at e;rw[h _ _ _ _ _ ha];exact e
 ·exact Hl e.symm hr
theorem gP (h:Le a b) {l:D4} {args:List NV} {m:NH} {r:CR} (e:round a l args m=r) (hr:r≠.fail):round b l args m=r:=by
 unfold round at e ⊢
 split at e
 ·rename_i x tm ps assign body hm
  obtain ⟨h1,h2⟩:=jz hr e
  have key:∀K:Tm->CR,cP .fail ps args tm K=K (nj ps args tm):=by
   clear e h2 hm
   intro K
   induction ps generalizing args tm with
   |nil=>cases args with
    |nil=>rfl
    |cons=>simp at h1
   |cons q ps ih=>
    cases args with
    |nil=>simp at h1
    |cons v vs=>
     have e:cP .fail (q::ps) (v::vs) tm K=NT.set q v tm fun t=>cP .fail ps vs t K:=rfl
     rw[e,NT.set_eq]
     exact ih _ (by simpa using h1)
  rw[key]
  cases ha:a (some l) assign ⟨nj ps args tm, [],none,m⟩ with
  |fail=>rw[ha] at h2;exact Hl h2.symm hr
  |mk o d=>
   rw[ha] at h2
   rw[h _ _ _ _ _ ha]
   cases o with
   |norm=>
    dsimp only at h2 ⊢
    split at h2
    ·exact kP h h2 hr
    ·exact Hl h2.symm hr
   |_=>exact Hl h2.symm hr
 ·exact Hl e.symm hr
theorem kI (h:Le a b) {rnd:Option D4} {dfs:List Dfr} {ctx:Option NV} {m:NH} {x:NR} {r:OpO} (e:cU P S a rnd dfs ctx m x=r) (hr:r≠.fail):cU P S b rnd dfs ctx m x=r:=by
 cases x with
 |call f l=>
  have e':ph dfs ctx (bA P S a f l m)=r:=e
  have hn:bA P S a f l m≠.fail:=fun hh=>by rw[hh] at e';exact hr e'.symm
  show ph dfs ctx (bA P S b f l m)=r
  rw[cL h rfl hn];exact e'
 |yld l args=>
  have e':ph dfs ctx (round a l args m)=r:=e
  have hn:round a l args m≠.fail:=fun hh=>by rw[hh] at e';exact hr e'.symm
  show ph dfs ctx (round b l args m)=r
  rw[gP h rfl hn];exact e'
 |_=>exact e
theorem wj {dst:Option D4} {K L:Dyn->Res} (hk:∀d o d',K d= .mk o d'->L d= .mk o d') {t:Tm} {dfs:List Dfr} {ctx:Option NV} {x:OpO} {o:Out} {d':Dyn} (e:pA dst K t dfs ctx x= .mk o d'):pA dst L t dfs ctx x= .mk o d':=by
 cases x with
 |fail=>cases e
 |next v dfs ctx h=>exact hk _ _ _ e
 |pan v h=>exact e
theorem Co {dst:Option D4} {K:Dyn->Res} {t:Tm} {dfs:List Dfr} {ctx:Option NV} {x:OpO} {o:Out} {d':Dyn} (e:pA dst K t dfs ctx x= .mk o d'):x≠.fail:=by
 rintro rfl;cases e
theorem fO (h:Le a b) {rnd:Option D4}:∀(l:List NOper) (d:Dyn) (o:Out) (d':Dyn),cj P S a rnd l d= .mk o d'->cj P S b rnd l d= .mk o d':=by
 intro l
 induction l with
 |nil=>exact fun d o d' e=>e
 |cons x l ih=>
  rintro ⟨t,dfs,ctx,m⟩ o d' e
  rw[bG] at e ⊢
  cases hg:ao t x.guard with
  |none=>rw[hg] at e;cases e
  |some on=>
   rw[hg] at e
   cases on with
   |false=>exact ih _ _ _ e
   |true=>
    dsimp only at e ⊢
    rw[kI h rfl (Co e)]
    exact wj ih e
theorem i6 (h:Le a b) {rnd:Option D4}:∀(l:List NOper) (hs:List (Nat×NH)) (rs:List (Nat×(NH->NR)×NV)) (d:Dyn) (o:Out) (d':Dyn),bx P S a rnd l hs rs d= .mk o d'->bx P S b rnd l hs rs d= .mk o d':=by
 intro l
 induction l with
 |nil=>exact fun hs rs d o d' e=>e
 |cons x l ih=>
  rintro hs rs ⟨t,dfs,ctx,m⟩ o d' e
  rw[bB] at e ⊢
  cases hg:ao t x.guard with
  |none=>rw[hg] at e;cases e
  |some on=>
   rw[hg] at e
   cases on with
   |false=>exact ih _ _ _ _ _ e
   |true=>
    dsimp only at e ⊢
    cases hcl:ak x.op with
    |pure=>
     rw[hcl] at e
     dsimp only at e ⊢
     cases hop:af x.op t m<;>rw[hop] at e<;>first|exact ih _ _ _ _ _ e|cases e
    |alloc=>
     rw[hcl] at e
     dsimp only at e ⊢
     cases ha:ahead x.pre hs with
     |false=>rw[ha] at e;cases e
     |true=>
      rw[ha] at e
      simp only[cond_true] at e ⊢
      cases hop:af x.op t m<;>rw[hop] at e<;>first|exact ih _ _ _ _ _ e|cases e
    |read=>
     rw[hcl] at e
     dsimp only at e ⊢
     cases hop:af x.op t m with
     |val v=>
      rw[hop] at e
      dsimp only at e ⊢
      cases hst:cC x.pre (af x.op t) v hs with
      |false=>rw[hst] at e;cases e
      |true=>rw[hst] at e;exact ih _ _ _ _ _ e
     |_=>rw[hop] at e;cases e
    |eff=>
     rw[hcl] at e
     dsimp only at e ⊢
     cases ha:ahead x.pre hs with
     |false=>rw[ha] at e;cases e
     |true=>
      rw[ha] at e
      simp only[cond_true] at e ⊢
      have hk:∀d o d',cond (aU x.pre d.h rs) (bx P S a rnd l ((x.idx,m)::hs) rs d) .fail= .mk o d'->cond (aU x.pre d.h rs) (bx P S b rnd l ((x.idx,m)::hs) rs d) .fail= .mk o d':=by
       intro d o d' e
       cases hs':aU x.pre d.h rs with
       |false=>rw[hs'] at e;cases e
       |true=>rw[hs'] at e;exact ih _ _ _ _ _ e
      have hne:cU P S a rnd dfs ctx m (af x.op t m)≠.fail:=by
       intro hh
       rw[hh] at e
       cases e
      rw[kI h rfl hne]
      cases hoo:cU P S a rnd dfs ctx m (af x.op t m) with
      |fail=>exact Hl hoo hne
      |pan v m'=>rw[hoo] at e;exact e
      |next v dfs1 ctx1 m'=>
       rw[hoo] at e
       have e':cy (bk x.idx l) (cond (aU x.pre m' rs) (bx P S a rnd l ((x.idx,m)::hs) rs ⟨aC x.dst v t,dfs1,ctx1,m'⟩) .fail)= .mk o d':=e
       show cy (bk x.idx l) (cond (aU x.pre m' rs) (bx P S b rnd l ((x.idx,m)::hs) rs ⟨aC x.dst v t,dfs1,ctx1,m'⟩) .fail)= .mk o d'
       cases hin:cond (aU x.pre m' rs) (bx P S a rnd l ((x.idx,m)::hs) rs ⟨aC x.dst v t,dfs1,ctx1,m'⟩) .fail with
       |fail=>rw[hin] at e';cases e'
       |mk o2 d2=>
        have:=hk ⟨aC x.dst v t,dfs1,ctx1,m'⟩ o2 d2 hin
        rw[hin] at e'
        rw[show cond (aU x.pre m' rs) (bx P S b rnd l ((x.idx,m)::hs) rs ⟨aC x.dst v t,dfs1,ctx1,m'⟩) .fail= .mk o2 d2 from this]
        exact e'
theorem il (h:Le a b) {f:Nat} {cap:List NV} {ps:List D4} {x y:NC} {t:Tm} {dfs:List Dfr} {ctx:Option NV} {m:NH} {o:Out} {d':Dyn} (e:bM P S a f cap ps x y t dfs ctx m= .mk o d'):bM P S b f cap ps x y t dfs ctx m= .mk o d':=by
 unfold bM at e ⊢
 rw[NH.new_eq] at e ⊢
 cases hc:bA P S a f (.yld m.next::cap) (m.add (.loop 0 .none t ps x y)) with
 |fail=>rw[hc] at e;cases e
 |val v c m'=>rw[hc] at e;rw[cL h hc (by simp)];exact e
 |pan v c m'=>rw[hc] at e;rw[cL h hc (by simp)];exact e
theorem p8 (h:Le a b):Le (j0 P S a) (j0 P S b):=by
 intro r c d o d' e
 cases c with
 |skip=>exact e
 |reg l=>exact fO h _ _ _ _ e
 |regD l=>
  have e':(match bx P S a r l [] [] d with| .mk (.pan v) d=>Res.mk (.pan v) ⟨im l d.t,d.dfs,d.ctx,d.h⟩|r=>r)= .mk o d':=e
  show (match bx P S b r l [] [] d with| .mk (.pan v) d=>Res.mk (.pan v) ⟨im l d.t,d.dfs,d.ctx,d.h⟩|r=>r)= .mk o d'
  cases hr:bx P S a r l [] [] d with
  |fail=>rw[hr] at e';cases e'
  |mk o2 d2=>rw[hr] at e';rw[i6 h _ _ _ _ _ _ hr];exact e'
 |seq x y=>
  have e':(match a r x d with| .mk o d=>(match o with| .norm=>a r y d|o=> .mk o d)| .fail=> .fail)=Res.mk o d':=(qm (cf:=P) (S:=S)).symm.trans e
  refine (qm (cf:=P) (S:=S)).trans ?_
  show (match b r x d with| .mk o d=>(match o with| .norm=>b r y d|o=> .mk o d)| .fail=> .fail)=Res.mk o d'
  cases hx:a r x d with
  |fail=>rw[hx] at e';cases e'
  |mk o2 d2=>
   rw[hx] at e'
   rw[h _ _ _ _ _ hx]
   cases o2 with
   |norm=>exact h _ _ _ _ _ e'
   |_=>exact e'
 |cond g x y=>
  have e':(match ρ d.t g with|some (.bool c)=>(Bool.rec (a r y d) (a r x d) c:Res)|_=> .fail)=Res.mk o d':=(nw (cf:=P) (S:=S)).symm.trans e
  refine (nw (cf:=P) (S:=S)).trans ?_
  show (match ρ d.t g with|some (.bool c)=>(Bool.rec (b r y d) (b r x d) c:Res)|_=> .fail)=Res.mk o d'
  cases hg:ρ d.t g with
  |none=>rw[hg] at e';cases e'
  |some v=>
   rw[hg] at e'
   cases v with
   |bool q=>cases q<;>exact h _ _ _ _ _ e'
   |_=>cases e'
 |block id x=>
  have e':(match a r x d with| .mk o d=>(match o with| .exit i=>cond (Nat.beq i id) (.mk .norm d) (.mk (.exit i) d)|o=> .mk o d)| .fail=> .fail)=Res.mk o d':=(ln (cf:=P) (S:=S)).symm.trans e
  refine (ln (cf:=P) (S:=S)).trans ?_
  show (match b r x d with| .mk o d=>(match o with| .exit i=>cond (Nat.beq i id) (.mk .norm d) (.mk (.exit i) d)|o=> .mk o d)| .fail=> .fail)=Res.mk o d'
  cases hx:a r x d with
  |fail=>rw[hx] at e';cases e'
  |mk o2 d2=>rw[hx] at e';rw[h _ _ _ _ _ hx];exact e'
 |loop x=>
  have e':(match a r x d with| .mk o d=>(match o with| .norm=>a r (.loop x) d|o=> .mk o d)| .fail=> .fail)=Res.mk o d':=(mN (cf:=P) (S:=S)).symm.trans e
  refine (mN (cf:=P) (S:=S)).trans ?_
  show (match b r x d with| .mk o d=>(match o with| .norm=>b r (.loop x) d|o=> .mk o d)| .fail=> .fail)=Res.mk o d'
  cases hx:a r x d with
  |fail=>rw[hx] at e';cases e'
  |mk o2 d2=>
   rw[hx] at e'
   rw[h _ _ _ _ _ hx]
   cases o2 with
   |norm=>exact h _ _ _ _ _ e'
   |_=>exact e'
 |rangeFunc f ps x y=>
  obtain ⟨t,dfs,ctx,m⟩:=d
  have e':(match ρ t f with
   |some (.fn f cap)=>(match (generalizing:=false) r with
    |none=>m.new (.defd true) fun q m=>bM P S a f cap ps x y t (.mark q::dfs) ctx m
    |some l=>(match m.get l with
     |some (.loop ..)=>bM P S a f cap ps x y t dfs ctx m
     |_=> .fail))
   |_=> .fail)=Res.mk o d':=e
  show (match ρ t f with
   |some (.fn f cap)=>(match (generalizing:=false) r with
    |none=>m.new (.defd true) fun q m=>bM P S b f cap ps x y t (.mark q::dfs) ctx m
    |some l=>(match m.get l with
     |some (.loop ..)=>bM P S b f cap ps x y t dfs ctx m
     |_=> .fail))
   |_=> .fail)=Res.mk o d'
  cases hf:ρ t f with
  |none=>rw[hf] at e';cases e'
  |some v=>
   rw[hf] at e'
   cases v with
   |fn f cap=>
    dsimp only at e' ⊢
    cases r with
    |none=>
     dsimp only at e' ⊢
     rw[NH.new_eq] at e' ⊢
     exact il h e'
    |some l=>
     dsimp only at e' ⊢
     split at e'
     ·exact il h e'
     ·cases e'
   |_=>cases e'
 |exit id=>exact e
 |ret=>exact e
theorem yN:∀n,Le (ev P S n) (ev P S (n+1)):=by
 intro n
 induction n with
 |zero=>intro r c d o d' e;cases e
 |succ n ih=>exact p8 ih
theorem bN {n m:Nat} (hnm:n<=m):Le (ev P S n) (ev P S m):=by
 induction m with
 |zero=>
  have:n=0:=by omega
  subst this;exact fun _ _ _ _ _ e=>e
 |succ m ih=>
  by_cases h:n=m+1
  ·subst h;exact fun _ _ _ _ _ e=>e
  ·exact fun r c d o d' e=>yN m r c d o d' (ih (by omega) r c d o d' e)
end
def dd (P:Program) (S:bP) (r:Option D4) (c:NC) (d:Dyn) (o:Out) (d':Dyn):Prop:=∃n,ev P S n r c d= .mk o d'
def Call (P:Program) (S:bP) (f:Nat) (l:List NV) (m:NH) (x:CR):Prop:=x≠.fail/\∃n,bA P S (ev P S n) f l m=x
def gF (P:Program) (S:bP) (r:Option D4) (l:List NOper) (d:Dyn) (o:Out) (d':Dyn):Prop:=∃n,cj P S (ev P S n) r l d= .mk o d'
section
variable {P:Program} {S:bP} {r:Option D4}
theorem dd.skip (d:Dyn):dd P S r .skip d .norm d:=⟨1,rfl⟩
theorem dd.ret (d:Dyn):dd P S r .ret d .ret d:=⟨1,rfl⟩
theorem dd.exit (id:Nat) (d:Dyn):dd P S r (.exit id) d (.exit id) d:=⟨1,rfl⟩
theorem dd.seq {x y:NC} {d d1 d2:Dyn} {o:Out} (hx:dd P S r x d .norm d1) (hy:dd P S r y d1 o d2):dd P S r (.seq x y) d o d2:=by
 obtain ⟨n,hn⟩:=hx
 obtain ⟨m,hm⟩:=hy
 refine ⟨max n m+1, ?_⟩
 refine qD.trans ?_
 show (match ev P S (max n m) r x d with| .mk o d=>(match o with| .norm=>ev P S (max n m) r y d|o=> .mk o d)| .fail=> .fail)=Res.mk o d2
 rw[bN (Nat.le_max_left n m) _ _ _ _ _ hn]
 exact bN (Nat.le_max_right n m) _ _ _ _ _ hm
theorem dd.seq_out {x y:NC} {d d1:Dyn} {o:Out} (hx:dd P S r x d o d1) (ho:o≠.norm):dd P S r (.seq x y) d o d1:=by
 obtain ⟨n,hn⟩:=hx
 refine ⟨n+1, ?_⟩
 refine qD.trans ?_
 show (match ev P S n r x d with| .mk o d=>(match o with| .norm=>ev P S n r y d|o=> .mk o d)| .fail=> .fail)=Res.mk o d1
 rw[hn]
 cases o<;>first|rfl|exact Hl rfl ho
theorem dd.cond {g:NOpd} {q:Bool} {x y:NC} {d d1:Dyn} {o:Out} (hg:ρ d.t g=some (.bool q)) (h:dd P S r (if q then x else y) d o d1):dd P S r (.cond g x y) d o d1:=by
 obtain ⟨n,hn⟩:=h
 refine ⟨n+1, ?_⟩
 refine rq.trans ?_
 show (match ρ d.t g with|some (.bool c)=>(Bool.rec (ev P S n r y d) (ev P S n r x d) c:Res)|_=> .fail)=Res.mk o d1
 rw[hg]
 cases q<;>exact hn
theorem dd.block {id:Nat} {x:NC} {d d1:Dyn} {o:Out} (h:dd P S r x d o d1):dd P S r (.block id x) d (match o with| .exit i=>_root_.cond (Nat.beq i id) .norm (.exit i)|o=>o) d1:=by
 obtain ⟨n,hn⟩:=h
 refine ⟨n+1, ?_⟩
 refine n4.trans ?_
 show (match ev P S n r x d with| .mk o d=>(match o with| .exit i=>_root_.cond (Nat.beq i id) (Res.mk .norm d) (Res.mk (.exit i) d)|o=>Res.mk o d)| .fail=>Res.fail)=_
 rw[hn]
 cases o with
 |exit i=>dsimp only;cases Nat.beq i id<;>rfl
 |_=>rfl
theorem dd.loop {x:NC} {d d1 d2:Dyn} {o:Out} (hx:dd P S r x d .norm d1) (hy:dd P S r (.loop x) d1 o d2):dd P S r (.loop x) d o d2:=by
 obtain ⟨n,hn⟩:=hx
 obtain ⟨m,hm⟩:=hy
 refine ⟨max n m+1, ?_⟩
 refine mI.trans ?_
 show (match ev P S (max n m) r x d with| .mk o d=>(match o with| .norm=>ev P S (max n m) r (.loop x) d|o=> .mk o d)| .fail=> .fail)=Res.mk o d2
 rw[bN (Nat.le_max_left n m) _ _ _ _ _ hn]
 exact bN (Nat.le_max_right n m) _ _ _ _ _ hm
theorem dd.loop_out {x:NC} {d d1:Dyn} {o:Out} (hx:dd P S r x d o d1) (ho:o≠.norm):dd P S r (.loop x) d o d1:=by
 obtain ⟨n,hn⟩:=hx
 refine ⟨n+1, ?_⟩
 refine mI.trans ?_
 show (match ev P S n r x d with| .mk o d=>(match o with| .norm=>ev P S n r (.loop x) d|o=> .mk o d)| .fail=> .fail)=Res.mk o d1
 rw[hn]
 cases o<;>first|rfl|exact Hl rfl ho
theorem dd.reg {l:List NOper} {d d1:Dyn} {o:Out} (h:gF P S r l d o d1):dd P S r (.reg l) d o d1:=by
 obtain ⟨n,hn⟩:=h
 exact ⟨n+1,hn⟩
theorem gF.nil (d:Dyn):gF P S r [] d .norm d:=⟨0,rfl⟩
theorem gF.val {x:NOper} {l:List NOper} {t:Tm} {dfs:List Dfr} {ctx:Option NV} {m:NH} {o:Out} {d1:Dyn} {v:NV} (hg:ao t x.guard=some true) (hop:af x.op t m= .val v)
 (h:gF P S r l ⟨aC x.dst v t,dfs,ctx,m⟩ o d1):gF P S r (x::l) ⟨t,dfs,ctx,m⟩ o d1:=by
 obtain ⟨n,hn⟩:=h
 refine ⟨n, ?_⟩
 rw[bG,hg,hop]
 exact hn
theorem gF.mem {x:NOper} {l:List NOper} {t:Tm} {dfs:List Dfr} {ctx:Option NV} {m m':NH} {o:Out} {d1:Dyn} {v:NV} (hg:ao t x.guard=some true) (hop:af x.op t m= .mem v m')
 (h:gF P S r l ⟨aC x.dst v t,dfs,ctx,m'⟩ o d1):gF P S r (x::l) ⟨t,dfs,ctx,m⟩ o d1:=by
 obtain ⟨n,hn⟩:=h
 refine ⟨n, ?_⟩
 rw[bG,hg,hop]
 exact hn
theorem gF.off {x:NOper} {l:List NOper} {t:Tm} {dfs:List Dfr} {ctx:Option NV} {m:NH} {o:Out} {d1:Dyn} (hg:ao t x.guard=some false)
 (h:gF P S r l ⟨aC x.dst aL t,dfs,ctx,m⟩ o d1):gF P S r (x::l) ⟨t,dfs,ctx,m⟩ o d1:=by
 obtain ⟨n,hn⟩:=h
 refine ⟨n, ?_⟩
 rw[bG,hg]
 exact hn
theorem gF.call {x:NOper} {l:List NOper} {t:Tm} {dfs:List Dfr} {ctx:Option NV} {m m':NH} {o:Out} {d1:Dyn} {f:Nat} {args:List NV} {v:NV} {c:Option NV} (hg:ao t x.guard=some true) (hop:af x.op t m= .call f args)
 (hc:Call P S f args m (.val v c m')) (h:gF P S r l ⟨aC x.dst v t,dfs,ctx,m'⟩ o d1):gF P S r (x::l) ⟨t,dfs,ctx,m⟩ o d1:=by
 obtain ⟨n,hn⟩:=h
 obtain ⟨hne,k,hk⟩:=hc
 refine ⟨max n k, ?_⟩
 rw[bG,hg,hop]
 show pA x.dst (cj P S (ev P S (max n k)) r l) t dfs ctx (ph dfs ctx (bA P S (ev P S (max n k)) f args m))=_
 rw[cL (bN (Nat.le_max_right n k)) hk hne]
 exact fO (bN (Nat.le_max_left n k)) _ _ _ _ hn
theorem Call.of_run {f:Nat} {nf:NFun} (hs:∀l,S f l=fun _=>none) (hf:am P f=some (.code nf)) {args:List NV} {m:NH} {o:Out} {d:Dyn} (ho:o= .norm∨o= .ret) (h:dd P S none nf.body ⟨dv args 0 .leaf, [],none,m⟩ o d) (hd:d.dfs= [])
 {x:CR} (hx:cI d.h d.t nf.results .fail (fun l=> .val (jO l) d.ctx d.h)=x) (hne:x≠.fail):Call P S f args m x:=by
 obtain ⟨n,hn⟩:=h
 refine ⟨hne,n, ?_⟩
 unfold bA
 rw[hs]
 dsimp only
 rw[hf]
 dsimp only
 rw[d6,hf]
 dsimp only
 rw[hn]
 rcases ho with rfl|rfl<;>(dsimp only;rw[hd];exact hx)
variable [Val] in
theorem ve (hM:P.follows .mixedOrders=true) (hP:P.check= .ok ()) (hS:dk P S) {f:Nat} {args:List NV} {m m':NH} {v:NV} {c:Option NV} {nf:NFun} (hf:am P f=some (.code nf)) (hs:S f args=fun _=>none) (hc:Call P S f args m (.val v c m'))
 {ι:aE} {w:World} (hR:Rel P ι w.heap.size m w) (hlive:∀i p,ι i=some p->¬Live (m.get i)) {args':List Value} (ha:VRL ι args args'):
 Calls P f args'.toArray w fun e w'=>(∃ι' v',e= .returned v'/\VR ι' v v'/\ι.le ι'/\Rel P ι' w.heap.size m' w')/\Below w.heap.size w w':=by
 intro cs
 obtain ⟨_,n,hn⟩:=hc
 have hn':cw P (ev P S n) 3 f args none m= .val v c m':=by
  unfold bA at hn
  rw[hs] at hn
  dsimp only at hn
  rw[hf] at hn
  exact hn
 obtain ⟨hO,_⟩:=ko hM (ig hP) hS n
 have hD:=fP (ig hP) hO 3 f args none m
 obtain ⟨_,hF⟩:=hD (by rw[hn'];simp)
 have hF:=hF w.heap.size ι w args' .normal cs hR (Nat.le_refl _) ha (fun b hb=>by unfold tryRecover;rw[hb])
 rw[hn'] at hF
 obtain ⟨ι',v',w',cs',fr,f1,f2,f3,f4,f5,f6,f7,f8,f9⟩:=hF
 obtain ⟨rfl,_⟩:=f5.none
 refine ⟨.returned v',w',fr,⟨⟨ι',v',rfl,f1,f4.le,f2⟩,⟨f4.os,f4.tape,f4.output,f4.size,fun k hk=>f4.frame k hk fun i p hi hl=>Hl hl (hlive i p hi)⟩⟩,f6,f8,dc f7 f9⟩
end
end Nm
namespace Nm
open Go Go.RowKit
noncomputable def aG:List (D4×NV)->Tm->Tm
 | [],t=>t
 |p::l,t=>NT.put p.1 p.2 (aG l t)
noncomputable def eu (k:D4):List (D4×NV)->Option NV->Option NV
 | [],d=>d
 |p::l,d=>cond (aZ k p.1) (some p.2) (eu k l d)
theorem ll (k:D4):aZ k k=true:=by
 induction k with
 |e=>rfl
 |a d ih=>exact ih
 |b d ih=>exact ih
 |c d ih=>exact ih
 |f d ih=>exact ih
theorem fL (k:D4) (l:List (D4×NV)) (t:Tm):NT.get k (aG l t)=eu k l (NT.get k t):=by
 induction l with
 |nil=>rfl
 |cons p l ih=>
  show NT.get k (NT.put p.1 p.2 (aG l t))=cond (aZ k p.1) (some p.2) (eu k l (NT.get k t))
  cases h:aZ k p.1 with
  |true=>rw[fR h,NT.get_put_same];rfl
  |false=>
   have hne:k≠p.1:=fun e=>by rw[e,ll] at h;cases h
   rw[NT.get_put_ne hne,ih];rfl
def bm (P:Program) (S:bP) (r:Option D4) (l:List NOper) (hs:List (Nat×NH)) (rs:List (Nat×(NH->NR)×NV)) (d:Dyn) (o:Out) (d':Dyn):Prop:=∃n,bx P S (ev P S n) r l hs rs d= .mk o d'
section
variable {P:Program} {S:bP} {r:Option D4} {x:NOper} {l:List NOper} {hs:List (Nat×NH)} {rs:List (Nat×(NH->NR)×NV)} {t:Tm} {dfs:List Dfr} {ctx:Option NV} {m m':NH} {o:Out} {d d1:Dyn} {v:NV}
theorem dd.regD (h:bm P S r l [] [] d .norm d1):dd P S r (.regD l) d .norm d1:=by
 obtain ⟨n,hn⟩:=h
 refine ⟨n+1, ?_⟩
 show (match bx P S (ev P S n) r l [] [] d with| .mk (.pan v) d=>Res.mk (.pan v) ⟨im l d.t,d.dfs,d.ctx,d.h⟩|r=>r)=_
 rw[hn]
theorem bm.nil (d:Dyn):bm P S r [] hs rs d .norm d:=⟨0,rfl⟩
theorem bm.off (hg:ao t x.guard=some false) (h:bm P S r l hs rs ⟨aC x.dst aL t,dfs,ctx,m⟩ o d1):bm P S r (x::l) hs rs ⟨t,dfs,ctx,m⟩ o d1:=by
 obtain ⟨n,hn⟩:=h
 exact ⟨n,by rw[bB,hg];exact hn⟩
theorem bm.pure (hg:ao t x.guard=some true) (hc:ak x.op= .pure) (hop:af x.op t m= .val v) (h:bm P S r l hs rs ⟨aC x.dst v t,dfs,ctx,m⟩ o d1):bm P S r (x::l) hs rs ⟨t,dfs,ctx,m⟩ o d1:=by
 obtain ⟨n,hn⟩:=h
 exact ⟨n,by rw[bB,hg];dsimp only;rw[hc];dsimp only;rw[hop];exact hn⟩
theorem bm.alloc (hg:ao t x.guard=some true) (hc:ak x.op= .alloc) (ha:ahead x.pre hs=true) (hop:af x.op t m= .mem v m') (h:bm P S r l hs rs ⟨aC x.dst v t,dfs,ctx,m'⟩ o d1):bm P S r (x::l) hs rs ⟨t,dfs,ctx,m⟩ o d1:=by
 obtain ⟨n,hn⟩:=h
 exact ⟨n,by rw[bB,hg];dsimp only;rw[hc];dsimp only;rw[ha,hop];exact hn⟩
theorem bm.read (hg:ao t x.guard=some true) (hc:ak x.op= .read) (hop:af x.op t m= .val v) (ha:cC x.pre (af x.op t) v hs=true)
 (h:bm P S r l hs ((x.idx,af x.op t,v)::rs) ⟨aC x.dst v t,dfs,ctx,m⟩ o d1):bm P S r (x::l) hs rs ⟨t,dfs,ctx,m⟩ o d1:=by
 obtain ⟨n,hn⟩:=h
 exact ⟨n,by rw[bB,hg];dsimp only;rw[hc];dsimp only;rw[hop];dsimp only;rw[ha];exact hn⟩
theorem bm.eff (hg:ao t x.guard=some true) (hc:ak x.op= .eff) (ha:ahead x.pre hs=true) (hop:af x.op t m= .mem v m') (hst:aU x.pre m' rs=true)
 (h:bm P S r l ((x.idx,m)::hs) rs ⟨aC x.dst v t,dfs,ctx,m'⟩ .norm d1):bm P S r (x::l) hs rs ⟨t,dfs,ctx,m⟩ .norm d1:=by
 obtain ⟨n,hn⟩:=h
 refine ⟨n, ?_⟩
 rw[bB,hg];dsimp only;rw[hc];dsimp only;rw[ha,hop]
 show cy (bk x.idx l) (cond (aU x.pre m' rs) (bx P S (ev P S n) r l ((x.idx,m)::hs) rs ⟨aC x.dst v t,dfs,ctx,m'⟩) .fail)=_
 rw[hst]
 show cy (bk x.idx l) (bx P S (ev P S n) r l ((x.idx,m)::hs) rs ⟨aC x.dst v t,dfs,ctx,m'⟩)=_
 rw[hn];rfl
theorem bm.effv (hg:ao t x.guard=some true) (hc:ak x.op= .eff) (ha:ahead x.pre hs=true) (hop:af x.op t m= .val v) (hst:aU x.pre m rs=true)
 (h:bm P S r l ((x.idx,m)::hs) rs ⟨aC x.dst v t,dfs,ctx,m⟩ .norm d1):bm P S r (x::l) hs rs ⟨t,dfs,ctx,m⟩ .norm d1:=by
 obtain ⟨n,hn⟩:=h
 refine ⟨n, ?_⟩
 rw[bB,hg];dsimp only;rw[hc];dsimp only;rw[ha,hop]
 show cy (bk x.idx l) (cond (aU x.pre m rs) (bx P S (ev P S n) r l ((x.idx,m)::hs) rs ⟨aC x.dst v t,dfs,ctx,m⟩) .fail)=_
 rw[hst]
 show cy (bk x.idx l) (bx P S (ev P S n) r l ((x.idx,m)::hs) rs ⟨aC x.dst v t,dfs,ctx,m⟩)=_
 rw[hn];rfl
theorem bm.call {f:Nat} {args:List NV} {c:Option NV} (hg:ao t x.guard=some true) (hc:ak x.op= .eff) (ha:ahead x.pre hs=true) (hop:af x.op t m= .call f args) (hcall:Call P S f args m (.val v c m')) (hst:aU x.pre m' rs=true)
 (h:bm P S r l ((x.idx,m)::hs) rs ⟨aC x.dst v t,dfs,ctx,m'⟩ .norm d1):bm P S r (x::l) hs rs ⟨t,dfs,ctx,m⟩ .norm d1:=by
 obtain ⟨n,hn⟩:=h
 obtain ⟨hne,k,hk⟩:=hcall
 refine ⟨max n k, ?_⟩
 rw[bB,hg];dsimp only;rw[hc];dsimp only;rw[ha,hop]
 show cy (bk x.idx l) (pA x.dst (fun d=>cond (aU x.pre d.h rs) (bx P S (ev P S (max n k)) r l ((x.idx,m)::hs) rs d) .fail) t dfs ctx (ph dfs ctx (bA P S (ev P S (max n k)) f args m)))=_
 rw[cL (bN (Nat.le_max_right n k)) hk hne]
 show cy (bk x.idx l) (cond (aU x.pre m' rs) (bx P S (ev P S (max n k)) r l ((x.idx,m)::hs) rs ⟨aC x.dst v t,dfs,ctx,m'⟩) .fail)=_
 rw[hst]
 show cy (bk x.idx l) (bx P S (ev P S (max n k)) r l ((x.idx,m)::hs) rs ⟨aC x.dst v t,dfs,ctx,m'⟩)=_
 rw[i6 (bN (Nat.le_max_left n k)) _ _ _ _ _ _ hn];rfl
end
def An (P:Program) (S:bP) (l:D4) (args:List NV) (m:NH) (x:CR):Prop:=x≠.fail/\∃n,round (ev P S n) l args m=x
section
variable {P:Program} {S:bP} {r:Option D4} {x:NOper} {l:List NOper} {hs:List (Nat×NH)} {rs:List (Nat×(NH->NR)×NV)} {t:Tm} {dfs:List Dfr} {ctx:Option NV} {m m':NH} {o:Out} {d1:Dyn} {v:NV} {q:D4} {args:List NV} {c:Option NV}
theorem gF.yld (hg:ao t x.guard=some true) (hop:af x.op t m= .yld q args) (hc:An P S q args m (.val v c m')) (h:gF P S r l ⟨aC x.dst v t,dfs,ctx,m'⟩ o d1):gF P S r (x::l) ⟨t,dfs,ctx,m⟩ o d1:=by
 obtain ⟨n,hn⟩:=h
 obtain ⟨hne,k,hk⟩:=hc
 refine ⟨max n k, ?_⟩
 rw[bG,hg,hop]
 show pA x.dst (cj P S (ev P S (max n k)) r l) t dfs ctx (ph dfs ctx (round (ev P S (max n k)) q args m))=_
 rw[gP (bN (Nat.le_max_right n k)) hk hne]
 exact fO (bN (Nat.le_max_left n k)) _ _ _ _ hn
theorem bm.yld (hg:ao t x.guard=some true) (hc:ak x.op= .eff) (ha:ahead x.pre hs=true) (hop:af x.op t m= .yld q args) (hcall:An P S q args m (.val v c m')) (hst:aU x.pre m' rs=true)
 (h:bm P S r l ((x.idx,m)::hs) rs ⟨aC x.dst v t,dfs,ctx,m'⟩ .norm d1):bm P S r (x::l) hs rs ⟨t,dfs,ctx,m⟩ .norm d1:=by
 obtain ⟨n,hn⟩:=h
 obtain ⟨hne,k,hk⟩:=hcall
 refine ⟨max n k, ?_⟩
 rw[bB,hg];dsimp only;rw[hc];dsimp only;rw[ha,hop]
 show cy (bk x.idx l) (pA x.dst (fun d=>cond (aU x.pre d.h rs) (bx P S (ev P S (max n k)) r l ((x.idx,m)::hs) rs d) .fail) t dfs ctx (ph dfs ctx (round (ev P S (max n k)) q args m)))=_
 rw[gP (bN (Nat.le_max_right n k)) hk hne]
 show cy (bk x.idx l) (cond (aU x.pre m' rs) (bx P S (ev P S (max n k)) r l ((x.idx,m)::hs) rs ⟨aC x.dst v t,dfs,ctx,m'⟩) .fail)=_
 rw[hst]
 show cy (bk x.idx l) (bx P S (ev P S (max n k)) r l ((x.idx,m)::hs) rs ⟨aC x.dst v t,dfs,ctx,m'⟩)=_
 rw[i6 (bN (Nat.le_max_left n k)) _ _ _ _ _ _ hn];rfl
end
section
variable {P:Program} {S:bP} {r:Option D4} {x:NOper} {l:List NOper} {hs:List (Nat×NH)} {rs:List (Nat×(NH->NR)×NV)} {L:List (D4×NV)} {t:Tm} {dfs:List Dfr} {ctx:Option NV} {m m':NH} {o:Out} {d1:Dyn} {v:NV} {k:D4}
theorem bm.p (hd:x.dst=some k) (hg:ao (aG L t) x.guard=some true) (hc:ak x.op= .pure) (hop:af x.op (aG L t) m= .val v) (h:bm P S r l hs rs ⟨aG ((k,v)::L) t,dfs,ctx,m⟩ o d1):bm P S r (x::l) hs rs ⟨aG L t,dfs,ctx,m⟩ o d1:=
 bm.pure hg hc hop (by rw[hd];exact h)
theorem bm.e (hd:x.dst=some k) (hg:ao (aG L t) x.guard=some true) (hc:ak x.op= .eff) (ha:ahead x.pre hs=true) (hop:af x.op (aG L t) m= .mem v m') (hst:aU x.pre m' rs=true)
 (h:bm P S r l ((x.idx,m)::hs) rs ⟨aG ((k,v)::L) t,dfs,ctx,m'⟩ .norm d1):bm P S r (x::l) hs rs ⟨aG L t,dfs,ctx,m⟩ .norm d1:=
 bm.eff hg hc ha hop hst (by rw[hd];exact h)
theorem bm.c {f:Nat} {args:List NV} {c:Option NV} (hd:x.dst=some k) (hg:ao (aG L t) x.guard=some true) (hc:ak x.op= .eff) (ha:ahead x.pre hs=true) (hop:af x.op (aG L t) m= .call f args) (hcall:Call P S f args m (.val v c m')) (hst:aU x.pre m' rs=true)
 (h:bm P S r l ((x.idx,m)::hs) rs ⟨aG ((k,v)::L) t,dfs,ctx,m'⟩ .norm d1):bm P S r (x::l) hs rs ⟨aG L t,dfs,ctx,m⟩ .norm d1:=
 bm.call hg hc ha hop hcall hst (by rw[hd];exact h)
end
section
variable {t:Tm} {m:NH}
theorem pZ {op:BinOp} {k:IntKind} {a b:Int} (h:ci op=false):cT .num op (.int k (.lit a)) (.int k (.lit b))=bq op k a b:=by
 show cond (ci op) (bq op k a b) (cond (eS k k) (bq op k a b) none)=_
 rw[show eS k k=true by cases k<;>rfl,h];rfl
theorem E8 {k:IntKind} {a b:Int}:cT .num .lss (.int k (.lit a)) (.int k (.lit b))=some (.bool (decide (a<b))):=
 (pZ rfl).trans (by show aW (gy a b)=_;rw[bJ,aD])
theorem DN {k:IntKind} {a b:Int}:cT .num .gtr (.int k (.lit a)) (.int k (.lit b))=some (.bool (decide (b<a))):=
 (pZ rfl).trans (by show aW (gy b a)=_;rw[bJ,aD])
theorem EL {k:IntKind} {a b:Int}:cT .num .geq (.int k (.lit a)) (.int k (.lit b))=some (.bool (decide (b<=a))):=
 (pZ rfl).trans (by show aW (iN b a)=_;rw[bR,aD])
theorem Dw {k:IntKind} {a b:Int}:cT .num .eql (.int k (.lit a)) (.int k (.lit b))=some (.bool (decide (a=b))):=
 (pZ rfl).trans (by show aW (gs a b)=_;rw[bt,aD];rfl)
theorem Ec {k:IntKind} {a b:Int}:cT .num .neq (.int k (.lit a)) (.int k (.lit b))=some (.bool (decide (a≠b))):=
 (pZ rfl).trans (by show aW (dx (gs a b))=_;rw[bt,aD,bH];by_cases h:a=b<;>simp[h])
theorem wrap_small {n:Int} (h:-9223372036854775808<=n) (h':n<9223372036854775808):bF .i64 n=n:=by
 cases n with
 |ofNat m=>
  show cond (Nat.ble (Nat.succ m) 9223372036854775808) (Int.ofNat m) _=_
  rw[Nat.ble_eq_true_of_le (by have:(m:Int)<9223372036854775808:=h';omega)];rfl
 |negSucc m=>
  show cond (Nat.ble (Nat.succ m) 9223372036854775808) (Int.negSucc m) _=_
  rw[Nat.ble_eq_true_of_le (by have:-9223372036854775808<=Int.negSucc m:=h;omega)];rfl
theorem Dl {a b:Int} (h:-9223372036854775808<=a+b) (h':a+b<9223372036854775808):cT .num .add (.int .i64 (.lit a)) (.int .i64 (.lit b))=some (.int .i64 (.lit (a+b))):=by
 refine (pZ rfl).trans ?_
 show bL .i64 (bF .i64 (mA a b))=_
 have e:mA a b=a+b:=by cases a<;>cases b<;>rfl
 rw[e,wrap_small h h']
 exact ct _ _
end
end Nm
namespace Nm
open Go Go.RowKit
section
variable {P:Program} {S:bP} {r:Option D4}
theorem gF.callp {x:NOper} {l:List NOper} {t:Tm} {dfs:List Dfr} {ctx:Option NV} {m m':NH} {f:Nat} {args:List NV} {v:NV} {c:Option NV} (hg:ao t x.guard=some true) (hop:af x.op t m= .call f args)
 (hc:Call P S f args m (.pan v c m')):gF P S r (x::l) ⟨t,dfs,ctx,m⟩ (.pan v) ⟨t,dfs,ctx,m'⟩:=by
 obtain ⟨hne,k,hk⟩:=hc
 refine ⟨k, ?_⟩
 rw[bG,hg,hop]
 show pA x.dst (cj P S (ev P S k) r l) t dfs ctx (ph dfs ctx (bA P S (ev P S k) f args m))=_
 rw[hk];rfl
theorem dd.regDp {l:List NOper} {d d1:Dyn} {v:NV} (h:bm P S r l [] [] d (.pan v) d1):dd P S r (.regD l) d (.pan v) ⟨im l d1.t,d1.dfs,d1.ctx,d1.h⟩:=by
 obtain ⟨n,hn⟩:=h
 refine ⟨n+1, ?_⟩
 show (match bx P S (ev P S n) r l [] [] d with| .mk (.pan v) d=>Res.mk (.pan v) ⟨im l d.t,d.dfs,d.ctx,d.h⟩|r=>r)=_
 rw[hn]
theorem bm.callp {x:NOper} {l:List NOper} {rs:List (Nat×(NH->NR)×NV)} {t:Tm} {dfs:List Dfr} {ctx:Option NV} {m m':NH} {f:Nat} {args:List NV} {v:NV} {c:Option NV} (hg:ao t x.guard=some true) (hc:ak x.op= .eff) (hop:af x.op t m= .call f args)
 (hb:bk x.idx l=true) (hcall:Call P S f args m (.pan v c m')):bm P S r (x::l) [] rs ⟨t,dfs,ctx,m⟩ (.pan v) ⟨t,dfs,ctx,m'⟩:=by
 obtain ⟨hne,k,hk⟩:=hcall
 refine ⟨k, ?_⟩
 rw[bB,hg];dsimp only;rw[hc];dsimp only;rw[hop]
 rw[show ahead x.pre []=true from rfl]
 show cy (bk x.idx l) (pA x.dst (fun d=>cond (aU x.pre d.h rs) (bx P S (ev P S k) r l ((x.idx,m):: []) rs d) .fail) t dfs ctx (ph dfs ctx (bA P S (ev P S k) f args m)))=_
 rw[hk,hb];rfl
theorem gF.pan {x:NOper} {l:List NOper} {t:Tm} {dfs:List Dfr} {ctx:Option NV} {m:NH} {v:NV} (hg:ao t x.guard=some true) (hop:af x.op t m= .pan v):gF P S r (x::l) ⟨t,dfs,ctx,m⟩ (.pan v) ⟨t,dfs,ctx,m⟩:=by
 refine ⟨0, ?_⟩
 rw[bG,hg,hop];rfl
end
structure PE where
 p:Program
 E:NV->NH->Prop
instance:Coe Program PE:=⟨fun P=>⟨P,fun _ _=>False⟩⟩
def WF (P:PE) (S:bP) (f:Nat) (args:List NV) (m:NH) (K:NV->NH->Prop):Prop:=(∃v c m',Call P.p S f args m (.val v c m')/\K v m')∨∃v c m',Call P.p S f args m (.pan v c m')/\P.E v m'
def qE (P:PE) (Q:Out->Dyn->Prop) (o:Out) (d:Dyn):Prop:=match o with| .pan v=>d.dfs= []/\P.E v d.h|o=>Q o d
def qN (P:PE) (K:Dyn->Prop) (o:Out) (d:Dyn):Prop:=match o with| .norm=>K d| .pan v=>d.dfs= []/\P.E v d.h|_=>False
def lc (K:Dyn->Prop) (Q:Out->Dyn->Prop) (o:Out) (d:Dyn):Prop:=match o with| .norm=>K d|o=>Q o d
def k8 (i:Nat) (Q:Out->Dyn->Prop) (o:Out) (d:Dyn):Prop:=match o with| .exit j=>Q (if j=i then .norm else .exit j) d|o=>Q o d
def wB (o:Option NV) (A B:Prop):Prop:=match o with|some (.bool q)=>(q=true->A)/\(q=false->B)|_=>False
section
variable (P:PE) (S:bP) (r:Option D4)
def W (c:NC) (d:Dyn) (Q:Out->Dyn->Prop):Prop:=∃o d',dd P.p S r c d o d'/\qE P Q o d'
def wN (dst:Option D4) (t:Tm) (dfs:List Dfr) (ctx:Option NV) (m:NH) (x:NR) (K:Dyn->Prop):Prop:=match x with
 | .val v=>K ⟨aC dst v t,dfs,ctx,m⟩
 | .mem v m'=>K ⟨aC dst v t,dfs,ctx,m'⟩
 | .call f args=>(match dfs with| []=>WF P S f args m fun v m'=>K ⟨aC dst v t, [],ctx,m'⟩|x::l=>WF P.p S f args m fun v m'=>K ⟨aC dst v t,x::l,ctx,m'⟩)
 | .yld q args=>∃v c m',An P.p S q args m (.val v c m')/\K ⟨aC dst v t,dfs,ctx,m'⟩
 | .pan v=>(match dfs with| []=>P.E v m|_=>False)
 |_=>False
def Fl (dst:Option D4) (t:Tm) (dfs:List Dfr) (ctx:Option NV) (m:NH) (x:NR) (K:Dyn->Prop):Prop:=match x with
 | .val v=>K ⟨aC dst v t,dfs,ctx,m⟩
 | .mem v m'=>K ⟨aC dst v t,dfs,ctx,m'⟩
 | .call f args=>WF P.p S f args m fun v m'=>K ⟨aC dst v t,dfs,ctx,m'⟩
 | .yld q args=>∃v c m',An P.p S q args m (.val v c m')/\K ⟨aC dst v t,dfs,ctx,m'⟩
 |_=>False
noncomputable def lO (hs:List (Nat×NH)) (i:Nat) (l:List NOper):Bool:=match hs with| []=>bk i l|_=>false
def FS (b:Bool) (dst:Option D4) (t:Tm) (dfs:List Dfr) (ctx:Option NV) (m:NH) (x:NR) (K:Dyn->Prop):Prop:=match b,x with
 |true,.call f args=>wN P S dst t dfs ctx m (.call f args) K
 |_,x=>Fl P S dst t dfs ctx m x K
def wO:List NOper->Dyn->(Dyn->Prop)->Prop
 | [],d,K=>K d
 |x::l,d,K=>match ao d.t x.guard with
  |some true=>wN P S x.dst d.t d.dfs d.ctx d.h (af x.op d.t d.h) fun d=>wO l d K
  |some false=>wO l ⟨aC x.dst aL d.t,d.dfs,d.ctx,d.h⟩ K
  |none=>False
def wD:List NOper->List (Nat×NH)->List (Nat×(NH->NR)×NV)->Dyn->(Dyn->Prop)->Prop
 | [],_,_,d,K=>K d
 |x::l,hs,rs,d,K=>match ao d.t x.guard with
  |some true=>(match ak x.op with
   | .pure=>(match af x.op d.t d.h with| .val v=>wD l hs rs ⟨aC x.dst v d.t,d.dfs,d.ctx,d.h⟩ K|_=>False)
   | .alloc=>ahead x.pre hs=true/\(match af x.op d.t d.h with| .mem v m'=>wD l hs rs ⟨aC x.dst v d.t,d.dfs,d.ctx,m'⟩ K|_=>False)
   | .read=>(match af x.op d.t d.h with| .val v=>cC x.pre (af x.op d.t) v hs=true/\wD l hs ((x.idx,af x.op d.t,v)::rs) ⟨aC x.dst v d.t,d.dfs,d.ctx,d.h⟩ K|_=>False)
   | .eff=>ahead x.pre hs=true/\FS P S (lO hs x.idx l) x.dst d.t d.dfs d.ctx d.h (af x.op d.t d.h) fun d'=>aU x.pre d'.h rs=true/\wD l ((x.idx,d.h)::hs) rs d' K)
  |some false=>wD l hs rs ⟨aC x.dst aL d.t,d.dfs,d.ctx,d.h⟩ K
  |none=>False
def wp:NC->Dyn->(Out->Dyn->Prop)->Prop
 | .skip,d,Q=>Q .norm d
 | .ret,d,Q=>Q .ret d
 | .exit i,d,Q=>Q (.exit i) d
 | .seq a b,d,Q=>wp a d (lc (fun d=>wp b d Q) Q)
 | .cond g a b,d,Q=>wB (ρ d.t g) (wp a d Q) (wp b d Q)
 | .block i a,d,Q=>wp a d (k8 i Q)
 | .reg l,d,Q=>wO P S l d (Q .norm)
 | .regD l,d,Q=>wD P S l [] [] d (Q .norm)
 | .loop a,d,Q=>W P S r (.loop a) d Q
 | .rangeFunc f ps a b,d,Q=>W P S r (.rangeFunc f ps a b) d Q
end
section
variable {P:PE} {S:bP} {r:Option D4}
theorem WF.ret' {P:Program} {f:Nat} {args:List NV} {m:NH} {K:NV->NH->Prop} (h:WF P S f args m K):∃v c m',Call P S f args m (.val v c m')/\K v m':=by
 rcases h with h|⟨_,_,_,_,h⟩
 ·exact h
 ·exact h.elim
theorem vE:∀(l:List NOper) (d:Dyn) (K:Dyn->Prop),wO P S l d K->∃o d',gF P.p S r l d o d'/\qN P K o d':=by
 intro l
 induction l with
 |nil=>exact fun d K h=>⟨_,d,gF.nil d,h⟩
 |cons x l ih=>
  rintro ⟨t,dfs,ctx,m⟩ K h
  unfold wO at h
  dsimp only at h
  split at h
  ·rename_i hg
   cases hop:af x.op t m with
   |val v=>rw[hop] at h;obtain ⟨o,d',h1,h2⟩:=ih _ _ h;exact ⟨o,d',gF.val hg hop h1,h2⟩
   |mem v m'=>rw[hop] at h;obtain ⟨o,d',h1,h2⟩:=ih _ _ h;exact ⟨o,d',gF.mem hg hop h1,h2⟩
   |call f args=>
    rw[hop] at h
    cases dfs with
    |nil=>
     rcases h with ⟨v,c,m',hc,h⟩|⟨v,c,m',hc,h⟩
     ·obtain ⟨o,d',h1,h2⟩:=ih _ _ h
      exact ⟨o,d',gF.call hg hop hc h1,h2⟩
     ·exact ⟨_,_,gF.callp hg hop hc,rfl,h⟩
    |cons y dfs=>
     obtain ⟨v,c,m',hc,h⟩:=WF.ret' h
     obtain ⟨o,d',h1,h2⟩:=ih _ _ h
     exact ⟨o,d',gF.call hg hop hc h1,h2⟩
   |yld q args=>
    rw[hop] at h
    obtain ⟨v,c,m',hc,h⟩:=h
    obtain ⟨o,d',h1,h2⟩:=ih _ _ h
    exact ⟨o,d',gF.yld hg hop hc h1,h2⟩
   |pan v=>
    rw[hop] at h
    cases dfs with
    |nil=>exact ⟨_,_,gF.pan hg hop,rfl,h⟩
    |cons=>exact h.elim
   |_=>rw[hop] at h;exact h.elim
  ·rename_i hg
   obtain ⟨o,d',h1,h2⟩:=ih _ _ h;exact ⟨o,d',gF.off hg h1,h2⟩
  ·exact h.elim
theorem u0:∀(l:List NOper) (hs:List (Nat×NH)) (rs:List (Nat×(NH->NR)×NV)) (d:Dyn) (K:Dyn->Prop),wD P S l hs rs d K->∃o d',bm P.p S r l hs rs d o d'/\qN P K o d'/\(o= .norm∨hs= []):=by
 intro l
 induction l with
 |nil=>exact fun hs rs d K h=>⟨_,d,bm.nil d,h,Or.inl rfl⟩
 |cons x l ih=>
  rintro hs rs ⟨t,dfs,ctx,m⟩ K h
  unfold wD at h
  dsimp only at h
  split at h
  ·rename_i hg
   split at h
   ·rename_i hcl
    cases hop:af x.op t m with
    |val v=>rw[hop] at h;obtain ⟨o,d',h1,h2,h3⟩:=ih _ _ _ _ h;exact ⟨o,d',bm.pure hg hcl hop h1,h2,h3⟩
    |_=>rw[hop] at h;exact h.elim
   ·rename_i hcl
    obtain ⟨ha,h⟩:=h
    cases hop:af x.op t m with
    |mem v m'=>rw[hop] at h;obtain ⟨o,d',h1,h2,h3⟩:=ih _ _ _ _ h;exact ⟨o,d',bm.alloc hg hcl ha hop h1,h2,h3⟩
    |_=>rw[hop] at h;exact h.elim
   ·rename_i hcl
    cases hop:af x.op t m with
    |val v=>rw[hop] at h;obtain ⟨ha,h⟩:=h;obtain ⟨o,d',h1,h2,h3⟩:=ih _ _ _ _ h;exact ⟨o,d',bm.read hg hcl hop ha h1,h2,h3⟩
    |_=>rw[hop] at h;exact h.elim
   ·rename_i hcl
    obtain ⟨ha,h⟩:=h
    have fin:∀{a:Nat×NH} {o:Out},o= .norm∨a::hs= []->o= .norm:=fun h=>h.elim id fun h=>by cases h
    cases hop:af x.op t m with
    |val v=>
     rw[hop] at h
     have h:Fl P S x.dst t dfs ctx m (.val v) (fun d'=>aU x.pre d'.h rs=true/\wD P S l ((x.idx,m)::hs) rs d' K):=by cases he:lO hs x.idx l<;>rw[he] at h<;>exact h
     obtain ⟨hst,h⟩:=h
     obtain ⟨o,d',h1,h2,h3⟩:=ih _ _ _ _ h
     obtain rfl:=fin h3
     exact ⟨_,d',bm.effv hg hcl ha hop hst h1,h2,Or.inl rfl⟩
    |mem v m'=>
     rw[hop] at h
     have h:Fl P S x.dst t dfs ctx m (.mem v m') (fun d'=>aU x.pre d'.h rs=true/\wD P S l ((x.idx,m)::hs) rs d' K):=by cases he:lO hs x.idx l<;>rw[he] at h<;>exact h
     obtain ⟨hst,h⟩:=h
     obtain ⟨o,d',h1,h2,h3⟩:=ih _ _ _ _ h
     obtain rfl:=fin h3
     exact ⟨_,d',bm.eff hg hcl ha hop hst h1,h2,Or.inl rfl⟩
    |call f args=>
     rw[hop] at h
     have key:WF P.p S f args m (fun v m'=>aU x.pre m' rs=true/\wD P S l ((x.idx,m)::hs) rs ⟨aC x.dst v t,dfs,ctx,m'⟩ K)∨(hs= []/\dfs= []/\bk x.idx l=true/\WF P S f args m (fun v m'=>aU x.pre m' rs=true/\wD P S l ((x.idx,m)::hs) rs ⟨aC x.dst v t,dfs,ctx,m'⟩ K)):=by
      cases he:lO hs x.idx l with
      |false=>rw[he] at h;exact Or.inl h
      |true=>
       rw[he] at h
       cases hs with
       |cons a hs=>cases he
       |nil=>
        cases dfs with
        |nil=>exact Or.inr ⟨rfl,rfl,he,h⟩
        |cons y dfs=>exact Or.inl h
     have go:∀{v:NV} {c:Option NV} {m':NH},Call P.p S f args m (.val v c m')->aU x.pre m' rs=true/\wD P S l ((x.idx,m)::hs) rs ⟨aC x.dst v t,dfs,ctx,m'⟩ K->∃o d',bm P.p S r (x::l) hs rs ⟨t,dfs,ctx,m⟩ o d'/\qN P K o d'/\(o= .norm∨hs= []):=by
      rintro v c m' hc ⟨hst,h⟩
      obtain ⟨o,d',h1,h2,h3⟩:=ih _ _ _ _ h
      obtain rfl:=fin h3
      exact ⟨_,d',bm.call hg hcl ha hop hc hst h1,h2,Or.inl rfl⟩
     rcases key with h|⟨rfl,rfl,hb,⟨v,c,m',hc,h⟩|⟨v,c,m',hc,h⟩⟩
     ·obtain ⟨v,c,m',hc,h⟩:=WF.ret' h
      exact go hc h
     ·exact go hc h
     ·exact ⟨_,_,bm.callp hg hcl hop hb hc,⟨rfl,h⟩,Or.inr rfl⟩
    |yld q args=>
     rw[hop] at h
     have h:Fl P S x.dst t dfs ctx m (.yld q args) (fun d'=>aU x.pre d'.h rs=true/\wD P S l ((x.idx,m)::hs) rs d' K):=by cases he:lO hs x.idx l<;>rw[he] at h<;>exact h
     obtain ⟨v,c,m',hc,hst,h⟩:=h
     obtain ⟨o,d',h1,h2,h3⟩:=ih _ _ _ _ h
     obtain rfl:=fin h3
     exact ⟨_,d',bm.yld hg hcl ha hop hc hst h1,h2,Or.inl rfl⟩
    |_=>rw[hop] at h;cases he:lO hs x.idx l<;>rw[he] at h<;>exact h.elim
  ·rename_i hg
   obtain ⟨o,d',h1,h2,h3⟩:=ih _ _ _ _ h;exact ⟨o,d',bm.off hg h1,h2,h3⟩
  ·exact h.elim
theorem eA:∀(c:NC) (d:Dyn) (Q:Out->Dyn->Prop),wp P S r c d Q->W P S r c d Q:=by
 intro c
 induction c with
 |skip=>exact fun d Q h=>⟨_,_,dd.skip d,h⟩
 |ret=>exact fun d Q h=>⟨_,_,dd.ret d,h⟩
 |exit i=>exact fun d Q h=>⟨_,_,dd.exit i d,h⟩
 |seq a b iha ihb=>
  intro d Q h
  obtain ⟨o,d1,h1,h2⟩:=iha _ _ h
  cases o with
  |norm=>obtain ⟨o,d2,h3,h4⟩:=ihb _ _ h2;exact ⟨o,d2,dd.seq h1 h3,h4⟩
  |_=>exact ⟨_,_,dd.seq_out h1 (by simp),h2⟩
 |cond g a b iha ihb=>
  intro d Q h
  unfold wp wB at h
  split at h
  ·rename_i q hq
   cases q with
   |true=>obtain ⟨o,d1,h1,h2⟩:=iha _ _ (h.1 rfl);exact ⟨o,d1,dd.cond hq (by simpa using h1),h2⟩
   |false=>obtain ⟨o,d1,h1,h2⟩:=ihb _ _ (h.2 rfl);exact ⟨o,d1,dd.cond hq (by simpa using h1),h2⟩
  ·exact h.elim
 |block i a iha=>
  intro d Q h
  obtain ⟨o,d1,h1,h2⟩:=iha _ _ h
  refine ⟨_,d1,dd.block h1, ?_⟩
  cases o with
  |exit j=>
   dsimp only
   change Q (if j=i then .norm else .exit j) d1 at h2
   by_cases e:j=i
   ·subst e;rw[Hn rfl] at h2;rw[Nat.beq_refl];exact h2
   ·rw[Hm e] at h2
    rw[show Nat.beq j i=false from by cases hb:Nat.beq j i with|false=>rfl|true=>exact Hl (Hs hb) e];exact h2
  |_=>exact h2
 |reg l=>
  intro d Q h
  obtain ⟨o,d',h1,h2⟩:=vE (r:=r) _ _ _ h
  cases o with
  |norm=>exact ⟨_,_,dd.reg h1,h2⟩
  |pan v=>exact ⟨_,_,dd.reg h1,h2⟩
  |_=>exact h2.elim
 |regD l=>
  intro d Q h
  obtain ⟨o,d',h1,h2,h3⟩:=u0 (r:=r) _ _ _ _ _ h
  cases o with
  |norm=>exact ⟨_,_,dd.regD h1,h2⟩
  |pan v=>exact ⟨_,_,dd.regDp h1,h2⟩
  |_=>exact h2.elim
 |loop a _=>exact fun d Q h=>h
 |rangeFunc f ps a b _ _=>exact fun d Q h=>h
theorem W.loop {c:NC} {Q:Out->Dyn->Prop} (I:Nat->Dyn->Prop) (h:∀k d,I k d->W P S r c d (fun o d'=>match o with| .norm=>∃j,j<k/\I j d'|o=>Q o d')):∀k d,I k d->W P S r (.loop c) d Q:=by
 intro k
 induction k using Nat.strongRecOn with
 |ind k ih=>
  intro d hd
  obtain ⟨o,d',h1,h2⟩:=h k d hd
  cases o with
  |norm=>
   obtain ⟨j,hj,hI⟩:=h2
   obtain ⟨o,d2,h3,h4⟩:=ih j hj d' hI
   exact ⟨o,d2,dd.loop h1 h3,h4⟩
  |_=>exact ⟨_,_,dd.loop_out h1 (by simp),h2⟩
theorem W.mono {c:NC} {d:Dyn} {Q Q':Out->Dyn->Prop} (h:W P S r c d Q) (hq:∀o d,Q o d->Q' o d):W P S r c d Q':=by
 obtain ⟨o,d',h1,h2⟩:=h
 refine ⟨o,d',h1, ?_⟩
 cases o with
 |pan v=>exact h2
 |_=>exact hq _ _ h2
end
end Nm
namespace Nm
open Go Go.RowKit
section
variable {P:PE} {S:bP} {r:Option D4} {dst:Option D4} {op:NOp} {pre idx:Nat} {l:List NOper} {hs:List (Nat×NH)} {rs:List (Nat×(NH->NR)×NV)}
 {L:List (D4×NV)} {t:Tm} {dfs:List Dfr} {ctx:Option NV} {m m':NH} {v:NV} {k k':D4} {d:Dyn} {Q:Out->Dyn->Prop} {K:Dyn->Prop} {A B:Prop}
theorem AX:wp P S r .skip d Q=Q .norm d:=_root_.id rfl
theorem Ea:wp P S r .ret d Q=Q .ret d:=_root_.id rfl
theorem Bo {i:Nat}:wp P S r (.exit i) d Q=Q (.exit i) d:=_root_.id rfl
theorem yg {i:Nat} {a:NC}:wp P S r (.block i a) d Q=wp P S r a d (k8 i Q):=_root_.id rfl
theorem EC:wp P S r (.reg l) d Q=wO P S l d (Q .norm):=_root_.id rfl
theorem AY:wp P S r (.regD l) d Q=wD P S l [] [] d (Q .norm):=_root_.id rfl
theorem B1 {a:NC}:wp P S r (.loop a) d Q=W P S r (.loop a) d Q:=_root_.id rfl
theorem AV:lc K Q .norm d=K d:=_root_.id rfl
theorem Aw:lc K Q .ret d=Q .ret d:=_root_.id rfl
theorem zF {i:Nat}:lc K Q (.exit i) d=Q (.exit i) d:=_root_.id rfl
theorem zn {i:Nat}:k8 i Q .norm d=Q .norm d:=_root_.id rfl
theorem CO {i:Nat}:k8 i Q .ret d=Q .ret d:=_root_.id rfl
theorem xE {i j:Nat}:k8 i Q (.exit j) d=Q (if j=i then .norm else .exit j) d:=_root_.id rfl
theorem EI:wO P S [] d K=K d:=_root_.id rfl
def wX (c:Cls) (x:NR) (P:PE) (S:bP) (f:NH->NR) (dst:Option D4) (pre idx:Nat) (l:List NOper) (hs:List (Nat×NH)) (rs:List (Nat×(NH->NR)×NV)) (d:Dyn) (K:Dyn->Prop):Prop:=
 match c with
 | .pure=>(match x with| .val v=>wD P S l hs rs ⟨aC dst v d.t,d.dfs,d.ctx,d.h⟩ K|_=>False)
 | .alloc=>ahead pre hs=true/\(match x with| .mem v m'=>wD P S l hs rs ⟨aC dst v d.t,d.dfs,d.ctx,m'⟩ K|_=>False)
 | .read=>(match x with| .val v=>cC pre f v hs=true/\wD P S l hs ((idx,f,v)::rs) ⟨aC dst v d.t,d.dfs,d.ctx,d.h⟩ K|_=>False)
 | .eff=>ahead pre hs=true/\FS P S (lO hs idx l) dst d.t d.dfs d.ctx d.h x fun d'=>aU pre d'.h rs=true/\wD P S l ((idx,d.h)::hs) rs d' K
theorem Cv:wD P S [] hs rs d K=K d:=_root_.id rfl
theorem zR:wD P S (⟨dst,op,none,pre,idx⟩::l) hs rs ⟨aG L t,dfs,ctx,m⟩ K=wX (ak op) (af op (aG L t) m) P S (af op (aG L t)) dst pre idx l hs rs ⟨aG L t,dfs,ctx,m⟩ K:=by
 cases h:ak op<;>simp only[wD,ao,h,wX]<;>cases af op (aG L t) m<;>rfl
section
variable {f:NH->NR}
theorem zJ:wX .pure (.val v) P S f (some k) pre idx l hs rs ⟨aG L t,dfs,ctx,m⟩ K=wD P S l hs rs ⟨aG ((k,v)::L) t,dfs,ctx,m⟩ K:=_root_.id rfl
theorem wa:wX .alloc (.mem v m') P S f (some k) pre idx l hs rs ⟨aG L t,dfs,ctx,m⟩ K=(ahead pre hs=true/\wD P S l hs rs ⟨aG ((k,v)::L) t,dfs,ctx,m'⟩ K):=_root_.id rfl
theorem zN:wX .read (.val v) P S f (some k) pre idx l hs rs ⟨aG L t,dfs,ctx,m⟩ K=(cC pre f v hs=true/\wD P S l hs ((idx,f,v)::rs) ⟨aG ((k,v)::L) t,dfs,ctx,m⟩ K):=_root_.id rfl
theorem wn:cC pre f v []=true:=_root_.id rfl
theorem v7:ahead pre []=true:=_root_.id rfl
theorem uB:aU pre m []=true:=_root_.id rfl
end
theorem Fj:NT.get k (aG L t)=eu k L (NT.get k t):=fL k L t
theorem DL:ρ (aG L t) (.tmp k)=eu k L (NT.get k t):=fL k L t
theorem x9:ρ t (.const v)=some v:=_root_.id rfl
theorem xN {o:Option NV}:eu k [] o=o:=_root_.id rfl
theorem CP {o:Option NV}:eu k ((k',v)::L) o=cond (aZ k k') (some v) (eu k L o):=_root_.id rfl
theorem Gm:aZ .e .e=true:=_root_.id rfl
theorem Fz:aZ .e (.a k)=false:=_root_.id rfl
theorem Gj:aZ .e (.b k)=false:=_root_.id rfl
theorem Gt:aZ .e (.c k)=false:=_root_.id rfl
theorem Gi:aZ .e (.f k)=false:=_root_.id rfl
theorem GE:aZ (.a k) .e=false:=_root_.id rfl
theorem GJ:aZ (.a k) (.a k')=aZ k k':=_root_.id rfl
theorem Gd:aZ (.a k) (.b k')=false:=_root_.id rfl
theorem Gb:aZ (.a k) (.c k')=false:=_root_.id rfl
theorem GP:aZ (.a k) (.f k')=false:=_root_.id rfl
theorem FC:aZ (.b k) .e=false:=_root_.id rfl
theorem FN:aZ (.b k) (.a k')=false:=_root_.id rfl
theorem Gu:aZ (.b k) (.b k')=aZ k k':=_root_.id rfl
theorem FE:aZ (.b k) (.c k')=false:=_root_.id rfl
theorem Fw:aZ (.b k) (.f k')=false:=_root_.id rfl
theorem Gy:aZ (.c k) .e=false:=_root_.id rfl
theorem GK:aZ (.c k) (.a k')=false:=_root_.id rfl
theorem F2:aZ (.c k) (.b k')=false:=_root_.id rfl
theorem FQ:aZ (.c k) (.c k')=aZ k k':=_root_.id rfl
theorem GL:aZ (.c k) (.f k')=false:=_root_.id rfl
theorem Gz:aZ (.f k) .e=false:=_root_.id rfl
theorem Gq:aZ (.f k) (.a k')=false:=_root_.id rfl
theorem GO:aZ (.f k) (.b k')=false:=_root_.id rfl
theorem Ge:aZ (.f k) (.c k')=false:=_root_.id rfl
theorem FP:aZ (.f k) (.f k')=aZ k k':=_root_.id rfl
end
def oN (o:Option NV) (K:NV->NR):NR:=match o with|some v=>K v|none=> .fail
theorem F4 {v:NV} {K:NV->NR}:oN (some v) K=K v:=_root_.id rfl
theorem bT {t:Tm} {x:NOpd} {K:NV->NR}:wV t x K=oN (ρ t x) K:=by
 unfold wV oN;cases ρ t x<;>rfl
theorem GF {v:NV}:vr (some v)= .val v:=_root_.id rfl
def AI (v:NV):NR:=match v with| .slc _ _ n _ _=> .val (.int .i64 (.lit (.ofNat n)))| .nils=> .val (.int .i64 (.lit (.ofNat 0)))|_=> .fail
def tM (n:Nat) (s i:NV):NR:=match s,i with| .slc id off len _ _,.int _ (.lit (.ofNat i))=>if i<len then .val (.ptr id (off+i*n)) else .fail|_,_=> .fail
noncomputable def xP (m:NH) (p:NV):NR:=match p with| .ptr id off=>(match m.get id with|some (.cells _ c)=>oN c[off]? .val|_=> .fail)|_=> .fail
noncomputable def xQ (n:Nat) (m:NH) (p:NV):NR:=match p with| .ptr id off=>(match m.get id with|some (.cells _ c)=>if off+n<=c.length then .val (.agg ((c.drop off).take n)) else .fail|_=> .fail)|_=> .fail
def CX (k:Nat) (p:NV):NR:=match p with| .ptr id off=> .val (.ptr id (off+k))|_=> .fail
section
variable {t:Tm} {m:NH}
theorem AR {x:NOpd}:af (.move x) t m=oN (ρ t x) .val:=bT
theorem EG {c:BC} {op:BinOp} {x y:NOpd}:af (.bin c op x y) t m=oN (ρ t x) fun a=>oN (ρ t y) fun b=>vr (cT c op a b):=by
 show wV t x (fun a=>wV t y fun b=>vr (cT c op a b))=_
 simp only[bT]
theorem FW {u:UnOp} {x:NOpd}:af (.un u x) t m=oN (ρ t x) fun v=>vr (Fe u v):=bT
theorem E9 {x:NOpd}:af (.lenSlc x) t m=oN (ρ t x) AI:=by
 show wV t x _=_
 rw[bT];cases ρ t x with
 |none=>rfl
 |some v=>cases v<;>rfl
theorem Dn {n:Nat} {x i:NOpd}:af (.indexSlc n x i) t m=oN (ρ t x) fun s=>oN (ρ t i) fun i=>tM n s i:=by
 show wV t x (fun v=>cV t i fun i=>match v with
  | .slc id off len _ _=>cond (Nat.ble (Nat.succ i) len) (ai (Nat.add off (Nat.mul i n)) fun o=> .val (.ptr id o)) .fail
  |_=> .fail)=_
 unfold cV
 simp only[bT]
 cases ρ t x with
 |none=>rfl
 |some s=>
  show oN (ρ t i) _=oN (ρ t i) _
  cases ρ t i with
  |none=>rfl
  |some j=>
   show aT (gG j) _=tM n s j
   cases j with
   |int k z=>
    cases z with
    |lit z=>
     cases z with
     |ofNat q=>
      cases s with
      |slc id off len e kc=>
       show cond (Nat.ble (Nat.succ q) len) (ai (Nat.add off (Nat.mul q n)) fun o=>NR.val (.ptr id o)) .fail=if q<len then _ else _
       rw[ae]
       by_cases hq:q<len
       ·rw[Hn hq,Nat.ble_eq_true_of_le hq];rfl
       ·rw[Hm hq,show Nat.ble (Nat.succ q) len=false from by cases hb:Nat.ble (Nat.succ q) len with|false=>rfl|true=>exact Hl (Nat.le_of_ble_eq_true hb) hq];rfl
      |_=>rfl
     |negSucc q=>cases s<;>rfl
    |_=>cases s<;>rfl
   |_=>cases s<;>rfl
theorem EU {x:NOpd}:af (.load1 x) t m=oN (ρ t x) (xP m):=by
 show wV t x (fun a=>match a with| .ptr id off=>ce m id fun c=>aT (hH c off) .val|_=> .fail)=_
 rw[bT]
 cases ρ t x with
 |none=>rfl
 |some v=>
  cases v with
  |ptr id off=>
   show ce m id (fun c=>aT (hH c off) .val)=xP m (.ptr id off)
   unfold ce xP
   dsimp only
   split<;>rename_i hm
   ·rw[hm];dsimp only;rw[dC];cases (_:List NV)[off]? <;>rfl
   ·split<;>rename_i h2
    ·exact Hl h2 (hm _ _)
    ·rfl
  |_=>rfl
theorem Eb {k:Nat} {x:NOpd}:af (.fieldAddr k x) t m=oN (ρ t x) (CX k):=by
 show wV t x (fun v=>match v with| .ptr id o=>ai (Nat.add o k) fun o=> .val (.ptr id o)|_=> .fail)=_
 rw[bT]
 cases ρ t x with
 |none=>rfl
 |some v=>cases v<;>first|rfl|exact ae (R:=NR) _ (fun o=> .val (.ptr _ o))
theorem Eu {k off:Nat} {id:D4}:CX k (.ptr id off)= .val (.ptr id (off+k)):=_root_.id rfl
end
theorem D9 {b:Bool}:Fe .not (.bool b)=some (.bool (!b)):=by cases b<;>rfl
end Nm
namespace Nm
open Go Go.RowKit
def rK (o:Option NV) (K:NV->Prop):Prop:=match o with|some v=>K v|none=>False
def FU (rs:List NRes) (K:NV->NH->Prop) (o:Out) (d:Dyn):Prop:=(o= .norm∨o= .ret)/\d.dfs= []/\∃v,cI d.h d.t rs .fail (fun l=> .val (jO l) d.ctx d.h)= .val v d.ctx d.h/\K v d.h
section
variable {P:Program} {S:bP} {L:List (D4×NV)} {t:Tm} {ctx:Option NV} {m:NH} {K:NV->NH->Prop} {k k1 k2 k3:D4}
theorem GA {v:NV} {K:NV->Prop}:rK (some v) K=K v:=_root_.id rfl
theorem Call.of_pan {P:Program} {f:Nat} {nf:NFun} (hs:∀l,S f l=fun _=>none) (hf:am P f=some (.code nf)) {args:List NV} {m:NH} {v:NV} {d:Dyn} (h:dd P S none nf.body ⟨dv args 0 .leaf, [],none,m⟩ (.pan v) d) (hd:d.dfs= []):Call P S f args m (.pan v d.ctx d.h):=by
 obtain ⟨n,hn⟩:=h
 refine ⟨by simp,n, ?_⟩
 unfold bA
 rw[hs]
 dsimp only
 rw[hf]
 dsimp only
 rw[d6,hf]
 dsimp only
 rw[hn]
 dsimp only
 rw[hd];rfl
end
end Nm
namespace Nm
open Go Go.RowKit
def na (m:NH) (j:Nat):D4:=D4.of (m.next.toNat+j)
def bU (m:NH) (id:D4):Prop:=id.toNat<m.next.toNat
instance (m:NH) (id:D4):Decidable (bU m id):=inferInstanceAs (Decidable (_<_))
inductive AK where
 |n (j:Nat)
 |o (id:D4)
noncomputable def oT (m:NH):List (AK×NO)->NT NO
 | []=>m.m
 |(.n j,x)::l=>NT.put (na m j) x (oT m l)
 |(.o id,x)::l=>if bU m id then NT.put id x (oT m l) else oT m l
noncomputable def hp (l:List (AK×NO)) (k:Nat) (m:NH):NH:=⟨oT m l,na m k⟩
def jv (j:Nat):List (AK×NO)->Option NO->Option NO
 | [],d=>d
 |(.n i,x)::l,d=>if j=i then some x else jv j l d
 |(.o _,_)::l,d=>jv j l d
noncomputable def fq (id:D4):List (AK×NO)->Option NO->Option NO
 | [],d=>d
 |(.n _,_)::l,d=>fq id l d
 |(.o i,x)::l,d=>@ite _ (id=i) (Classical.propDecidable _) (some x) (fq id l d)
theorem Bk {m:NH} {i j:Nat} (h:na m i=na m j):i=j:=by
 have:=D4.of_inj h;omega
theorem AM (m:NH) (k:Nat):(na m k).nxt=na m (k+1):=by
 apply D4.toNat_inj
 rw[D4.toNat_nxt];unfold na;rw[D4.toNat_of,D4.toNat_of];omega
theorem yu (m:NH):na m 0=m.next:=D4.of_toNat _
theorem aO (m:NH):hp [] 0 m=m:=by
 show NH.mk m.m (na m 0)=m
 rw[yu]
theorem bU.ne {m:NH} {id:D4} (h:bU m id) (j:Nat):id≠na m j:=by
 intro e
 unfold bU at h
 rw[e] at h;unfold na at h;rw[D4.toNat_of] at h;omega
section
variable {m:NH} {l:List (AK×NO)} {k j:Nat} {o:NO} {id:D4}
theorem Cq:(hp l k m).next=na m k:=_root_.id rfl
theorem Ey:(hp l k m).add o=hp ((.n k,o)::l) (k+1) m:=by
 show NH.mk (NT.put (na m k) o (oT m l)) (na m k).nxt=NH.mk (NT.put (na m k) o (oT m l)) (na m (k+1))
 rw[AM]
theorem Bx:(hp l k m).put (na m j) o=hp ((.n j,o)::l) k m:=_root_.id rfl
theorem Bu (h:bU m id):(hp l k m).put id o=hp ((.o id,o)::l) k m:=by
 show NH.mk (NT.put id o (oT m l)) (na m k)=NH.mk (if bU m id then NT.put id o (oT m l) else oT m l) (na m k)
 rw[Hn h]
theorem aM:(hp l k m).get (na m j)=jv j l (m.get (na m j)):=by
 show NT.get (na m j) (oT m l)=_
 induction l with
 |nil=>rfl
 |cons p l ih=>
  obtain ⟨a,x⟩:=p
  cases a with
  |n i=>
   show NT.get (na m j) (NT.put (na m i) x (oT m l))=if j=i then some x else jv j l _
   split
   ·rename_i h;rw[h];exact NT.get_put_same _ _ _
   ·rename_i h;rw[NT.get_put_ne (fun e=>h (Bk e))];exact ih
  |o i=>
   show NT.get (na m j) (if bU m i then NT.put i x (oT m l) else oT m l)=jv j l _
   split
   ·rename_i h;rw[NT.get_put_ne (fun e=>h.ne j e.symm)];exact ih
   ·exact ih
theorem qA (h:bU m id):(hp l k m).get id=fq id l (m.get id):=by
 show NT.get id (oT m l)=_
 induction l with
 |nil=>rfl
 |cons p l ih=>
  obtain ⟨a,x⟩:=p
  cases a with
  |n i=>
   show NT.get id (NT.put (na m i) x (oT m l))=fq id l _
   rw[NT.get_put_ne (h.ne _)];exact ih
  |o i=>
   show NT.get id (if bU m i then NT.put i x (oT m l) else oT m l)=@ite _ (id=i) (Classical.propDecidable _) (some x) (fq id l _)
   by_cases e:id=i
   ·rw[Hn e,←e,Hn h];exact NT.get_put_same _ _ _
   ·rw[Hm e]
    split
    ·rw[NT.get_put_ne e];exact ih
    ·exact ih
theorem wK {i:Nat} {d:Option NO}:jv j ((.n i,o)::l) d=if j=i then some o else jv j l d:=_root_.id rfl
theorem vC {d:Option NO}:fq id [] d=d:=_root_.id rfl
theorem ol {i:Nat} {d:Option NO}:fq id ((.n i,o)::l) d=fq id l d:=_root_.id rfl
theorem oS {d:Option NO}:fq id ((.o id,o)::l) d=some o:=Hn rfl
theorem n5 {i:D4} {d:Option NO} (h:id≠i):fq id ((.o i,o)::l) d=fq id l d:=Hm h
end
structure Chg (S:List D4) (m m':NH):Prop where
 next:m.next.toNat<=m'.next.toNat
 get:∀{id},bU m id->id∉S->m'.get id=m.get id
theorem Chg.old {S:List D4} {m m':NH} {id:D4} (h:Chg S m m') (ho:bU m id):bU m' id:=Nat.lt_of_lt_of_le ho h.next
theorem Chg.refl (m:NH):Chg [] m m:=⟨Nat.le_refl _,fun _ _=>rfl⟩
theorem Chg.weak {S T:List D4} {a b:NH} (h:Chg S a b) (hs:∀id,id∈S->bU a id->id∈T):Chg T a b:=
 ⟨h.1,fun {id} ho hi=>h.2 ho fun q=>hi (hs id q ho)⟩
theorem Chg.trans {S T:List D4} {a b c:NH} (h:Chg S a b) (h':Chg T b c) (hs:∀id,id∈T->bU a id->id∈S):Chg S a c:=
 ⟨Nat.le_trans h.1 h'.1,fun {id} ho hi=>(h'.2 (h.old ho) fun q=>hi (hs id q ho)).trans (h.2 ho hi)⟩
def qu:List (AK×NO)->List D4
 | []=> []
 |(.n _,_)::l=>qu l
 |(.o i,_)::l=>i::qu l
theorem pR (l:List (AK×NO)) (k:Nat) (m:NH):Chg (qu l) m (hp l k m):=by
 refine ⟨by show m.next.toNat<=(na m k).toNat;unfold na;rw[D4.toNat_of];omega,fun {id} ho hi=> ?_⟩
 rw[qA ho]
 induction l with
 |nil=>rfl
 |cons p l ih=>
  obtain ⟨a,x⟩:=p
  cases a with
  |n i=>rw[ol];exact ih hi
  |o i=>
   have hi:id∉i::qu l:=hi
   rw[Hr] at hi
   rw[n5 (fun e=>hi (Or.inl e))]
   exact ih fun q=>hi (Or.inr q)
theorem ab {l:List (AK×NO)} {k j:Nat} {m:NH} (h:j<k):bU (hp l k m) (na m j):=by
 show (na m j).toNat<(na m k).toNat
 unfold na;rw[D4.toNat_of,D4.toNat_of];omega
theorem aa {l:List (AK×NO)} {k:Nat} {m:NH} {id:D4} (h:bU m id):bU (hp l k m) id:=(pR l k m).old h
theorem a7 {m:NH} {j:Nat}:¬bU m (na m j):=by
 show ¬(na m j).toNat<m.next.toNat
 unfold na;rw[D4.toNat_of];omega
def bu (P:Program) (S:bP) (f:Nat) (args:List NV) (m:NH) (v:NV) (m':NH):Prop:=∃c,Call P S f args m (.val v c m')
section
variable {P:Program} {S:bP} {f:Nat} {args:List NV} {m:NH}
theorem WF.ret {K:NV->NH->Prop} (h:WF P S f args m K):∃v m',bu P S f args m v m'/\K v m':=by
 obtain ⟨v,c,m',hc,hk⟩:=WF.ret' h;exact ⟨v,m',⟨c,hc⟩,hk⟩
theorem Call.det {x y:CR} (h:Call P S f args m x) (h':Call P S f args m y):x=y:=by
 obtain ⟨hn,n,e⟩:=h
 obtain ⟨hn',k,e'⟩:=h'
 rw[←cL (bN (Nat.le_max_left n k)) e hn,cL (bN (Nat.le_max_right n k)) e' hn']
theorem bu.wf {E:NV->NH->Prop} {v:NV} {m':NH} (h:bu P S f args m v m') {K:NV->NH->Prop}:WF ⟨P,E⟩ S f args m K=K v (hp [] 0 m'):=by
 rw[aO]
 apply propext
 constructor
 ·rintro (⟨u,c,n,hc,hk⟩|⟨u,c,n,hc,hk⟩)
  ·obtain ⟨c',h'⟩:=h
   have:=Call.det hc h'
   injection this with a _ b
   rw[←a,←b];exact hk
  ·obtain ⟨c',h'⟩:=h
   exact Hl (Call.det hc h') (by simp)
 ·intro hk
  obtain ⟨c,h⟩:=h
  exact Or.inl ⟨v,c,m',h,hk⟩
def GW (P:Program) (S:bP) (f:Nat) (args:List NV) (m:NH) (v:NV) (m':NH):Prop:=∃c,Call P S f args m (.pan v c m')
theorem GW.wf {E:NV->NH->Prop} {v:NV} {m':NH} (h:GW P S f args m v m') {K:NV->NH->Prop}:WF ⟨P,E⟩ S f args m K=E v m':=by
 apply propext
 constructor
 ·rintro (⟨u,c,n,hc,hk⟩|⟨u,c,n,hc,hk⟩)
  ·obtain ⟨c',h'⟩:=h
   exact Hl (Call.det hc h') (by simp)
  ·obtain ⟨c',h'⟩:=h
   have:=Call.det hc h'
   injection this with a _ b
   rw[←a,←b];exact hk
 ·intro hk
  obtain ⟨c,h⟩:=h
  exact Or.inr ⟨v,c,m',h,hk⟩
end
section
variable {t:Tm} {m:NH}
theorem B2 {x:NOpd} {ty:Nat}:af (.box x ty) t m=oN (ρ t x) fun v=>match cellsOf v with|some cs=> .mem (.ptr m.next 0) (m.add (.cells true cs))|none=> .fail:=by
 show wV t x (fun v=>aT (cellsOf v) fun cs=>m.new (.cells true cs) fun id h=> .mem (.ptr id 0) h)=_
 rw[bT]
 cases ρ t x with
 |none=>rfl
 |some v=>
  show aT (cellsOf v) _=(match cellsOf v with|some cs=>_|none=>NR.fail)
  cases cellsOf v with
  |none=>rfl
  |some cs=>exact NH.new_eq m (.cells true cs) (fun id h=>NR.mem (.ptr id 0) h)
theorem yb {z:List NV} {ty:Nat}:af (.alloc z ty) t m= .mem (.ptr m.next 0) (m.add (.cells true z)):=NH.new_eq m (.cells true z) (fun id h=>NR.mem (.ptr id 0) h)
end
end Nm
namespace Nm
open Go Go.RowKit
section
variable {P:Program} {S:bP}
theorem An.of {l:D4} {args:List NV} {m:NH} {p p1:Jump} {tm tm1:NT NV} {ps ps1:List D4} {a b a1 b1:NC} {d1 d2:Dyn} {o:Out} {x:CR}
 (hm:m.get l=some (.loop 0 p tm ps a b)) (hlen:args.length=ps.length) (ha:dd P S (some l) a ⟨nj ps args tm, [],none,m⟩ .norm d1) (hd1:d1.dfs= [])
 (hm1:d1.h.get l=some (.loop 0 p1 tm1 ps1 a1 b1)) (hb:dd P S (some l) b ⟨d1.t, [],none,d1.h.put l (.loop 1 p1 tm1 ps1 a1 b1)⟩ o d2) (ho:∀v,o≠.pan v) (hr:ez l o d2.h=x) (hne:x≠.fail):An P S l args m x:=by
 obtain ⟨n,hn⟩:=ha
 obtain ⟨k,hk⟩:=hb
 refine ⟨hne,max n k, ?_⟩
 have key:∀(ps:List D4) (args:List NV) (tm:Tm) (K:Tm->CR),args.length=ps.length->cP .fail ps args tm K=K (nj ps args tm):=by
  intro ps
  induction ps with
  |nil=>intro args tm K h;cases args with
   |nil=>rfl
   |cons=>simp at h
  |cons q ps ih=>
   intro args tm K h
   cases args with
   |nil=>simp at h
   |cons v vs=>
    have e:cP .fail (q::ps) (v::vs) tm K=NT.set q v tm fun t=>cP .fail ps vs t K:=rfl
    rw[e,NT.set_eq]
    exact ih _ _ _ (by simpa using h)
 unfold round
 rw[hm]
 show cP .fail ps args tm (fun t=>match ev P S (max n k) (some l) a ⟨t, [],none,m⟩ with
  | .mk .norm d=>(match d.dfs with| []=>bZ (ev P S (max n k)) l b d.t d.h|_=> .fail)
  |_=> .fail)=x
 rw[key _ _ _ _ hlen,bN (Nat.le_max_left n k) _ _ _ _ _ hn]
 show (match d1.dfs with| []=>bZ (ev P S (max n k)) l b d1.t d1.h|_=> .fail)=x
 rw[hd1]
 show bZ (ev P S (max n k)) l b d1.t d1.h=x
 unfold bZ
 rw[hm1]
 show (d1.h.set l (.loop 1 p1 tm1 ps1 a1 b1) fun h=>(match ev P S (max n k) (some l) b ⟨d1.t, [],none,h⟩ with
  | .mk o d=>(match o with
   | .pan v=>(match d.dfs with| []=>CR.pan v none d.h|_=> .fail)
   |o=>ez l o d.h)
  | .fail=> .fail))=x
 rw[NH.set_eq,bN (Nat.le_max_right n k) _ _ _ _ _ hk]
 cases o with
 |pan v=>exact Hl rfl (ho v)
 |_=>exact hr
theorem dd.range {f:Nat} {cap:List NV} {fx:NOpd} {ps:List D4} {a b:NC} {t:Tm} {dfs:List Dfr} {ctx:Option NV} {m m':NH} {v:NV} {c:Option NV} {o:Out} {d:Dyn}
 (hf:ρ t fx=some (.fn f cap)) (hc:Call P S f (.yld (m.add (.defd true)).next::cap) ((m.add (.defd true)).add (.loop 0 .none t ps a b)) (.val v c m'))
 (he:dW (m.add (.defd true)).next t (.mark m.next::dfs) ctx m'= .mk o d):dd P S none (.rangeFunc fx ps a b) ⟨t,dfs,ctx,m⟩ o d:=by
 obtain ⟨hne,k,hk⟩:=hc
 refine ⟨k+1, ?_⟩
 show (match ρ t fx with
  |some (.fn f cap)=>m.new (.defd true) fun q m=>bM P S (ev P S k) f cap ps a b t (.mark q::dfs) ctx m
  |_=>Res.fail)=_
 rw[hf]
 try dsimp only
 rw[NH.new_eq]
 unfold bM
 rw[NH.new_eq,hk]
 exact he
end
end Nm
namespace Nm
open Go Go.RowKit
section
variable {t:Tm} {m:NH}
theorem El {n:Nat} {x:NOpd}:af (.loadN n x) t m=oN (ρ t x) (xQ n m):=by
 show wV t x (fun a=>match a with| .ptr id off=>ce m id fun c=>aT (fI c off n) fun l=> .val (.agg l)|_=> .fail)=_
 rw[bT]
 cases ρ t x with
 |none=>rfl
 |some v=>
  cases v with
  |ptr id off=>
   show ce m id (fun c=>aT (fI c off n) fun l=> .val (.agg l))=xQ n m (.ptr id off)
   unfold ce xQ
   dsimp only
   split<;>rename_i hm
   ·rw[hm];dsimp only;rw[fD];split<;>rfl
   ·split<;>rename_i h2
    ·exact Hl h2 (hm _ _)
    ·rfl
  |_=>rfl
def Dv (i:Nat) (a:NV):NR:=match a with| .tup l=>oN l[i]? .val|_=> .fail
theorem uk {i:Nat} {x:NOpd}:af (.extract x i) t m=oN (ρ t x) (Dv i):=by
 show wV t x (fun v=>match v with| .tup l=>aT (hH l i) .val|_=> .fail)=_
 rw[bT]
 cases ρ t x with
 |none=>rfl
 |some v=>
  cases v with
  |tup l=>show aT (hH l i) .val=oN l[i]? .val;rw[dC];cases l[i]? <;>rfl
  |_=>rfl
theorem En {i:Nat} {l:List NV}:Dv i (.tup l)=oN l[i]? .val:=_root_.id rfl
def uK (f:NV) (l:List NV):NR:=match f with| .fn f cap=> .call f (l++cap)| .yld r=> .yld r l|_=> .fail
noncomputable def xo (t:Tm):List NOpd->(List NV->NR)->NR
 | [],K=>K []
 |x::l,K=>oN (ρ t x) fun v=>xo t l fun l=>K (v::l)
theorem nn {l:List NOpd} {K:List NV->NR}:pL t l .fail K=xo t l K:=by
 induction l generalizing K with
 |nil=>rfl
 |cons x l ih=>
  show Option.rec NR.fail (fun v=>pL t l .fail fun l=>K (v::l)) (ρ t x)=oN (ρ t x) fun v=>xo t l fun l=>K (v::l)
  cases ρ t x with
  |none=>rfl
  |some v=>exact ih
theorem Bv {K:List NV->NR}:xo t [] K=K []:=_root_.id rfl
theorem EP {x:NOpd} {l:List NOpd} {K:List NV->NR}:xo t (x::l) K=oN (ρ t x) fun v=>xo t l fun l=>K (v::l):=_root_.id rfl
theorem Bb {f:NOpd} {args:List NOpd}:af (.call f args) t m=oN (ρ t f) fun f=>xo t args (uK f):=by
 show wV t f (fun f=>pL t args .fail fun l=>match f with| .fn f cap=>gt l cap fun l=> .call f l| .yld r=> .yld r l|_=> .fail)=_
 rw[bT]
 cases ρ t f with
 |none=>rfl
 |some f=>
  show pL t args .fail _=xo t args (uK f)
  rw[nn]
  congr 1
  funext l
  cases f with
  |fn f cap=>exact eg l cap (fun l=>NR.call f l)
  |_=>rfl
theorem BK {f:Nat} {cap l:List NV}:uK (.fn f cap) l= .call f (l++cap):=_root_.id rfl
theorem B6 {f:Nat} {l:List NOpd}:af (.mkFn f l) t m=xo t l fun l=> .val (.fn f l):=nn
end
end Nm
namespace Nm
open Go Go.RowKit
section
variable {t:Tm} {m:NH}
noncomputable def Fs (n:Nat) (m:NH) (a v:NV):NR:=match a with
 | .ptr id off=>(match cellsOf v with
  |some cs=>if cs.length=n then (match m.get id with
   |some (.cells true c)=>if off+cs.length<=c.length then .mem aL (m.put id (.cells true (c.take off++cs++c.drop (off+cs.length)))) else .fail
   |_=> .fail) else .fail
  |none=> .fail)
 |_=> .fail
theorem zU {n:Nat} {a x:NOpd}:af (.store n a x) t m=oN (ρ t a) fun a=>oN (ρ t x) fun v=>Fs n m a v:=by
 show wV t a (fun a=>wV t x fun v=>match a with
  | .ptr id off=>aT (cellsOf v) fun cs=>cp cs fun k=>cond (Nat.beq k n) (storeAt m id off cs fun h=> .mem aL h) .fail
  |_=> .fail)=_
 simp only[bT]
 cases ρ t a with
 |none=>rfl
 |some a=>
  show oN (ρ t x) _=oN (ρ t x) _
  cases ρ t x with
  |none=>rfl
  |some v=>
   cases a with
   |ptr id off=>
    show aT (cellsOf v) (fun cs=>cp cs fun k=>cond (Nat.beq k n) (storeAt m id off cs fun h=> .mem aL h) .fail)=Fs n m (.ptr id off) v
    unfold Fs
    cases cellsOf v with
    |none=>rfl
    |some cs=>
     show cp cs (fun k=>cond (Nat.beq k n) (storeAt m id off cs fun h=> .mem aL h) .fail)=if cs.length=n then _ else _
     rw[bi]
     cases hb:Nat.beq cs.length n with
     |false=>rw[Hm (Nat.ne_of_beq_eq_false hb)];rfl
     |true=>
      rw[Hn (Hs hb)]
      show storeAt m id off cs (fun h=> .mem aL h)=_
      unfold storeAt fX
      cases hm:m.get id with
      |none=>rfl
      |some o=>
       cases o with
       |cells w c=>
        cases w with
        |false=>rfl
        |true=>
         show aT (dw cs off c) (fun c=>m.set id (.cells true c) fun h=> .mem aL h)=if off+cs.length<=c.length then _ else _
         rw[eD]
         split
         ·exact NH.set_eq m id _ (fun h=>NR.mem aL h)
         ·rfl
       |_=>rfl
   |_=>rfl
end
end Nm
namespace Nm
open Go Go.RowKit
section
variable {t:Tm} {m:NH}
noncomputable def GV (n len:Nat) (m:NH) (o:Option (List NV)):NR:=match o with|some l=> .mem (.slc m.next 0 len n len) (m.add (.cells true l))|none=> .fail
theorem CQ {z:List NV} {n len ty:Nat} {ps:List (Nat×Nat×NOpd)}:af (.buildSlice z n len ty ps) t m=GV n len m (bQ t ps 0 z):=by
 show aT (bQ t ps 0 z) (fun l=>m.new (.cells true l) fun id h=> .mem (.slc id 0 len n len) h)=_
 cases bQ t ps 0 z with
 |none=>rfl
 |some l=>exact NH.new_eq m (.cells true l) (fun id h=>NR.mem (.slc id 0 len n len) h)
theorem F1 {n len:Nat} {l:List NV}:GV n len m (some l)= .mem (.slc m.next 0 len n len) (m.add (.cells true l)):=_root_.id rfl
def oO {α β:Type} (o:Option α) (K:α->Option β):Option β:=match o with|some x=>K x|none=>none
theorem FG {α β:Type} {x:α} {K:α->Option β}:oO (some x) K=K x:=_root_.id rfl
end
end Nm
namespace Nm
open Go Go.RowKit
def wQ (q:Bool) (A B:Dyn->Prop) (d:Dyn):Prop:=(q=true->A d)/\(q=false->B d)
def wC (o:Option NV) (A B:Dyn->Prop) (d:Dyn):Prop:=wB o (A d) (B d)
def wG (o:Option NV) (b:Bool) (A B:Dyn->Prop) (d:Dyn):Prop:=match o with
 |some (.bool q)=>wQ (q==b) A B d
 |some _=>B d
 |none=>False
def ue (F:Tm->List Dfr->Option NV->NH->Prop) (d:Dyn):Prop:=F d.t d.dfs d.ctx d.h
noncomputable def rl (x:NR) (v:NV):Bool:=match x with| .val u=>bC 4 u v|_=>false
section
variable {P:PE} {S:bP} {r:Option D4} {dst:Option D4} {op:NOp} {pre idx:Nat} {l:List NOper} {hs:List (Nat×NH)} {rs:List (Nat×(NH->NR)×NV)}
 {L:List (D4×NV)} {t:Tm} {dfs:List Dfr} {ctx:Option NV} {m m':NH} {v:NV} {k k' g:D4} {d:Dyn} {Q:Out->Dyn->Prop} {K:Dyn->Prop} {A B:Dyn->Prop} {b q:Bool}
theorem Gv:wC (some (.bool q)) A B d=wQ q A B d:=_root_.id rfl
theorem DV:wQ true A B d=A d:=by simp[wQ]
theorem D7:wQ false A B d=B d:=by simp[wQ]
theorem GB:wG (some (.bool q)) b A B d=wQ (q==b) A B d:=_root_.id rfl
theorem Fa:wG (some aL) b A B d=B d:=_root_.id rfl
theorem yj:wO P S (⟨dst,op,some (g,b),pre,idx⟩::l) ⟨aG L t,dfs,ctx,m⟩ K=wG (eu g L (NT.get g t)) b (ue fun t dfs ctx m=>wN P S dst t dfs ctx m (af op t m) fun d=>wO P S l d K) (ue fun t dfs ctx m=>wO P S l ⟨aC dst aL t,dfs,ctx,m⟩ K) ⟨aG L t,dfs,ctx,m⟩:=by
 unfold wG
 rw[←fL]
 show (match ao (aG L t) (some (g,b)) with|some true=>_|some false=>_|none=>False)=_
 have e:ao (aG L t) (some (g,b))=(match NT.get g (aG L t) with|some (.bool q)=>some (q==b)|some _=>some false|none=>none):=by
  show Option.rec (motive:=fun _=>Option Bool) none (fun v=>NV.onBool (some false) (fun c=>some (dN b c)) v) (NT.get g (aG L t))=_
  cases NT.get g (aG L t) with
  |none=>rfl
  |some v=>cases v with
   |bool q=>cases q<;>cases b<;>rfl
   |_=>rfl
 rw[e]
 cases NT.get g (aG L t) with
 |none=>rfl
 |some v=>cases v with
  |bool q=>
   dsimp only
   unfold wQ ue
   cases (q==b)<;>simp
  |_=>rfl
theorem vI:wD P S (⟨dst,op,some (g,b),pre,idx⟩::l) hs rs ⟨aG L t,dfs,ctx,m⟩ K=wG (eu g L (NT.get g t)) b (ue fun t dfs ctx m=>wX (ak op) (af op t m) P S (af op t) dst pre idx l hs rs ⟨t,dfs,ctx,m⟩ K) (ue fun t dfs ctx m=>wD P S l hs rs ⟨aC dst aL t,dfs,ctx,m⟩ K) ⟨aG L t,dfs,ctx,m⟩:=by
 unfold wG
 rw[←fL]
 have e:ao (aG L t) (some (g,b))=(match NT.get g (aG L t) with|some (.bool q)=>some (q==b)|some _=>some false|none=>none):=by
  show Option.rec (motive:=fun _=>Option Bool) none (fun v=>NV.onBool (some false) (fun c=>some (dN b c)) v) (NT.get g (aG L t))=_
  cases NT.get g (aG L t) with
  |none=>rfl
  |some v=>cases v with
   |bool q=>cases q<;>cases b<;>rfl
   |_=>rfl
 have e2:wD P S (⟨dst,op,some (g,b),pre,idx⟩::l) hs rs ⟨aG L t,dfs,ctx,m⟩ K=(match ao (aG L t) (some (g,b)) with
  |some true=>wX (ak op) (af op (aG L t) m) P S (af op (aG L t)) dst pre idx l hs rs ⟨aG L t,dfs,ctx,m⟩ K
  |some false=>wD P S l hs rs ⟨aC dst aL (aG L t),dfs,ctx,m⟩ K
  |none=>False):=by
  unfold wX
  simp only[wD]
  all_goals (cases ao (aG L t) (some (g,b)) with
   |none=>rfl
   |some q=>cases q with
    |false=>rfl
    |true=>cases ak op<;>cases af op (aG L t) m<;>rfl)
 rw[e2,e]
 cases NT.get g (aG L t) with
 |none=>rfl
 |some v=>cases v with
  |bool q=>
   dsimp only
   unfold wQ ue
   cases (q==b)<;>simp
  |_=>rfl
theorem yf {i:Nat} {f:NH->NR}:cC pre f v ((i,m)::hs)=cond (Nat.testBit pre i) (cC pre f v hs) (rl (f m) v&&cC pre f v hs):=by
 show cond (Nat.testBit pre i) (cC pre f v hs) (match f m with| .val u=>cond (bC 4 u v) (cC pre f v hs) false|_=>false)=_
 congr 1
 cases f m with
 |val u=>show cond (bC 4 u v) _ false=(bC 4 u v&&_);cases bC 4 u v<;>rfl
 |_=>rfl
theorem yt {i:Nat} {f:NH->NR} {u:NV}:aU pre m ((i,f,u)::rs)=cond (Nat.testBit pre i) (aU pre m rs) (rl (f m) u&&aU pre m rs):=by
 show cond (Nat.testBit pre i) (aU pre m rs) (match f m with| .val v=>cond (bC 4 v u) (aU pre m rs) false|_=>false)=_
 congr 1
 cases f m with
 |val u'=>show cond (bC 4 u' u) _ false=(bC 4 u' u&&_);cases bC 4 u' u<;>rfl
 |_=>rfl
theorem zQ {i:Nat}:ahead pre ((i,m)::hs)=cond (Nat.testBit pre i) (ahead pre hs) false:=_root_.id rfl
theorem uT {u:NV}:rl (.val u) v=bC 4 u v:=_root_.id rfl
end
theorem eO (d:D4):aZ d d=true:=ll d
theorem oL (l:List Nat):pB l l=true:=by
 induction l with
 |nil=>rfl
 |cons x l ih=>show cond (Nat.beq x x) (pB l l) false=true;rw[Nat.beq_refl];exact ih
theorem p9 (l:List ST):lY l l=true:=by
 induction l with
 |nil=>rfl
 |cons x l ih=>
  obtain ⟨m,i,lo,hi⟩:=x
  show cond (Nat.beq m m) (cond (Nat.beq i i) (cond (Nat.beq lo lo) (cond (Nat.beq hi hi) (lY l l) false) false) false) false=true
  simp[ih]
def vG (v:NV):Prop:=match v with| .agg _| .tup _| .fn _ _| .ifc _ _| .int _ (.ge _)| .int _ (.le _)=>False|_=>True
theorem mr {n:Nat} {v:NV} (h:vG v):bC (n+1) v v=true:=by
 show rS (bC n) v v=true
 have hi:∀z:Int,gs z z=true:=fun z=>by rw[bt];simp
 cases v with
 |bool b=>cases b<;>rfl
 |int k x=>cases x with
  |lit z=>show cond (eS k k) (gs z z) false=true;rw[hi];cases k<;>rfl
  |sym c ts=>show cond (eS k k) (cond (gs c c) (lY ts ts) false) false=true;rw[hi,p9];cases k<;>rfl
  |ge z=>exact h.elim
  |le z=>exact h.elim
 |str s=>exact oL s
 |ptr id o=>show cond (aZ id id) (Nat.beq o o) false=true;rw[eO];simp
 |slc id o n e k=>show cond (aZ id id) (cond (Nat.beq o o) (cond (Nat.beq n n) (cond (Nat.beq e e) (Nat.beq k k) false) false) false) false=true;rw[eO];simp
 |map id=>exact eO id
 |yld id=>exact eO id
 |agg l=>exact h.elim
 |tup l=>exact h.elim
 |fn f c=>exact h.elim
 |ifc t v=>exact h.elim
 |_=>rfl
theorem oI {l:List Nat}:vG (.str l)=True:=_root_.id rfl
theorem xK {n:Nat} {k:IntKind} {z:Int}:bC (n+1) (.int k (.lit z)) (.int k (.lit z))=true:=mr trivial
end Nm
namespace Nm
open Go Go.RowKit
theorem Ev {a b:Int} (h:-9223372036854775808<=a - b) (h':a - b<9223372036854775808):cT .num .sub (.int .i64 (.lit a)) (.int .i64 (.lit b))=some (.int .i64 (.lit (a - b))):=by
 refine (pZ rfl).trans ?_
 show bL .i64 (bF .i64 (lR a b))=_
 rw[ei,wrap_small h h']
 exact ct _ _
theorem A0 {p:Prop} [Decidable p] (h:p):decide p=true:=by simp[h]
theorem xA {p:Prop} [Decidable p] (h:¬p):decide p=false:=by simp[h]
section
variable {m:NH}
theorem uO {n off len e kc:Nat} {id:D4} {ik:IntKind} {z:Int} (h0:0<=z) (h1:z<len):tM n (.slc id off len e kc) (.int ik (.lit z))= .val (.ptr id (off+z.toNat*n)):=by
 obtain ⟨i,rfl⟩:=Ht h0
 show (if i<len then NR.val (.ptr id (off+i*n)) else .fail)= .val (.ptr id (off+i*n))
 rw[Hn (by omega)]
noncomputable def Fh (off:Nat) (o:Option NO):NR:=match o with|some (.cells _ c)=>oN c[off]? .val|_=> .fail
noncomputable def Fk (n off:Nat) (o:Option NO):NR:=match o with|some (.cells _ c)=>if off+n<=c.length then .val (.agg ((c.drop off).take n)) else .fail|_=> .fail
theorem Dc {id:D4} {off:Nat}:xP m (.ptr id off)=Fh off (m.get id):=_root_.id rfl
theorem ES {id:D4} {n off:Nat}:xQ n m (.ptr id off)=Fk n off (m.get id):=_root_.id rfl
theorem Ct {off:Nat} {w:Bool} {c:List NV}:Fh off (some (.cells w c))=oN c[off]? .val:=_root_.id rfl
theorem Cr {n off:Nat} {w:Bool} {c:List NV} (h:off+n<=c.length):Fk n off (some (.cells w c))= .val (.agg ((c.drop off).take n)):=Hn h
noncomputable def Ga (n:Nat) (id:D4) (off:Nat) (m:NH) (cs:Option (List NV)) (o:Option NO):NR:=match cs with
 |some cs=>if cs.length=n then (match o with
  |some (.cells true c)=>if off+cs.length<=c.length then .mem aL (m.put id (.cells true (c.take off++cs++c.drop (off+cs.length)))) else .fail
  |_=> .fail) else .fail
 |none=> .fail
theorem F7 {n off:Nat} {id:D4} {v:NV}:Fs n m (.ptr id off) v=Ga n id off m (cellsOf v) (m.get id):=_root_.id rfl
theorem gw {c:List NV} {off:Nat} {x:NV} (h:off<c.length):c.take off++ [x]++c.drop (off+1)=c.set off x:=by
 rw[List.set_eq_take_append_cons_drop,Hn h]
 simp
theorem ET {off:Nat} {id:D4} {x:NV} {c:List NV} (h:off<c.length):Ga 1 id off m (some [x]) (some (.cells true c))= .mem aL (m.put id (.cells true (c.set off x))):=by
 show (if [x].length=1 then (if off+ [x].length<=c.length then NR.mem aL (m.put id (.cells true (c.take off++ [x]++c.drop (off+ [x].length)))) else .fail) else .fail)=_
 rw[Hn (show [x].length=1 from rfl),Hn (by show off+1<=_;omega)]
 show NR.mem aL (m.put id (.cells true (c.take off++ [x]++c.drop (off+1))))=_
 rw[gw h]
theorem Fb {n off:Nat} {id:D4} {cs c:List NV} (h:cs.length=n+2) (h':off+(n+2)<=c.length):Ga (n+2) id off m (some cs) (some (.cells true c))= .mem aL (m.put id (.cells true (c.take off++cs++c.drop (off+(n+2))))):=by
 rw[←h] at h' ⊢
 show (if cs.length=cs.length then (if off+cs.length<=c.length then NR.mem aL (m.put id (.cells true (c.take off++cs++c.drop (off+cs.length)))) else .fail) else .fail)=_
 rw[Hn rfl,Hn h']
end
section
variable {t:Tm} {m:NH}
def sr (c:NV) (a b:Option NV):NR:=match c with| .bool c=>(if c then oN a .val else oN b .val)|_=> .fail
theorem CJ {c a b:NOpd}:af (.pick c a b) t m=oN (ρ t c) fun c=>sr c (ρ t a) (ρ t b):=by
 show wV t c (fun c=>match c with| .bool c=>Bool.rec (wV t b .val) (wV t a .val) c|_=> .fail)=_
 rw[bT]
 cases ρ t c with
 |none=>rfl
 |some v=>
  cases v with
  |bool q=>show Bool.rec (wV t b .val) (wV t a .val) q=if q then oN (ρ t a) .val else oN (ρ t b) .val;rw[bT,bT];cases q<;>rfl
  |_=>rfl
theorem yG {a b:Option NV}:sr (.bool true) a b=oN a .val:=_root_.id rfl
theorem yC {a b:Option NV}:sr (.bool false) a b=oN b .val:=_root_.id rfl
theorem xu {q p r:Bool}:sr (.bool q) (some (.bool p)) (some (.bool r))= .val (.bool (if q then p else r)):=by cases q<;>rfl
theorem u9 {mx:Bool} {l:List NOpd}:af (.minmax mx l) t m=xo t l fun l=>oN (tT mx l) .val:=by
 show pL t l .fail (fun l=>aT (tT mx l) .val)=_
 rw[nn]
 congr 1
 funext l
 cases tT mx l<;>rfl
theorem Ep {k:IntKind} {a b:Int}:tT true [.int k (.lit a),.int k (.lit b)]=some (.int k (.lit (max a b))):=by
 show Option.rec (motive:=fun _=>Option NV) none some (cond (cond true (gy a b) (gy b a)) (some (NV.int k (.lit b))) (some (.int k (.lit a))))=_
 rw[bJ]
 by_cases h:a<b
 ·simp[h,Int.max_def,show a<=b by omega]
 ·simp[h,Int.max_def];omega
theorem Ew {k:IntKind} {a b:Int}:tT false [.int k (.lit a),.int k (.lit b)]=some (.int k (.lit (min a b))):=by
 show Option.rec (motive:=fun _=>Option NV) none some (cond (cond false (gy a b) (gy b a)) (some (NV.int k (.lit b))) (some (.int k (.lit a))))=_
 rw[bJ a b,bJ b a]
 by_cases h:b<a
 ·rw[Hp h,Int.min_eq_right (by omega)];rfl
 ·rw[Ho h,Int.min_eq_left (by omega)];rfl
noncomputable def xh (z:List NV) (n bytes:Nat) (m:NH) (l c:Nat):NR:=cond (Nat.ble l c) (cond (room c bytes) (.mem (.slc m.next 0 l n c) (m.add (.cells true (rep c z)))) .fail) .fail
theorem tz {z:List NV} {n bytes ty:Nat} {l c:NOpd}:af (.mkSlice z n bytes ty l c) t m=oN (ρ t l) fun l=>aT (gG l) fun l=>oN (ρ t c) fun c=>aT (gG c) fun c=>xh z n bytes m l c:=by
 show cV t l (fun l=>cV t c fun c=>cond (Nat.ble l c) (cond (room c bytes) (qx c z fun cs=>m.new (.cells true cs) fun id h=> .mem (.slc id 0 l n c) h) .fail) .fail)=_
 unfold cV
 rw[bT]
 congr 1
 funext lv
 congr 1
 funext i
 rw[bT]
 congr 1
 funext cv
 congr 1
 funext j
 rw[eh,NH.new_eq]
 rfl
theorem CG {k:IntKind} {a:Int} {K:Nat->NR} (h:0<=a):aT (gG (.int k (.lit a))) K=K a.toNat:=by
 obtain ⟨i,rfl⟩:=Ht h
 rfl
theorem B4 {z:List NV} {n bytes i:Nat} (h1:i*bytes<=1099511627776) (h2:i<=1099511627776):xh z n bytes m i i= .mem (.slc m.next 0 i n i) (m.add (.cells true (rep i z))):=by
 unfold xh
 rw[Nat.ble_eq_true_of_le (Nat.le_refl i)]
 have e:room i bytes=true:=by
  unfold room
  rw[show Nat.ble (Nat.mul i bytes) 1099511627776=true from Nat.ble_eq_true_of_le h1,show Nat.ble i 1099511627776=true from Nat.ble_eq_true_of_le h2]
  rfl
 rw[e];rfl
noncomputable def FO (neg:Bool) (es:List EK) (a b:NV):NR:=match a,b with
 | .agg a,.agg b=>aT (cJ es a b) fun r=>vr (aW (cond neg (dx r) r))
 |_,_=> .fail
theorem yK {neg:Bool} {es:List EK} {x y:NOpd}:af (.eqAgg neg es x y) t m=oN (ρ t x) fun a=>oN (ρ t y) fun b=>FO neg es a b:=by
 show wV t x (fun a=>wV t y fun b=>match a,b with
  | .agg a,.agg b=>aT (cJ es a b) fun r=>vr (aW (cond neg (dx r) r))
  |_,_=> .fail)=_
 rw[bT];congr 1;funext a;rw[bT];rfl
theorem FD {es:List EK} {a b:List NV} {q:Bool} (h:cJ es a b=some q):FO false es (.agg a) (.agg b)= .val (.bool q):=by
 show aT (cJ es a b) (fun r=>vr (aW (cond false (dx r) r)))=_
 rw[h];cases q<;>rfl
noncomputable def GY (o:Option (List NV)):NR:=match o with|some l=> .val (.agg l)|none=> .fail
theorem yr {z:List NV} {ps:List (Nat×Nat×NOpd)}:af (.build z ps) t m=GY (cz t ps z):=by
 show aT (cz t ps z) (fun l=> .val (.agg l))=_
 cases cz t ps z<;>rfl
theorem F9 {l:List NV}:GY (some l)= .val (.agg l):=_root_.id rfl
theorem Db {l:List NV}:cz t [] l=some l:=_root_.id rfl
noncomputable def Fy (t:Tm) (ps:List (Nat×Nat×NOpd)) (off k:Nat) (l:List NV) (o:Option (List NV)):Option (List NV):=match o with
 |some cs=>if cs.length=k then (match dw cs off l with|some l=>cz t ps l|none=>none) else none
 |none=>none
theorem FF {ps:List (Nat×Nat×NOpd)} {off k:Nat} {x:NOpd} {l:List NV}:cz t ((off,k,x)::ps) l=oO (ρ t x) fun v=>Fy t ps off k l (cellsOf v):=by
 show Option.rec (motive:=fun _=>Option (List NV)) none (fun v:NV=>Option.rec (motive:=fun _=>Option (List NV)) none (fun cs=>cp cs fun j=>cond (Nat.beq j k) (Option.rec (motive:=fun _=>Option (List NV)) none (cz t ps) (dw cs off l)) none) (cellsOf v)) (ρ t x)=_
 cases ρ t x with
 |none=>rfl
 |some v=>
  show Option.rec (motive:=fun _=>Option (List NV)) none (fun cs=>cp cs fun j=>cond (Nat.beq j k) (Option.rec (motive:=fun _=>Option (List NV)) none (cz t ps) (dw cs off l)) none) (cellsOf v)=Fy t ps off k l (cellsOf v)
  cases cellsOf v with
  |none=>rfl
  |some cs=>
   show cp cs (fun j=>cond (Nat.beq j k) (Option.rec (motive:=fun _=>Option (List NV)) none (cz t ps) (dw cs off l)) none)=if cs.length=k then _ else _
   rw[bi]
   cases hb:Nat.beq cs.length k with
   |false=>rw[Hm (Nat.ne_of_beq_eq_false hb)];rfl
   |true=>rw[Hn (Hs hb)];cases dw cs off l<;>rfl
theorem Du {ps:List (Nat×Nat×NOpd)} {off:Nat} {x:NV} {l:List NV} (h:off<l.length):Fy t ps off 1 l (some [x])=cz t ps (l.set off x):=by
 show (if [x].length=1 then (match dw [x] off l with|some l=>cz t ps l|none=>none) else none)=_
 rw[Hn (show [x].length=1 from rfl),eD,Hn (by show off+1<=_;omega)]
 show cz t ps (l.take off++ [x]++l.drop (off+1))=_
 rw[gw h]
end
end Nm
namespace Nm
open Go Go.RowKit
section
variable {t:Tm} {m:NH}
noncomputable def eU (t:Tm) (x:Option NOpd) (d:Nat) (K:Nat->NR):NR:=match x with|none=>K d|some x=>oN (ρ t x) fun v=>aT (gG v) K
theorem dH {x:Option NOpd} {d:Nat} {K:Nat->NR}:cB t x d K=eU t x d K:=by
 cases x with
 |none=>rfl
 |some x=>show wV t x _=_;rw[bT];rfl
noncomputable def yA (n:Nat) (id:D4) (off len e kc a b:Nat):NR:=cond (Nat.ble a b) (cond (Nat.ble b (Bool.rec kc len (Nat.ble kc len))) (cond (Nat.beq e n) (.val (.slc id (off+a*n) (b - a) n (kc - a))) .fail) .fail) .fail
noncomputable def pm (n:Nat) (t:Tm) (lo hi:Option NOpd) (v:NV):NR:=match v with
 | .slc id off len e kc=>eU t hi len fun b=>eU t lo 0 fun a=>yA n id off len e kc a b
 | .nils=>eU t hi 0 fun b=>eU t lo 0 fun a=>cond (Nat.beq a 0) (cond (Nat.beq b 0) (.val .nils) .fail) .fail
 |_=> .fail
theorem D2 {n:Nat} {x:NOpd} {lo hi:Option NOpd}:af (.sliceSlc n x lo hi) t m=oN (ρ t x) (pm n t lo hi):=by
 show wV t x (fun v=>match v with
  | .slc id off len e kc=>cB t hi len fun b=>cB t lo 0 fun a=>cond (Nat.ble a b) (cond (Nat.ble b (Bool.rec kc len (Nat.ble kc len))) (cond (Nat.beq e n)
   (ai (Nat.add off (Nat.mul a n)) fun o=>ai (Nat.sub b a) fun m=>ai (Nat.sub kc a) fun k=> .val (.slc id o m n k)) .fail) .fail) .fail
  | .nils=>cB t hi 0 fun b=>cB t lo 0 fun a=>cond (Nat.beq a 0) (cond (Nat.beq b 0) (.val .nils) .fail) .fail
  |_=> .fail)=_
 rw[bT]
 congr 1
 funext v
 cases v with
 |slc id off len e kc=>
  dsimp only[pm]
  rw[dH]
  congr 1
  funext b
  rw[dH]
  congr 1
  funext a
  simp only[ae]
  rfl
 |nils=>
  dsimp only[pm]
  rw[dH]
  congr 1
  funext b
  rw[dH]
 |_=>rfl
theorem Ax {d:Nat} {K:Nat->NR}:eU t none d K=K d:=_root_.id rfl
theorem E5 {x:NOpd} {d:Nat} {K:Nat->NR}:eU t (some x) d K=oN (ρ t x) fun v=>aT (gG v) K:=_root_.id rfl
theorem uW {n off len e kc:Nat} {id:D4} {lo hi:Option NOpd}:pm n t lo hi (.slc id off len e kc)=eU t hi len fun b=>eU t lo 0 fun a=>yA n id off len e kc a b:=_root_.id rfl
theorem vd {n:Nat} {lo hi:Option NOpd}:pm n t lo hi .nils=eU t hi 0 fun b=>eU t lo 0 fun a=>cond (Nat.beq a 0) (cond (Nat.beq b 0) (.val .nils) .fail) .fail:=_root_.id rfl
theorem Aq {n a b off len kc:Nat} {id:D4} (h:a<=b) (h':b<=len):yA n id off len n kc a b= .val (.slc id (off+a*n) (b - a) n (kc - a)):=by
 unfold yA
 rw[Nat.ble_eq_true_of_le h,Nat.beq_refl,show Nat.ble b (Bool.rec kc len (Nat.ble kc len))=true from Nat.ble_eq_true_of_le (by
  cases hb:Nat.ble kc len with
  |true=>exact h'
  |false=>
   have:¬kc<=len:=fun q=>by rw[Nat.ble_eq_true_of_le q] at hb;cases hb
   show b<=kc
   omega)]
 rfl
end
end Nm
namespace Nm
open Go Go.RowKit
def ids:NV->List D4
 | .slc id _ _ _ _=> [id]
 |_=> []
def Sl (m:NH) (v:NV) (e:Nat) (C:List (List NV)):Prop:=(∀x∈C,x.length=e)/\((v= .nils/\C= [])∨
 ∃id off kc w c,v= .slc id off C.length e kc/\m.get id=some (.cells w c)/\bU m id/\off+C.length*e<=c.length/\(c.drop off).take (C.length*e)=C.flatten)
def fj (B m:NH) (v:NV) (e:Nat) (C:List (List NV)):Prop:=(∀x∈C,x.length=e)/\((v= .nils/\C= [])∨
 ∃id off kc c,v= .slc id off C.length e kc/\¬bU B id/\m.get id=some (.cells true c)/\bU m id/\off+C.length*e<=c.length/\off+kc*e<=c.length/\(c.drop off).take (C.length*e)=C.flatten)
theorem fW {e:Nat} {C:List (List NV)} (h:∀x∈C,x.length=e):C.flatten.length=C.length*e:=by
 induction C with
 |nil=>simp
 |cons a C ih=>
  rw[List.flatten_cons,List.length_append,h a (List.mem_cons_self ..),ih fun x hx=>h x (List.mem_cons_of_mem _ hx),List.length_cons,Nat.succ_mul]
  omega
theorem tI {e:Nat}:∀{C:List (List NV)} (_:∀x∈C,x.length=e) (i:Nat) (hi:i<C.length),(C.flatten.drop (i*e)).take e=C[i]:=by
 intro C
 induction C with
 |nil=>intro _ i hi;simp at hi
 |cons a C ih=>
  intro h i hi
  have ha:=h a (List.mem_cons_self ..)
  cases i with
  |zero=>
   rw[Nat.zero_mul,List.drop_zero,List.flatten_cons,List.take_append,ha,Nat.sub_self,List.take_zero,List.append_nil,←ha]
   simp
  |succ i=>
   rw[List.flatten_cons,List.drop_append,Nat.succ_mul,List.drop_eq_nil_of_le (by omega),List.nil_append,ha,Nat.add_sub_cancel]
   exact ih (fun x hx=>h x (List.mem_cons_of_mem _ hx)) i (by simpa using hi)
theorem fj.sl {B m:NH} {v:NV} {e:Nat} {C:List (List NV)} (h:fj B m v e C):Sl m v e C:=by
 obtain ⟨h0,h|⟨id,off,kc,c,h1,_,h2,h3,h4,_,h5⟩⟩:=h
 ·exact ⟨h0,Or.inl h⟩
 ·exact ⟨h0,Or.inr ⟨id,off,kc,true,c,h1,h2,h3,h4,h5⟩⟩
section
variable {m:NH} {v:NV} {e:Nat} {C:List (List NV)}
theorem Sl.len (h:Sl m v e C):AI v= .val (.int .i64 (.lit (C.length:Int))):=by
 obtain ⟨_,⟨rfl,rfl⟩|⟨id,off,kc,w,c,rfl,_⟩⟩:=h<;>rfl
theorem Sl.one (h:Sl m v e C):cellsOf v=some [v]:=by
 obtain ⟨_,⟨rfl,rfl⟩|⟨id,off,kc,w,c,rfl,_⟩⟩:=h<;>rfl
theorem ru {c:List NV} {off n e:Nat} (h:∀x∈C,x.length=e) (hn:C.length=n) (hc:off+n*e<=c.length) (hf:(c.drop off).take (n*e)=C.flatten) (i:Nat) (hi:i<C.length):
 off+i*e+e<=c.length/\(c.drop (off+i*e)).take e=C[i]:=by
 subst hn
 have h1:i*e+e<=C.length*e:=by rw[←Nat.succ_mul];exact Nat.mul_le_mul_right e hi
 refine ⟨by omega, ?_⟩
 rw[←tI h i hi,←hf,List.drop_take,List.take_take,List.drop_drop,Nat.min_eq_left (by omega)]
theorem Sl.at (h:Sl m v e C) (i:Nat) (hi:i<C.length):∃id off w c,tM e v (.int .i64 (.lit (i:Int)))= .val (.ptr id off)/\m.get id=some (.cells w c)/\bU m id/\off+e<=c.length/\(c.drop off).take e=C[i]:=by
 obtain ⟨h0,⟨rfl,rfl⟩|⟨id,off,kc,w,c,rfl,h1,h2,h3,h4⟩⟩:=h
 ·simp at hi
 ·obtain ⟨h5,h6⟩:=ru h0 rfl h3 h4 i hi
  exact ⟨id,off+i*e,w,c,uO (by omega) (by omega),h1,h2,h5,h6⟩
theorem Sl.chg {T:List D4} {m':NH} (h:Sl m v e C) (hc:Chg T m m') (ht:∀id∈ids v,id∉T):Sl m' v e C:=by
 obtain ⟨h0,⟨rfl,rfl⟩|⟨id,off,kc,w,c,rfl,h1,h2,h3,h4⟩⟩:=h
 ·exact ⟨h0,Or.inl ⟨rfl,rfl⟩⟩
 ·exact ⟨h0,Or.inr ⟨id,off,kc,w,c,rfl,(hc.get h2 (ht id (List.mem_cons_self ..))).trans h1,hc.old h2,h3,h4⟩⟩
theorem Sl.grew {m':NH} (h:Sl m v e C) (hc:Chg [] m m'):Sl m' v e C:=h.chg hc fun _ _=>Hq
theorem Sl.old (h:Sl m v e C):∀id∈ids v,bU m id:=by
 obtain ⟨h0,⟨rfl,rfl⟩|⟨id,off,kc,w,c,rfl,h1,h2,h3,h4⟩⟩:=h
 ·intro id hid;simp[ids] at hid
 ·intro i hi;simp[ids] at hi;rw[hi];exact h2
theorem fj.chg {B m:NH} {T:List D4} {m':NH} (h:fj B m v e C) (hc:Chg T m m') (ht:∀id∈ids v,id∉T):fj B m' v e C:=by
 obtain ⟨h0,⟨rfl,rfl⟩|⟨id,off,kc,c,rfl,hb,h1,h2,h3,h4⟩⟩:=h
 ·exact ⟨h0,Or.inl ⟨rfl,rfl⟩⟩
 ·exact ⟨h0,Or.inr ⟨id,off,kc,c,rfl,hb,(hc.get h2 (ht id (List.mem_cons_self ..))).trans h1,hc.old h2,h3,h4⟩⟩
theorem fj.new {B m:NH} (h:fj B m v e C):∀id∈ids v,¬bU B id:=by
 obtain ⟨h0,⟨rfl,rfl⟩|⟨id,off,kc,c,rfl,hb,h1,h2,h3,h4⟩⟩:=h
 ·intro id hid;simp[ids] at hid
 ·intro i hi;simp[ids] at hi;rw[hi];exact hb
theorem fj.nil {B m:NH}:fj B m .nils e []:=⟨fun x hx=>by simp at hx,Or.inl ⟨rfl,rfl⟩⟩
theorem Sl.nil:Sl m .nils e []:=⟨fun x hx=>by simp at hx,Or.inl ⟨rfl,rfl⟩⟩
theorem fj.of {B m:NH} {id:D4} {n k:Nat} {c:List NV} (h:∀x∈C,x.length=e) (hb:¬bU B id) (hg:m.get id=some (.cells true c)) (ho:bU m id) (hc:c=C.flatten) (hn:n=C.length) (hk:k=C.length):fj B m (.slc id 0 n e k) e C:=by
 subst hn hk hc
 have hl:=fW h
 exact ⟨h,Or.inr ⟨id,0,_,_,rfl,hb,hg,ho,by omega,by omega,by rw[List.drop_zero,←hl,List.take_length]⟩⟩
theorem Chg.put (m:NH) (id:D4) (o:NO):Chg [id] m (m.put id o):=
 ⟨Nat.le_refl _,fun {i} _ hn=>NH.get_put_ne m o (by simpa using hn)⟩
theorem bU.next_ne {m:NH} {i:D4} (h:bU m i):i≠m.next:=by
 intro e;rw[e] at h;exact Nat.lt_irrefl _ h
theorem Chg.add (m:NH) (o:NO):Chg [] m (m.add o):=
 ⟨by show m.next.toNat<=m.next.nxt.toNat;rw[D4.toNat_nxt];omega,fun {i} ho _=>NH.get_add_ne m o ho.next_ne⟩
theorem fm (m:NH) (o:NO):bU (m.add o) m.next:=by
 show m.next.toNat<m.next.nxt.toNat;rw[D4.toNat_nxt];omega
def kD (off:Nat):List (Nat×NV)->List NV->List NV
 | [],c=>c
 |(k,x)::us,c=>kD off us (c.set (off+k) x)
theorem kT {off:Nat}:∀(us:List (Nat×NV)) (c:List NV),(kD off us c).length=c.length:=by
 intro us
 induction us with
 |nil=>intro c;rfl
 |cons u us ih=>intro c;obtain ⟨k,x⟩:=u;show (kD off us (c.set (off+k) x)).length=_;rw[ih,List.length_set]
theorem fj.at {B:NH} (h:fj B m v e C) (i:Nat) (hi:i<C.length):∃id off c,tM e v (.int .i64 (.lit (i:Int)))= .val (.ptr id off)/\ids v= [id]/\¬bU B id/\m.get id=some (.cells true c)/\bU m id/\off+e<=c.length/\(c.drop off).take e=C[i]/\
 ∀(us:List (Nat×NV)) (M:NH),(∀u∈us,u.1<e)->M.get id=some (.cells true (kD off us c))->bU M id->fj B M v e (C.set i (kD 0 us C[i])):=by
 obtain ⟨h0,⟨rfl,rfl⟩|⟨id,off,kc,c,rfl,hb,h1,h2,h3,h3',h4⟩⟩:=h
 ·simp at hi
 ·obtain ⟨h5,h6⟩:=ru h0 rfl h3 h4 i hi
  refine ⟨id,off+i*e,c,uO (by omega) (by omega),rfl,hb,h1,h2,h5,h6,fun us M hk hM hMo=> ?_⟩
  have hlen:∀y∈C.set i (kD 0 us C[i]),y.length=e:=by
   intro y hy
   rcases List.mem_or_eq_of_mem_set hy with hy|hy
   ·exact h0 y hy
   ·rw[hy,kT];exact h0 _ (List.getElem_mem hi)
  refine ⟨hlen,Or.inr ⟨id,off,kc,_,by rw[List.length_set],hb,hM,hMo,by rw[kT,List.length_set];exact h3,by rw[kT];exact h3', ?_⟩⟩
  rw[List.length_set]
  have hone:∀(k:Nat) (x:NV) (_:k<e) (C:List (List NV)) (_:∀x∈C,x.length=e) (i:Nat) (hi:i<C.length),(C.set i (C[i].set k x)).flatten=C.flatten.set (i*e+k) x:=by
   intro k x hk C
   induction C with
   |nil=>intro _ i hi;simp at hi
   |cons a C ih=>
    intro h i hi
    have ha:=h a (List.mem_cons_self ..)
    cases i with
    |zero=>simp only[List.set_cons_zero,List.flatten_cons,List.getElem_cons_zero,Nat.zero_mul,Nat.zero_add];rw[List.set_append_left _ _ (by omega)]
    |succ i=>
     simp only[List.set_cons_succ,List.flatten_cons,List.getElem_cons_succ]
     rw[ih (fun x hx=>h x (List.mem_cons_of_mem _ hx)) i (by simpa using hi),List.set_append_right _ _ (by rw[ha,Nat.succ_mul];omega),ha,Nat.succ_mul]
     congr 2;omega
  have hall:∀(us:List (Nat×NV)) (_:∀u∈us,u.1<e) (c:List NV) (C:List (List NV)) (_:∀x∈C,x.length=e) (hi:i<C.length),(c.drop off).take (C.length*e)=C.flatten->
   ((kD (off+i*e) us c).drop off).take (C.length*e)=(C.set i (kD 0 us C[i])).flatten:=by
   intro us
   induction us with
   |nil=>intro _ c C _ hi hf;simp[kD];exact hf
   |cons u us ih=>
    obtain ⟨k,x⟩:=u
    intro hk c C hC hi hf
    have hk0:k<e:=hk (k,x) (List.mem_cons_self ..)
    have:=ih (fun u hu=>hk u (List.mem_cons_of_mem _ hu)) (c.set (off+i*e+k) x) (C.set i (C[i].set k x))
     (fun y hy=>by
      rcases List.mem_or_eq_of_mem_set hy with hy|hy
      ·exact hC y hy
      ·rw[hy,List.length_set];exact hC _ (List.getElem_mem hi))
     (by rw[List.length_set];exact hi)
     (by rw[List.length_set,hone k x hk0 C hC i hi,←hf,List.drop_set,Hm (by omega),List.take_set];congr 1;omega)
    rw[List.getElem_set_self,List.set_set] at this
    simp only[List.length_set] at this
    show ((kD (off+i*e) us (c.set (off+i*e+k) x)).drop off).take (C.length*e)=(C.set i (kD 0 us (C[i].set (0+k) x))).flatten
    rw[Nat.zero_add];exact this
  exact hall us hk c C h0 hi h4
theorem Sl.flat (h:Sl m v e C):vG v:=by
 obtain ⟨_,⟨rfl,rfl⟩|⟨id,off,kc,w,c,rfl,_⟩⟩:=h<;>trivial
theorem Sl.same (h:Sl m v e C) {n:Nat}:bC (n+1) v v=true:=mr h.flat
theorem Sl.ssl (h:Sl m v e C) {t:Tm} {lo hi:Option NOpd} {a b:Nat} (hab:a<=b) (hb:b<=C.length) (hlo:∀K:Nat->NR,eU t lo 0 K=K a) (hhi:∀(d:Nat) (K:Nat->NR),d=C.length->eU t hi d K=K b):
 ∃v',pm e t lo hi v= .val v'/\Sl m v' e ((C.drop a).take (b - a))/\(∀i∈ids v',i∈ids v):=by
 obtain ⟨h0,⟨rfl,rfl⟩|⟨id,off,kc,w,c,rfl,h1,h2,h3,h4⟩⟩:=h
 ·simp at hb
  subst hb
  have ha:a=0:=by omega
  subst ha
  refine ⟨.nils, ?_,⟨by simp,Or.inl ⟨rfl,by simp⟩⟩,fun _ h=>h⟩
  rw[vd,hhi 0 _ rfl,hlo];rfl
 ·have hlen:((C.drop a).take (b - a)).length=b - a:=by rw[List.length_take,List.length_drop];omega
  have hall:∀x∈(C.drop a).take (b - a),x.length=e:=fun x hx=>h0 x (List.mem_of_mem_drop (List.mem_of_mem_take hx))
  have hmul:a*e+(b - a)*e<=C.length*e:=by rw[←Nat.add_mul];exact Nat.mul_le_mul_right e (by omega)
  refine ⟨.slc id (off+a*e) (b - a) e (kc - a), ?_,⟨hall,Or.inr ⟨id,off+a*e,kc - a,w,c,by rw[hlen],h1,h2,by rw[hlen];omega, ?_⟩⟩,fun _ h=>h⟩
  ·rw[uW,hhi _ _ rfl,hlo,Aq hab hb]
  ·rw[hlen]
   have e1:(c.drop (off+a*e)).take ((b - a)*e)=(((c.drop off).take (C.length*e)).drop (a*e)).take ((b - a)*e):=by
    rw[List.drop_take,List.take_take,List.drop_drop,Nat.min_eq_left (by omega)]
   rw[e1,h4]
   have e2:C.flatten=(C.take a).flatten++(((C.drop a).take (b - a)).flatten++((C.drop a).drop (b - a)).flatten):=by
    rw[←List.flatten_append,List.take_append_drop,←List.flatten_append,List.take_append_drop]
   have e3:((C.take a).flatten).length=a*e:=by
    rw[fW fun x hx=>h0 x (List.mem_of_mem_take hx),List.length_take,Nat.min_eq_left (by omega)]
   have e4:(((C.drop a).take (b - a)).flatten).length=(b - a)*e:=by rw[fW hall,hlen]
   rw[e2,←e3,List.drop_left,←e4,List.take_left]
theorem gm {c cs:List NV} {off e:Nat} (h:(c.drop off).take e=cs) (k:Nat) (hk:k<e):c[off+k]? =cs[k]? :=by
 rw[←h,List.getElem?_take_of_lt hk,List.getElem?_drop]
end
end Nm
namespace Nm
open Go Go.RowKit
section
variable {L:List (D4×NV)} {t:Tm} {ctx:Option NV} {m:NH} {K:NV->NH->Prop}
theorem A7 {q:Bool}:(q==true)=q:=by cases q<;>rfl
theorem Bq {q:Bool}:(q==false)= !q:=by cases q<;>rfl
theorem aq {l:List (AK×NO)} {k:Nat} {m:NH} {S:List D4} (h:qu l=S):Chg S m (hp l k m):=h▸pR l k m
def yL (f:List NV->List NV) (o:Option (List NV)):Option (List NV):=match o with|some l=>some (f l)|none=>none
theorem BP {f:List NV->List NV} {l:List NV}:yL f (some l)=some (f l):=_root_.id rfl
noncomputable def FV (t:Tm) (ps:List (Nat×Nat×NOpd)) (off k cur:Nat) (l:List NV) (o:Option (List NV)):Option (List NV):=match o with
 |some cs=>if cs.length=k/\cur<=off/\off - cur+k<=l.length then yL (fun r=>l.take (off - cur)++(cs++r)) (bQ t ps (off+k) (l.drop (off - cur+k))) else none
 |none=>none
theorem Dh {t:Tm} {cur:Nat} {l:List NV}:bQ t [] cur l=some l:=_root_.id rfl
theorem vB {α:Type} (K:List α->Option (List α)):∀(k:Nat) (l:List α),ef k K l=if k<=l.length then (match K (l.drop k) with|some r=>some (l.take k++r)|none=>none) else none:=by
 intro k
 induction k with
 |zero=>intro l;show K l=_;simp;cases K l<;>rfl
 |succ k ih=>
  intro l
  cases l with
  |nil=>simp;rfl
  |cons a l=>
   show Option.rec (motive:=fun _=>Option (List α)) none (fun t'=>some (a::t')) (ef k K l)=_
   rw[ih]
   by_cases h:k<=l.length
   ·rw[Hn h,Hn (by simpa using h),List.drop_succ_cons]
    cases K (l.drop k)<;>rfl
   ·rw[Hm h,Hm (by simpa using h)]
theorem FI {t:Tm} {ps:List (Nat×Nat×NOpd)} {off k cur:Nat} {x:NOpd} {l:List NV}:bQ t ((off,k,x)::ps) cur l=oO (ρ t x) fun v=>FV t ps off k cur l (cellsOf v):=by
 show Option.rec (motive:=fun _=>Option (List NV)) none (fun v:NV=>Option.rec (motive:=fun _=>Option (List NV)) none (fun cs=>cp cs fun j=>cond (Nat.beq j k) (cond (Nat.ble cur off)
  (ef (Nat.sub off cur) (fun l=>Option.rec (motive:=fun _=>Option (List NV)) none (fun l=>Option.rec (motive:=fun _=>Option (List NV)) none (fun l=>gt cs l some) (bQ t ps (Nat.add off j) l)) (dn j l)) l) none) none) (cellsOf v)) (ρ t x)=_
 cases ρ t x with
 |none=>rfl
 |some v=>
  show Option.rec (motive:=fun _=>Option (List NV)) none (fun cs=>cp cs fun j=>cond (Nat.beq j k) (cond (Nat.ble cur off)
   (ef (Nat.sub off cur) (fun l=>Option.rec (motive:=fun _=>Option (List NV)) none (fun l=>Option.rec (motive:=fun _=>Option (List NV)) none (fun l=>gt cs l some) (bQ t ps (Nat.add off j) l)) (dn j l)) l) none) none) (cellsOf v)=FV t ps off k cur l (cellsOf v)
  cases cellsOf v with
  |none=>rfl
  |some cs=>
   show cp cs (fun j=>cond (Nat.beq j k) (cond (Nat.ble cur off)
    (ef (Nat.sub off cur) (fun l=>Option.rec (motive:=fun _=>Option (List NV)) none (fun l=>Option.rec (motive:=fun _=>Option (List NV)) none (fun l=>gt cs l some) (bQ t ps (Nat.add off j) l)) (dn j l)) l) none) none)=if cs.length=k/\cur<=off/\off - cur+k<=l.length then _ else _
   rw[bi]
   cases hb:Nat.beq cs.length k with
   |false=>rw[Hm (fun h=>Nat.ne_of_beq_eq_false hb h.1)];rfl
   |true=>
    have hk:=Hs hb
    subst hk
    cases hle:Nat.ble cur off with
    |false=>rw[Hm (fun h=>by rw[Nat.ble_eq_true_of_le h.2.1] at hle;cases hle)];rfl
    |true=>
     have hle:=Nat.le_of_ble_eq_true hle
     show ef (off - cur) (fun l=>Option.rec (motive:=fun _=>Option (List NV)) none (fun l=>Option.rec (motive:=fun _=>Option (List NV)) none (fun l=>gt cs l some) (bQ t ps (off+cs.length) l)) (dn cs.length l)) l=_
     rw[vB]
     by_cases h1:off - cur<=l.length
     ·rw[Hn h1,ew,List.length_drop]
      by_cases h2:cs.length<=l.length - (off - cur)
      ·rw[Hn h2,Hn ⟨rfl,hle,by omega⟩,List.drop_drop]
       dsimp only
       cases bQ t ps (off+cs.length) (l.drop (off - cur+cs.length)) with
       |none=>rfl
       |some r=>dsimp only[yL];rw[eg]
      ·rw[Hm h2,Hm (fun h=>h2 (by omega))]
     ·rw[Hm h1,Hm (fun h=>h1 (by omega))]
theorem CV {t:Tm} {ps:List (Nat×Nat×NOpd)} {off k cur:Nat} {cs l:List NV} (h1:cs.length=k) (h2:cur<=off) (h3:off - cur+k<=l.length):
 FV t ps off k cur l (some cs)=yL (fun r=>l.take (off - cur)++(cs++r)) (bQ t ps (off+k) (l.drop (off - cur+k))):=Hn ⟨h1,h2,h3⟩
theorem bu.wf' {P:Program} {E:NV->NH->Prop} {S:bP} {f:Nat} {args:List NV} {m m':NH} {v:NV} (h:bu P S f args m v m') {K:NV->NH->Prop}:WF ⟨P,E⟩ S f args m K=K v m':=by
 rw[h.wf,aO]
theorem Ef {k:IntKind} {x:SI}:cellsOf (.int k x)=some [.int k x]:=_root_.id rfl
theorem Dy {l:List Nat}:cellsOf (.str l)=some [.str l]:=_root_.id rfl
theorem EF {l:List NV}:cellsOf (.agg l)=some l:=_root_.id rfl
noncomputable def Eh (m:NH) (o:Option (List NV)):NR:=match o with|some cs=> .mem (.ptr m.next 0) (m.add (.cells true cs))|none=> .fail
theorem D6 {t:Tm} {m:NH} {x:NOpd} {ty:Nat}:af (.box x ty) t m=oN (ρ t x) fun v=>Eh m (cellsOf v):=B2
theorem EH {m:NH} {cs:List NV}:Eh m (some cs)= .mem (.ptr m.next 0) (m.add (.cells true cs)):=_root_.id rfl
abbrev ii (z:Int):NV:= .int .i64 (.lit z)
end
end Nm
namespace Nm
open Go Go.RowKit
def AF (P:Program) (S:bP) (q:D4) (args:List NV) (m:NH) (v:NV) (m':NH):Prop:=∃c,An P S q args m (.val v c m')
def WY (P:Program) (S:bP) (q:D4) (args:List NV) (m:NH) (K:NV->NH->Prop):Prop:=∃v c m',An P S q args m (.val v c m')/\K v m'
section
variable {P:Program} {S:bP} {f:Nat} {q:D4} {args:List NV} {m:NH}
section
variable {K:NV->NH->Prop} {st:Nat} {p:Jump} {tm:NT NV} {ps:List D4} {a b:NC} {i:Nat}
end
theorem WY.ret {K:NV->NH->Prop} (h:WY P S q args m K):∃v m',AF P S q args m v m'/\K v m':=by
 obtain ⟨v,c,m',hc,hk⟩:=h;exact ⟨v,m',⟨c,hc⟩,hk⟩
theorem WY.ex {Φ:NV->NH->Prop} (h:∀K:NV->NH->Prop,(∀v m',Φ v m'->K v m')->WY P S q args m K):∃v m',AF P S q args m v m'/\Φ v m':=(h Φ fun _ _ h=>h).ret
theorem WF.ex {Φ:NV->NH->Prop} (h:∀K:NV->NH->Prop,(∀v m',Φ v m'->K v m')->WF P S f args m K):∃v m',bu P S f args m v m'/\Φ v m':=(h Φ fun _ _ h=>h).ret
def nU (ks:List D4) (t t':Tm):Prop:=∀k,k∉ks->NT.get k t'=NT.get k t
theorem nU.refl (ks:List D4) (t:Tm):nU ks t t:=fun _ _=>rfl
theorem nU.get {ks:List D4} {t t':Tm} (h:nU ks t t') {k:D4} {v:Option NV} (g:NT.get k t=v) (hk:k∉ks):NT.get k t'=v:=(h k hk).trans g
theorem nU.trans {ks ls:List D4} {a b c:Tm} (h:nU ks a b) (h':nU ls b c) (hs:∀k∈ls,k∈ks):nU ks a c:=fun k hk=>(h' k fun q=>hk (hs k q)).trans (h k hk)
theorem W.range {cap:List NV} {fx:NOpd} {ps:List D4} {a b:NC} {t:Tm} {dfs:List Dfr} {ctx:Option NV} {Q:Out->Dyn->Prop} {M m':NH} {v:NV}
 (hf:ρ t fx=some (.fn f cap)) {x:D4} (hx:m.next=x) {y:D4} (hy:(m.add (.defd true)).next=y) (hM:(m.add (.defd true)).add (.loop 0 .none t ps a b)=M) (hc:bu P S f (.yld y::cap) M v m')
 {tm:NT NV} {ps':List D4} {a' b':NC} (hl:m'.get y=some (.loop 0 .none tm ps' a' b')) (hQ:Q .norm ⟨t,.mark x::dfs,ctx,hp [] 0 (m'.put y (.loop 3 .none tm ps' a' b'))⟩):
 W P S none (.rangeFunc fx ps a b) ⟨t,dfs,ctx,m⟩ Q:=by
 subst hx hy hM
 rw[aO] at hQ
 obtain ⟨c,hc⟩:=hc
 refine ⟨.norm,_,dd.range hf hc ?_,hQ⟩
 unfold dW
 rw[hl]
 dsimp only
 rw[show Nat.beq 0 1=false from rfl,cond_false,NH.set_eq]
end
end Nm
namespace Nm
open Go Go.RowKit
section
variable (P:PE) (S:bP) (r:Option D4)
def Fm (c:NC) (Q:Out->Dyn->Prop) (d:Dyn):Prop:=wp P S r c d Q
def Am (dst:Option D4) (t:Tm) (dfs:List Dfr) (ctx:Option NV) (m:NH) (x:NR) (l:List NOper) (K:Dyn->Prop):Prop:=wN P S dst t dfs ctx m x fun d=>wO P S l d K
def Ag (dst:Option D4) (t:Tm) (dfs:List Dfr) (ctx:Option NV) (l:List NOper) (K:Dyn->Prop) (v:NV) (m:NH):Prop:=wO P S l ⟨aC dst v t,dfs,ctx,m⟩ K
def gA (dst:Option D4) (op:NOp) (l:List NOper) (K:Dyn->Prop) (d:Dyn):Prop:=Am P S dst d.t d.dfs d.ctx d.h (af op d.t d.h) l K
def gB (dst:Option D4) (l:List NOper) (K:Dyn->Prop) (d:Dyn):Prop:=wO P S l ⟨aC dst aL d.t,d.dfs,d.ctx,d.h⟩ K
def dA (dst:Option D4) (op:NOp) (pre idx:Nat) (l:List NOper) (hs:List (Nat×NH)) (rs:List (Nat×(NH->NR)×NV)) (K:Dyn->Prop) (d:Dyn):Prop:=wX (ak op) (af op d.t d.h) P S (af op d.t) dst pre idx l hs rs d K
def dB (dst:Option D4) (l:List NOper) (hs:List (Nat×NH)) (rs:List (Nat×(NH->NR)×NV)) (K:Dyn->Prop) (d:Dyn):Prop:=wD P S l hs rs ⟨aC dst aL d.t,d.dfs,d.ctx,d.h⟩ K
def Fi (pre idx:Nat) (m:NH) (l:List NOper) (hs:List (Nat×NH)) (rs:List (Nat×(NH->NR)×NV)) (K:Dyn->Prop) (d:Dyn):Prop:=aU pre d.h rs=true/\wD P S l ((idx,m)::hs) rs d K
def zW (dst:Option D4) (t:Tm) (dfs:List Dfr) (ctx:Option NV) (K:Dyn->Prop) (v:NV) (m:NH):Prop:=K ⟨aC dst v t,dfs,ctx,m⟩
end
section
variable {P:PE} {S:bP} {r:Option D4} {dst:Option D4} {op:NOp} {pre idx:Nat} {l:List NOper} {hs:List (Nat×NH)} {rs:List (Nat×(NH->NR)×NV)}
 {L:List (D4×NV)} {t:Tm} {dfs:List Dfr} {ctx:Option NV} {m m':NH} {v:NV} {k g:D4} {d:Dyn} {Q:Out->Dyn->Prop} {K:Dyn->Prop} {b:Bool}
theorem D8 {x y:NC}:wp P S r (.seq x y) d Q=wp P S r x d (lc (Fm P S r y Q) Q):=_root_.id rfl
theorem Fd {c:NC}:Fm P S r c Q d=wp P S r c d Q:=_root_.id rfl
theorem AD {g:NOpd} {x y:NC}:wp P S r (.cond g x y) ⟨aG L t,dfs,ctx,m⟩ Q=wC (ρ (aG L t) g) (Fm P S r x Q) (Fm P S r y Q) ⟨aG L t,dfs,ctx,m⟩:=_root_.id rfl
theorem Ca:wO P S (⟨dst,op,none,pre,idx⟩::l) ⟨aG L t,dfs,ctx,m⟩ K=Am P S dst (aG L t) dfs ctx m (af op (aG L t) m) l K:=_root_.id rfl
theorem Ex:Am P S (some k) (aG L t) dfs ctx m (.val v) l K=wO P S l ⟨aG ((k,v)::L) t,dfs,ctx,m⟩ K:=_root_.id rfl
theorem DT:Am P S (some k) (aG L t) dfs ctx m (.mem v m') l K=wO P S l ⟨aG ((k,v)::L) t,dfs,ctx,m'⟩ K:=_root_.id rfl
theorem CF:Am P S none (aG L t) dfs ctx m (.mem v m') l K=wO P S l ⟨aG L t,dfs,ctx,m'⟩ K:=_root_.id rfl
theorem AJ {f:Nat} {args:List NV}:Am P S dst t [] ctx m (.call f args) l K=WF P S f args m (Ag P S dst t [] ctx l K):=_root_.id rfl
theorem xz:Ag P S (some k) (aG L t) dfs ctx l K v m=wO P S l ⟨aG ((k,v)::L) t,dfs,ctx,m⟩ K:=_root_.id rfl
theorem yv:wO P S (⟨dst,op,some (g,b),pre,idx⟩::l) ⟨aG L t,dfs,ctx,m⟩ K=wG (eu g L (NT.get g t)) b (gA P S dst op l K) (gB P S dst l K) ⟨aG L t,dfs,ctx,m⟩:=yj
theorem F8:gA P S dst op l K ⟨aG L t,dfs,ctx,m⟩=Am P S dst (aG L t) dfs ctx m (af op (aG L t) m) l K:=_root_.id rfl
theorem F5:gB P S (some k) l K ⟨aG L t,dfs,ctx,m⟩=wO P S l ⟨aG ((k,aL)::L) t,dfs,ctx,m⟩ K:=_root_.id rfl
theorem wH:wD P S (⟨dst,op,some (g,b),pre,idx⟩::l) hs rs ⟨aG L t,dfs,ctx,m⟩ K=wG (eu g L (NT.get g t)) b (dA P S dst op pre idx l hs rs K) (dB P S dst l hs rs K) ⟨aG L t,dfs,ctx,m⟩:=vI
theorem GD:dA P S dst op pre idx l hs rs K ⟨aG L t,dfs,ctx,m⟩=wX (ak op) (af op (aG L t) m) P S (af op (aG L t)) dst pre idx l hs rs ⟨aG L t,dfs,ctx,m⟩ K:=_root_.id rfl
theorem FK:dB P S (some k) l hs rs K ⟨aG L t,dfs,ctx,m⟩=wD P S l hs rs ⟨aG ((k,aL)::L) t,dfs,ctx,m⟩ K:=_root_.id rfl
def GS (b:Bool) (P:PE) (S:bP) (dst:Option D4) (t:Tm) (dfs:List Dfr) (ctx:Option NV) (m:NH) (x:NR) (K:Dyn->Prop):Prop:=FS P S b dst t dfs ctx m x K
section
variable {f:NH->NR}
theorem Cu {x:NR}:wX .eff x P S f dst pre idx l hs rs ⟨t,dfs,ctx,m⟩ K=(ahead pre hs=true/\GS (lO hs idx l) P S dst t dfs ctx m x (Fi P S pre idx m l hs rs K)):=_root_.id rfl
end
theorem yI:GS b P S none (aG L t) dfs ctx m (.mem v m') K=K ⟨aG L t,dfs,ctx,m'⟩:=by cases b<;>rfl
theorem vt {P:Program} {f:Nat} {args:List NV}:GS b P S dst t dfs ctx m (.call f args) K=WF P S f args m (zW dst t dfs ctx K):=by cases b<;>cases dfs<;>rfl
theorem Cy {x:Nat×NH} {i:Nat}:lO (x::hs) i l=false:=_root_.id rfl
theorem yR {i:Nat}:lO [] i l=bk i l:=_root_.id rfl
theorem Bh {i:Nat}:bk i []=true:=_root_.id rfl
theorem Eo {i:Nat} {g:Option (D4×Bool)}:bk i (⟨dst,op,g,pre,idx⟩::l)=cond (Nat.testBit pre i) (bk i l) false:=_root_.id rfl
theorem zf:zW (some k) (aG L t) dfs ctx K v m=K ⟨aG ((k,v)::L) t,dfs,ctx,m⟩:=_root_.id rfl
theorem Cj {m0:NH}:Fi P S pre idx m0 l hs rs K ⟨t,dfs,ctx,m⟩=(aU pre m rs=true/\wD P S l ((idx,m0)::hs) rs ⟨t,dfs,ctx,m⟩ K):=_root_.id rfl
theorem xS {e a b:Nat} {C:List (List NV)} {lo hi:Option NOpd} (h:Sl m v e C) (hab:a<=b) (hb:b<=C.length) (hlo:∀K:Nat->NR,eU (aG L t) lo 0 K=K a) (hhi:∀(d:Nat) (K:Nat->NR),d=C.length->eU (aG L t) hi d K=K b)
 (hK:∀v',Sl m v' e ((C.drop a).take (b - a))->(∀i∈ids v',i∈ids v)->wO P S l ⟨aG ((k,v')::L) t,dfs,ctx,m⟩ K):Am P S (some k) (aG L t) dfs ctx m (pm e (aG L t) lo hi v) l K:=by
 obtain ⟨v',h1,h2,h3⟩:=h.ssl hab hb hlo hhi
 rw[h1];exact hK v' h2 h3
end
end Nm
namespace Nm
open Go Go.RowKit
section
variable {t:Tm} {m:NH}
def Aa (v:NV):NR:=match v with| .str s=> .val (.int .i64 (.lit (s.length:Int)))|_=> .fail
theorem BO {x:NOpd}:af (.lenStr x) t m=oN (ρ t x) Aa:=by
 show wV t x (fun v=>match v with| .str s=>cp s fun n=> .val (.int .i64 (.lit (.ofNat n)))|_=> .fail)=_
 rw[bT]
 congr 1
 funext v
 cases v with
 |str s=>exact bi s (fun n=>NR.val (.int .i64 (.lit (.ofNat n))))
 |_=>rfl
theorem yq {s:List Nat}:Aa (.str s)= .val (.int .i64 (.lit (s.length:Int))):=_root_.id rfl
noncomputable def Cw (v i:NV):NR:=aT (gG i) fun i=>match v with| .str s=>aT s[i]? fun b=> .val (.int .u8 (.lit (.ofNat b)))|_=> .fail
theorem CW {x i:NOpd}:af (.indexStr x i) t m=oN (ρ t x) fun v=>oN (ρ t i) fun i=>Cw v i:=by
 show wV t x (fun v=>cV t i fun i=>match v with
  | .str s=>aT (hH s i) fun b=> .val (.int .u8 (.lit (.ofNat b)))
  |_=> .fail)=_
 rw[bT]
 congr 1
 funext v
 unfold cV
 rw[bT]
 congr 1
 funext i
 unfold Cw
 congr 1
 funext i
 cases v with
 |str s=>dsimp only;rw[dC]
 |_=>rfl
def CK (o:Option Nat):NR:=match o with|some b=> .val (.int .u8 (.lit (b:Int)))|none=> .fail
theorem Ff {s:List Nat} {k:IntKind} {z:Int} (h0:0<=z):Cw (.str s) (.int k (.lit z))=CK s[z.toNat]? :=by
 obtain ⟨i,rfl⟩:=Ht h0
 show aT s[i]? (fun b=> .val (.int .u8 (.lit (.ofNat b))))=CK s[i]?
 cases s[i]? <;>rfl
theorem Br {b:Nat}:CK (some b)= .val (.int .u8 (.lit (b:Int))):=_root_.id rfl
noncomputable def zx (s:List Nat) (a b:Nat):NR:=cond (Nat.ble a b) (aT (iB b s) fun s=>aT (dn a s) fun s=> .val (.str s)) .fail
noncomputable def CH (t:Tm) (lo hi:Option NOpd) (v:NV):NR:=match v with
 | .str s=>eU t hi s.length fun b=>eU t lo 0 fun a=>zx s a b
 |_=> .fail
theorem EB {x:NOpd} {lo hi:Option NOpd}:af (.sliceStr x lo hi) t m=oN (ρ t x) (CH t lo hi):=by
 show wV t x (fun v=>match v with
  | .str s=>cp s fun n=>cB t hi n fun b=>cB t lo 0 fun a=>cond (Nat.ble a b) (aT (iB b s) fun s=>aT (dn a s) fun s=> .val (.str s)) .fail
  |_=> .fail)=_
 rw[bT]
 congr 1
 funext v
 cases v with
 |str s=>
  dsimp only[CH]
  rw[bi,dH]
  congr 1
  funext b
  rw[dH]
  rfl
 |_=>rfl
theorem A8 {s:List Nat} {lo hi:Option NOpd}:CH t lo hi (.str s)=eU t hi s.length fun b=>eU t lo 0 fun a=>zx s a b:=_root_.id rfl
theorem D0 {s:List Nat} {a b:Nat} (h:a<=b) (h':b<=s.length):zx s a b= .val (.str ((s.take b).drop a)):=by
 unfold zx
 rw[Nat.ble_eq_true_of_le h,fA,Hn h']
 show aT (dn a (s.take b)) _=_
 rw[ew,Hn (by rw[List.length_take];omega)];rfl
theorem z8 {a b:List Nat}:cT .num .eql (.str a) (.str b)=some (.bool (decide (a=b))):=by
 show aW (pB a b)=_
 rw[aD]
 congr 2
 rw[Bool.eq_iff_iff,decide_eq_true_eq]
 constructor
 ·intro h
  induction a generalizing b with
  |nil=>cases b with
   |nil=>rfl
   |cons=>cases h
  |cons x a ih=>cases b with
   |nil=>cases h
   |cons y b=>
    change cond (Nat.beq x y) (pB a b) false=true at h
    cases hxy:Nat.beq x y with
    |false=>rw[hxy] at h;cases h
    |true=>rw[hxy] at h;rw[Hs hxy,ih h]
 ·rintro rfl;exact oL a
theorem DE {a b:List Nat}:cT .num .neq (.str a) (.str b)=some (.bool (decide (a≠b))):=by
 have:=z8 (a:=a) (b:=b)
 change aW (pB a b)=_ at this
 show aW (dx (pB a b))=_
 rw[aD] at this ⊢
 injection this with this
 injection this with this
 rw[this,bH]
 by_cases h:a=b<;>simp[h]
theorem Cf {a b:List Nat} (h:a.length+b.length<=1099511627776):cT .num .add (.str a) (.str b)=some (.str (a++b)):=by
 show gt a b (fun l=>cp l fun n=>cond (Nat.ble n 1099511627776) (some (NV.str l)) none)=_
 rw[eg,bi,Nat.ble_eq_true_of_le (by rw[List.length_append];exact h)];rfl
theorem wrap_u64 {n:Int}:bF .u64 n=n % 18446744073709551616:=by rw[be];rfl
noncomputable def De (k:IntKind) (v:NV):NR:=match v with| .int _ (.lit n)=> .val (.int k (.lit (bF k n)))| .int _ (.sym c ts)=>vr (fM k c ts)|_=> .fail
theorem D3 {k:IntKind} {x:NOpd}:af (.toInt k x) t m=oN (ρ t x) (De k):=by
 show wV t x (fun v=>match v with| .int _ (.lit n)=>vr (bL k (bF k n))| .int _ (.sym c ts)=>vr (fM k c ts)|_=> .fail)=_
 rw[bT]
 congr 1
 funext v
 cases v with
 |int k' x=>cases x with
  |lit n=>show vr (bL k (bF k n))=_;rw[aQ];rfl
  |_=>rfl
 |_=>rfl
theorem Az {k:IntKind} {n:Int}:De .u64 (.int k (.lit n))= .val (.int .u64 (.lit (n % 18446744073709551616))):=by show NR.val (.int .u64 (.lit (bF .u64 n)))=_;rw[wrap_u64]
noncomputable def Ak (v:NV):NR:=match v with| .ptr i o=> .val (.ptr i o)| .fn f c=> .val (.fn f c)| .yld l=> .val (.yld l)|_=> .fail
theorem AE {x:NOpd}:af (.nilCheck x) t m=oN (ρ t x) Ak:=by
 show wV t x _=_
 rw[bT]
 cases ρ t x with
 |none=>rfl
 |some v=>cases v<;>rfl
theorem yi {i:D4} {o:Nat}:Ak (.ptr i o)= .val (.ptr i o):=_root_.id rfl
noncomputable def rR (x:NR) (K:NV->Prop):Prop:=match x with| .val v=>K v|_=>False
noncomputable def pa (t:Tm) (m:NH):List NRes->(List NV->Prop)->Prop
 | [],K=>K []
 | .tmp k::l,K=>rK (NT.get k t) fun v=>pa t m l fun vs=>K (v::vs)
 | .cell1 k::l,K=>rR (af (.load1 (.tmp k)) t m) fun v=>pa t m l fun vs=>K (v::vs)
 | .cellN k n::l,K=>rR (af (.loadN n (.tmp k)) t m) fun v=>pa t m l fun vs=>K (v::vs)
theorem w6:∀(rs:List NRes) (K:List NV->Prop) (G:List NV->CR),pa t m rs K->∃l,cI m t rs .fail G=G l/\K l:=by
 intro rs
 induction rs with
 |nil=>intro K G h;exact ⟨[],rfl,h⟩
 |cons r rs ih=>
  intro K G h
  cases r with
  |tmp k=>
   cases hv:NT.get k t with
   |none=>unfold pa at h;rw[hv] at h;exact h.elim
   |some v=>
    unfold pa at h;rw[hv] at h
    obtain ⟨l,h1,h2⟩:=ih (fun vs=>K (v::vs)) (fun l=>G (v::l)) h
    refine ⟨v::l, ?_,h2⟩
    show (match (match NT.get k t with|some v=>NR.val v|none=> .fail) with| .val v=>cI m t rs .fail (fun l=>G (v::l))|_=> .fail)=_
    rw[hv];exact h1
  |cell1 k=>
   cases hv:af (.load1 (.tmp k)) t m with
   |val v=>
    unfold pa at h;rw[hv] at h
    obtain ⟨l,h1,h2⟩:=ih (fun vs=>K (v::vs)) (fun l=>G (v::l)) h
    refine ⟨v::l, ?_,h2⟩
    change d9 (.tmp k) t m= .val v at hv
    show (match d9 (.tmp k) t m with| .val v=>cI m t rs .fail (fun l=>G (v::l))|_=> .fail)=_
    rw[hv];exact h1
   |_=>unfold pa at h;rw[hv] at h;exact h.elim
  |cellN k n=>
   cases hv:af (.loadN n (.tmp k)) t m with
   |val v=>
    unfold pa at h;rw[hv] at h
    obtain ⟨l,h1,h2⟩:=ih (fun vs=>K (v::vs)) (fun l=>G (v::l)) h
    refine ⟨v::l, ?_,h2⟩
    change ee n (.tmp k) t m= .val v at hv
    show (match ee n (.tmp k) t m with| .val v=>cI m t rs .fail (fun l=>G (v::l))|_=> .fail)=_
    rw[hv];exact h1
   |_=>unfold pa at h;rw[hv] at h;exact h.elim
def CM (rs:List NRes) (K:NV->NH->Prop) (o:Out) (d:Dyn):Prop:=(o= .norm∨o= .ret)/\d.dfs= []/\pa d.t d.h rs fun l=>K (jO l) d.h
theorem Av {rs:List NRes} {K:NV->NH->Prop} {o:Out} {d:Dyn} (h:CM rs K o d):FU rs K o d:=by
 obtain ⟨h1,h2,h3⟩:=h
 obtain ⟨l,h4,h5⟩:=w6 rs _ (fun l=> .val (jO l) d.ctx d.h) h3
 exact ⟨h1,h2,jO l,h4,h5⟩
theorem Ba {rs:List NRes} {K:NV->NH->Prop} {ctx:Option NV}:CM rs K .ret ⟨t, [],ctx,m⟩=pa t m rs (fun l=>K (jO l) m):=propext ⟨fun h=>h.2.2,fun h=>⟨.inr rfl,rfl,h⟩⟩
theorem Ek {K:List NV->Prop}:pa t m [] K=K []:=_root_.id rfl
theorem DO {K:List NV->Prop} {k:D4} {l:List NRes}:pa t m (.tmp k::l) K=rK (NT.get k t) fun v=>pa t m l fun vs=>K (v::vs):=_root_.id rfl
theorem Dt {K:List NV->Prop} {k:D4} {n:Nat} {l:List NRes}:pa t m (.cellN k n::l) K=rR (af (.loadN n (.tmp k)) t m) fun v=>pa t m l fun vs=>K (v::vs):=_root_.id rfl
theorem FH {v:NV} {K:NV->Prop}:rR (.val v) K=K v:=_root_.id rfl
theorem yW {v:NV}:jO [v]=v:=_root_.id rfl
theorem yM {a b:NV} {l:List NV}:jO (a::b::l)= .tup (a::b::l):=_root_.id rfl
theorem WF.of_wpG {P:Program} {E:NV->NH->Prop} {S:bP} {f:Nat} {args:List NV} {nf:NFun} (hs:∀l,S f l=fun _=>none) (hf:am P f=some (.code nf)) {K:NV->NH->Prop} {L:List (D4×NV)} (hL:dv args 0 .leaf=aG L .leaf)
 (h:wp ⟨P,E⟩ S none nf.body ⟨aG L .leaf, [],none,hp [] 0 m⟩ (CM nf.results K)):WF ⟨P,E⟩ S f args m K:=by
 rw[aO] at h
 obtain ⟨o,d,h1,h2⟩:=eA _ _ _ h
 rw[←hL] at h1
 cases o with
 |pan v=>exact Or.inr ⟨v,d.ctx,d.h,Call.of_pan hs hf h1 h2.1,h2.2⟩
 |_=>
  obtain ⟨ho,hd,v,hv,hK⟩:=Av h2
  exact Or.inl ⟨v,d.ctx,d.h,Call.of_run hs hf ho h1 hd hv (by simp),hK⟩
theorem bu.ext {P:Program} {S:bP} {f:Nat} {args:List NV} {e:Ext} {v:NV} (hs:S f args=fun _=>none) (hf:am P f=some (.ext e)) (hv:hV e args=some v):bu P S f args m v m:=by
 refine ⟨none,by simp,0, ?_⟩
 unfold bA
 rw[hs]
 dsimp only
 rw[hf]
 dsimp only
 rw[hv]
end
end Nm
namespace Nm
open Go Go.RowKit
section
variable {t:Tm} {m:NH}
end
end Nm
namespace Nm
open Go Go.RowKit
section
variable {P:Program} {S:bP}
end
section
variable {P:PE} {S:bP} {dst:D4} {L:List (D4×NV)} {t:Tm} {dfs:List Dfr} {ctx:Option NV} {l:List NOper} {K:Dyn->Prop} {B m:NH} {v:NV} {e:Nat} {C:List (List NV)} {x:D4} {w:Bool} {cs:List NV} {kc bytes:Nat}
end
section
variable {P:Program} {S:bP} {f:Nat} {args:List NV} {m:NH} {K:NV->NH->Prop}
variable {E:NV->NH->Prop}
end
section
variable {P:PE} {S:bP} {r:Option D4} {a b:NC} {d:Dyn} {Q:Out->Dyn->Prop}
end
section
variable {P:Program} {S:bP} {q:D4} {args:List NV} {m:NH} {K:NV->NH->Prop}
end
section
variable {P:Program} {S:bP} {f:Nat} {q:D4} {args:List NV} {m:NH}
theorem WF.ex1 {v:NV} {Φ:NH->Prop} (h:∀K:NV->NH->Prop,(∀m',Φ m'->K v m')->WF P S f args m K):∃m',bu P S f args m v m'/\Φ m':=by
 obtain ⟨w,m',h1,rfl,h2⟩:=WF.ret (h (fun w m'=>w=v/\Φ m') fun m' h=>⟨rfl,h⟩)
 exact ⟨m',h1,h2⟩
theorem WY.ex1 {v:NV} {Φ:NH->Prop} (h:∀K:NV->NH->Prop,(∀m',Φ m'->K v m')->WY P S q args m K):∃m',AF P S q args m v m'/\Φ m':=by
 obtain ⟨w,m',h1,rfl,h2⟩:=WY.ret (h (fun w m'=>w=v/\Φ m') fun m' h=>⟨rfl,h⟩)
 exact ⟨m',h1,h2⟩
end
end Nm
namespace Nm
open Go Go.RowKit
def mh (P:Program):List Field->Nat->Nat->Bool
 | [],o,n=>o==n
 |f::fs,o,n=>(f.offset==o)&&mh P fs (o+P.cellsOf f.type) n
def hY (P:Program) (T:List TypeId) (t:TypeId):Bool:=match P.underlying t with
 |some .bool|some (.int _)|some .string=>true
 |some (.slice e)=>T.contains e&&decide (0<P.cellsOf e)
 |some (.struct fs)=>fs.toList.all (fun f=>T.contains f.type)&&mh P fs.toList 0 (P.cellsOf t)
 |_=>false
def rC (P:Program) (T:List TypeId):Bool:=T.all (hY P T)
mutual
inductive Ty (P:Program) (m:NH):TypeId->List NV->Prop
 |bool {t:TypeId} (ht:P.underlying t=some .bool) (b:Bool):Ty P m t [.bool b]
 |int {t:TypeId} {k:IntKind} (ht:P.underlying t=some (.int k)) (n:Int) (h:(Lit.int k n).wf=true):Ty P m t [.int k (.lit n)]
 |str {t:TypeId} (ht:P.underlying t=some .string) (l:List Nat) (h:∀b∈l,b<256) (hl:l.length<=maxLen):Ty P m t [.str l]
 |slc {t e:TypeId} (ht:P.underlying t=some (.slice e)) (v:NV) (C:List (List NV)) (hS:Sl m v (P.cellsOf e) C) (hl:C.length<=maxLen) (h:∀c∈C,Ty P m e c):Ty P m t [v]
 |struct {t:TypeId} {fs:Array Field} (ht:P.underlying t=some (.struct fs)) (l:List NV) (h:TyL P m (fs.toList.map (·.type)) l):Ty P m t l
inductive TyL (P:Program) (m:NH):List TypeId->List NV->Prop
 |nil:TyL P m [] []
 |cons {t:TypeId} {ts:List TypeId} (a b:List NV) (h:Ty P m t a) (hl:TyL P m ts b):TyL P m (t::ts) (a++b)
end
mutual
theorem Ty.grew {P:Program} {m m':NH} (hC:Chg [] m m'):∀{t:TypeId} {l:List NV},Ty P m t l->Ty P m' t l
 |_,_,.bool ht b=> .bool ht b
 |_,_,.int ht n h=> .int ht n h
 |_,_,.str ht l h hl=> .str ht l h hl
 |_,_,.slc ht v C hS hl h=> .slc ht v C (hS.grew hC) hl (fun c hc=>(h c hc).grew hC)
 |_,_,.struct ht l h=> .struct ht l (TyL.grew hC h)
theorem TyL.grew {P:Program} {m m':NH} (hC:Chg [] m m'):∀{ts:List TypeId} {l:List NV},TyL P m ts l->TyL P m' ts l
 |_,_,.nil=> .nil
 |_,_,.cons a b h hl=> .cons a b (h.grew hC) (TyL.grew hC hl)
end
section
variable [Val]
def Ro (P:Program) (W:World) (ι:aE) (m:NH):Prop:=Rel P ι W.heap.size m W/\∀i p,ι i=some p->¬Live (m.get i)
def ext (ι:aE) (i:D4) (p:Pl):aE:=fun j=>if j.toNat=i.toNat then some p else ι j
theorem Ro.addE {P:Program} {W:World} {ι:aE} {m:NH} (h:Ro P W ι m) {b o:Nat} {c:List NV} {cur:Array Value} {T:TypeId} {fz:Nat×Nat} (hb:W.heap[b]? =some (.cells cur T fz)) (hn:o+c.length<=cur.size)
 (hc:∀i v,c[i]? =some v->∃v',cur[o+i]? =some v'/\VR ι v v'/\v'.oneCell'=true):
 ∃ι',Ro P W ι' (m.add (.cells false c))/\ι.le ι'/\Chg [] m (m.add (.cells false c))/\ι' m.next=some ⟨b,o,cur.size⟩/\(m.add (.cells false c)).get m.next=some (.cells false c)/\bU (m.add (.cells false c)) m.next:=by
 obtain ⟨hR,hL⟩:=h
 have hold:∀i p,ι i=some p->bU m i:=fun i p hi=>by
  obtain ⟨x,hx,_⟩:=hR.obj i p hi
  exact hR.fresh i x hx
 have hext:∀i p,ι i=some p->ext ι m.next ⟨b,o,cur.size⟩ i=some p:=fun i p hi=>by
  unfold ext;rw[Hm (Nat.ne_of_lt (hold i p hi))];exact hi
 have hle:ι.le (ext ι m.next ⟨b,o,cur.size⟩):=hext
 have hinv:∀i p,ext ι m.next ⟨b,o,cur.size⟩ i=some p->(i=m.next/\p=⟨b,o,cur.size⟩)∨(ι i=some p/\i≠m.next):=fun i p hi=>by
  unfold ext at hi
  by_cases e:i.toNat=m.next.toNat
  ·rw[Hn e] at hi;injection hi with hi;exact Or.inl ⟨D4.toNat_inj e,hi.symm⟩
  ·rw[Hm e] at hi;exact Or.inr ⟨hi,fun q=>e (by rw[q])⟩
 have hnl:∀i p,ext ι m.next ⟨b,o,cur.size⟩ i=some p->¬Live ((m.add (.cells false c)).get i):=fun i p hi=>by
  rcases hinv i p hi with ⟨rfl,_⟩|⟨hi,hne⟩
  ·rw[NH.get_add_same];exact fun q=>q.2 c rfl
  ·rw[NH.get_add_ne _ _ hne];exact hL i p hi
 refine ⟨ext ι m.next ⟨b,o,cur.size⟩,⟨⟨?_, ?_, ?_, ?_, ?_,hR.gl.mono hle⟩,hnl⟩,hle,Chg.add m _,by unfold ext;rw[Hn rfl],NH.get_add_same m _,fm m _⟩
 ·intro i p hi
  rcases hinv i p hi with ⟨rfl,rfl⟩|⟨hi,hne⟩
  ·refine ⟨.cells false c,NH.get_add_same m _, ?_⟩
   show ∃(cur':Array Value) (T:TypeId) (fz:Nat×Nat),W.heap[b]? =some (.cells cur' T fz)/\(false=true->fz=(0,0))/\cur'.size=cur.size/\o+c.length<=cur.size/\∀i v,c[i]? =some v->∃v',cur'[o+i]? =some v'/\VR (ext ι m.next ⟨b,o,cur.size⟩) v v'/\v'.oneCell'=true
   refine ⟨cur,T,fz,hb,fun q=>Bool.noConfusion q,rfl,hn,fun i v hv=> ?_⟩
   obtain ⟨v',h1,h2,h3⟩:=hc i v hv
   exact ⟨v',h1,h2.mono hle,h3⟩
  ·obtain ⟨x,h1,h2⟩:=hR.obj i p hi
   exact ⟨x,(NH.get_add_ne m _ hne).trans h1,h2.mono hle rfl⟩
 ·intro i j p q hi hj hne hl _
  exact Hl hl (hnl i p hi)
 ·intro i p hi hl;exact Hl hl (hnl i p hi)
 ·intro i p hi
  rcases hinv i p hi with ⟨rfl,rfl⟩|⟨hi,_⟩
  ·exact (Array.getElem?_eq_some_iff.mp hb).1
  ·exact hR.lt i p hi
 ·intro i x hx
  by_cases e:i=m.next
  ·subst e;exact fm m _
  ·rw[NH.get_add_ne _ _ e] at hx
   exact (Chg.add m (.cells false c)).old (hR.fresh i x hx)
theorem Ro.add {P:Program} {W:World} {ι:aE} {m:NH} (h:Ro P W ι m) {b o:Nat} {c:List NV} {cur:Array Value} {T:TypeId} {fz:Nat×Nat} (hb:W.heap[b]? =some (.cells cur T fz)) (hn:o+c.length<=cur.size)
 (hc:∀i v,c[i]? =some v->∃v',cur[o+i]? =some v'/\VR ι v v'/\v'.oneCell'=true):
 ∃ι' m',Ro P W ι' m'/\ι.le ι'/\Chg [] m m'/\ι' m.next=some ⟨b,o,cur.size⟩/\m'.get m.next=some (.cells false c)/\bU m' m.next:=by
 obtain ⟨ι',h⟩:=h.addE hb hn hc
 exact ⟨ι',_,h⟩
theorem Ro.nil (P:Program) (W:World) (hw:NG<=W.heap.size):Ro P W ι0 G0:=⟨Dd P W hw,fun i p h=>by rw[iw h];exact dg⟩
omit [Val] in
theorem wu (a:Addr) (j:Nat):(a.add j).block=a.block:=by unfold Addr.add;split<;>rfl
omit [Val] in
theorem Cd (a:Addr) (j:Nat):(a.add j).off=a.off+j:=by
 unfold Addr.add;split
 ·rename_i h;subst h;rfl
 ·rfl
omit [Val] in
theorem qP (a:Addr) (m n:Nat):(a.add m).add n=a.add (m+n):=by
 unfold Addr.add
 by_cases h:n=0
 ·subst h;simp
 ·by_cases h':m=0
  ·subst h';simp
  ·simp[h,h'];omega
omit [Val] in
theorem kX {w:World} {a:Addr} {v:Value} (h:w.cell? a=some v):∃cur T fz,w.heap[a.block]? =some (.cells cur T fz)/\cur[a.off]? =some v:=by
 unfold World.cell? at h
 split at h
 ·rename_i cur T fz hb
  refine ⟨cur,T,fz,hb, ?_⟩
  split at h
  ·cases h
  ·exact h
 ·cases h
theorem VRL.append {ι:aE} {a:List NV} {a':List Value} {b:List NV} {b':List Value} (h:VRL ι a a') (k:VRL ι b b'):VRL ι (a++b) (a'++b'):=by
 induction a generalizing a' with
 |nil=>cases h;exact k
 |cons v l ih=>cases h with
  |cons _ v' _ l' h hl=>exact .cons _ _ _ _ h (ih hl)
def Cs (W:World) (ι:aE) (a:Addr) (l:List NV):Prop:=∀(j:Nat) (v:NV),l[j]? =some v->∃v',W.cell? (a.add j)=some v'/\VR ι v v'/\v'.oneCell'=true
theorem Cs.mono {W:World} {ι ι':aE} (hι:ι.le ι') {a:Addr} {l:List NV} (h:Cs W ι a l):Cs W ι' a l:=fun j v hv=>let ⟨v',h1,h2,h3⟩:=h j v hv;⟨v',h1,h2.mono hι,h3⟩
theorem zo {P:Program} {W:World} {T:List TypeId} (hT:rC P T=true) (hne:∃(b:Nat) (cur:Array Value) (T:TypeId) (fz:Nat×Nat),W.heap[b]? =some (.cells cur T fz)) {H:Type} {enc:TypeId×Value->H}:∀(n:Nat) (t:TypeId),t∈T->∀(cs:List Value) (x:DataW H×List MemPlace),DataW.trod enc P W 0 (fun _=>true) true n t cs=some x->
 ∀(ι:aE) (m:NH),Ro P W ι m->∃ι' m' l,Ro P W ι' m'/\ι.le ι'/\Chg [] m m'/\VRL ι' l cs/\(∀v∈cs,v.oneCell'=true)/\Ty P m' t l:=by
 intro n
 induction n with
 |zero=>intro t _ cs x h;simp[DataW.trod] at h
 |succ n ih=>
  intro t ht cs x h ι m hR
  have hok:hY P T t=true:=List.all_eq_true.mp hT t ht
  unfold hY at hok
  split at hok
  ·rename_i hu
   obtain ⟨b,rfl,_⟩:=DataW.trod_bool hu h
   exact ⟨ι,m, [.bool b],hR,aE.le_refl ι,Chg.refl m,.cons _ _ _ _ (.bool b) .nil,by simp[Value.oneCell'],.bool hu b⟩
  ·rename_i k hu
   obtain ⟨z,rfl,_,hw⟩:=DataW.trod_int hu h
   exact ⟨ι,m, [.int k (.lit z)],hR,aE.le_refl ι,Chg.refl m,.cons _ _ _ _ (.int k z) .nil,by simp[Value.oneCell'],.int hu z hw⟩
  ·rename_i hu
   obtain ⟨s,rfl,_,hs⟩:=DataW.trod_string hu h
   refine ⟨ι,m, [.str (s.data.toList.map UInt8.toNat)],hR,aE.le_refl ι,Chg.refl m,.cons _ _ _ _ (.str _ s rfl) .nil,by simp[Value.oneCell'],.str hu _ ?_ ?_⟩
   ·intro b hb
    obtain ⟨c,_,rfl⟩:=List.mem_map.mp hb
    exact c.toNat_lt
   ·rw[List.length_map];exact hs
  ·rename_i e hu
   rw[Bool.and_eq_true,decide_eq_true_eq] at hok
   obtain ⟨he,hce⟩:=hok
   have he:e∈T:=by simpa using he
   rcases DataW.trod_slice hu h with ⟨rfl,_⟩|⟨a,len,cap,elems,rest,n',hn',rfl,_,_,hlc,hcm,hel,hE,hS,_⟩
   ·exact ⟨ι,m, [.nils],hR,aE.le_refl ι,Chg.refl m,.cons _ _ _ _ .nils .nil,by simp[Value.oneCell'],.slc hu .nils [] Sl.nil (by simp) (by simp)⟩
   ·have hn':n'=n:=by omega
    subst hn'
    obtain ⟨hrl,hS⟩:=hS rfl
    have go:∀k,k<=len->∃(ι':aE) (m':NH) (C:List (List NV)),Ro P W ι' m'/\ι.le ι'/\Chg [] m m'/\C.length=k/\(∀c∈C,Ty P m' e c/\c.length=P.cellsOf e)/\Cs W ι' a C.flatten:=by
     intro k
     induction k with
     |zero=>intro _;exact ⟨ι,m, [],hR,aE.le_refl ι,Chg.refl m,rfl,by simp,fun j v hv=>by simp at hv⟩
     |succ k ihk=>
      intro hk
      obtain ⟨ι1,m1,C,hR1,hle1,hC1,hlen,hall,hcs⟩:=ihk (by omega)
      have hEk:=hE k (by omega)
      rw[List.getElem?_eq_getElem (by omega)] at hEk
      obtain ⟨cs',h1,h2⟩:=Option.bind_eq_some_iff.mp hEk
      obtain ⟨_,hl',hcell⟩:=World.cells?_some h1
      obtain ⟨ι2,m2,l,hR2,hle2,hC2,hvr,hone,hty⟩:=ih e he cs' _ h2 ι1 m1 hR1
      have hll:=hvr.length
      have hfl:C.flatten.length=k*P.cellsOf e:=by rw[fW fun c hc=>(hall c hc).2,hlen]
      refine ⟨ι2,m2,C++ [l],hR2,hle1.trans hle2,hC1.trans hC2 (fun _ h _=>h),by simp[hlen], ?_, ?_⟩
      ·intro c hc
       rcases List.mem_append.mp hc with hc|hc
       ·exact ⟨(hall c hc).1.grew hC2,(hall c hc).2⟩
       ·simp at hc;subst hc;exact ⟨hty,by omega⟩
      ·intro j v hv
       rw[List.flatten_append] at hv
       by_cases hj:j<C.flatten.length
       ·rw[List.getElem?_append_left hj] at hv
        exact (hcs.mono hle2) j v hv
       ·rw[List.getElem?_append_right (by omega)] at hv
        simp only[List.flatten_cons,List.flatten_nil,List.append_nil] at hv
        obtain ⟨v',h3,h4⟩:=hvr.get hv
        have hjl:j - C.flatten.length<cs'.length:=by
         rcases Nat.lt_or_ge (j - C.flatten.length) cs'.length with q|q
         ·exact q
         ·rw[List.getElem?_eq_none q] at h3;cases h3
        refine ⟨v', ?_,h4,hone v' (List.mem_of_getElem? h3)⟩
        have:=hcell (j - C.flatten.length) (by omega)
        rw[h3] at this
        rw[←this]
        rw[qP]
        congr 2
        omega
    obtain ⟨ι1,m1,C,hR1,hle1,hC1,hlen,hall,hcs⟩:=go len (Nat.le_refl _)
    have hfl:C.flatten.length=len*P.cellsOf e:=by rw[fW fun c hc=>(hall c hc).2,hlen]
    have hend:∀(b o:Nat) (cur:Array Value) (T':TypeId) (fz:Nat×Nat) (c:List NV),W.heap[b]? =some (.cells cur T' fz)->o+c.length<=cur.size->(∀i v,c[i]? =some v->∃v',cur[o+i]? =some v'/\VR ι1 v v'/\v'.oneCell'=true)->
     (0<cap->a=⟨b,o,none⟩/\o+cap*P.cellsOf e<=cur.size)->c=C.flatten->
     ∃ι' m' l,Ro P W ι' m'/\ι.le ι'/\Chg [] m m'/\VRL ι' l [.slice (some a) len cap]/\(∀v∈ [Value.slice (some a) len cap],v.oneCell'=true)/\Ty P m' t l:=by
     rintro b o cur T' fz c hb hoc hcc ha rfl
     obtain ⟨ι2,m2,hR2,hle2,hC2,hi2,hg2,ho2⟩:=hR1.add hb hoc hcc
     refine ⟨ι2,m2, [.slc m1.next 0 len (P.cellsOf e) 0],hR2,hle1.trans hle2,hC1.trans hC2 (fun _ h _=>h),.cons _ _ _ _ (.slc _ _ _ _ _ _ a cap hi2 hlc (Nat.zero_le _) hcm hce fun hc=> ?_) .nil,by simp[Value.oneCell'], ?_⟩
     ·obtain ⟨h1,h2⟩:=ha hc
      exact ⟨h1,by simpa using h2⟩
     ·refine .slc hu _ C ⟨fun c hc=>(hall c hc).2,Or.inr ⟨m1.next,0,0,false,_,by rw[hlen],hg2,ho2, ?_, ?_⟩⟩ (by rw[hlen];omega) fun c hc=>((hall c hc).1).grew hC2
      ·rw[hfl,hlen];omega
      ·rw[List.drop_zero,hlen,←hfl,List.take_length]
    by_cases hcap:cap=0
    ·have hl0:len=0:=by omega
     have hC0:C= []:=List.length_eq_zero_iff.mp (by omega)
     subst hC0
     obtain ⟨b,cur,T',fz,hb⟩:=hne
     exact hend b 0 cur T' fz [] hb (by simp) (fun i v hv=>by simp at hv) (fun h=>by omega) rfl
    ·
     have cells:∀i,i<cap->∃cs',W.cells? 0 (a.add (i*P.cellsOf e)) (P.cellsOf e)=some cs':=by
      intro i hi
      rcases Nat.lt_or_ge i len with h|h
      ·have:=hE i h
       rw[List.getElem?_eq_getElem (by omega)] at this
       obtain ⟨cs',h1,_⟩:=Option.bind_eq_some_iff.mp this
       exact ⟨cs',h1⟩
      ·have:=hS (i - len) (by omega)
       rw[List.getElem?_eq_getElem (by omega),show len+(i - len)=i by omega] at this
       obtain ⟨cs',h1,_⟩:=Option.bind_eq_some_iff.mp this
       exact ⟨cs',h1⟩
     obtain ⟨cs0,h0⟩:=cells 0 (by omega)
     obtain ⟨_,hl0,hc0⟩:=World.cells?_some h0
     have hv0:=hc0 0 hce
     rw[List.getElem?_eq_getElem (by omega)] at hv0
     have hsp:=World.cell?_spot hv0
     obtain ⟨cur,T',fz,hb,_⟩:=kX hv0
     have hab:(a.add (0*P.cellsOf e)).add 0=a:=by rw[qP];simp[Addr.add]
     rw[hab] at hsp hb
     have hin:∀j v',W.cell? (a.add j)=some v'->cur[a.off+j]? =some v':=by
      intro j v' h
      obtain ⟨cur',T2,fz2,hb',hc'⟩:=kX h
      rw[wu] at hb'
      rw[Cd] at hc'
      rw[hb] at hb'
      injection hb' with hb'
      injection hb' with hb' _ _
      subst hb'
      exact hc'
     obtain ⟨cs1,h1⟩:=cells (cap - 1) (by omega)
     obtain ⟨_,hl1,hc1⟩:=World.cells?_some h1
     have hv1:=hc1 (P.cellsOf e - 1) (by omega)
     rw[List.getElem?_eq_getElem (by omega)] at hv1
     have hmul:(cap - 1)*P.cellsOf e+P.cellsOf e=cap*P.cellsOf e:=by
      rw[←Nat.succ_mul];congr 1;omega
     have hlast:cur[a.off+(cap*P.cellsOf e - 1)]? =some cs1[P.cellsOf e - 1]:=by
      refine hin (cap*P.cellsOf e - 1) _ ?_
      rw[←hv1]
      rw[qP]
      congr 2
      omega
     have hsz:a.off+(cap*P.cellsOf e - 1)<cur.size:=(Array.getElem?_eq_some_iff.mp hlast).1
     have hcapp:0<cap*P.cellsOf e:=Nat.mul_pos (by omega) hce
     have hlm:len*P.cellsOf e<=cap*P.cellsOf e:=Nat.mul_le_mul_right _ hlc
     refine hend a.block a.off cur T' fz C.flatten hb (by omega) (fun i v hv=> ?_) (fun _=>⟨by cases a;simp at hsp;simp[hsp],by omega⟩) rfl
     obtain ⟨v',q1,q2,q3⟩:=hcs i v hv
     exact ⟨v',hin i v' q1,q2,q3⟩
  ·rename_i fs hu
   rw[Bool.and_eq_true] at hok
   obtain ⟨hft,htl⟩:=hok
   obtain ⟨xs,n',hn',_,hcl,hxl,hF⟩:=DataW.trod_struct hu h
   have hn':n'=n:=by omega
   subst hn'
   have go:∀(fl:List Field) (o:Nat) (ys:List (DataW H×List MemPlace)),(∀f∈fl,f.type∈T)->mh P fl o (P.cellsOf t)=true->o<=cs.length->(∀(i:Nat) (f:Field),fl[i]? =some f->∃y,DataW.trod enc P W 0 (fun _=>true) true n' f.type ((cs.drop f.offset).take (P.cellsOf f.type))=some y)->
    ∀(ι:aE) (m:NH),Ro P W ι m->∃ι' m' l,Ro P W ι' m'/\ι.le ι'/\Chg [] m m'/\VRL ι' l (cs.drop o)/\(∀v∈cs.drop o,v.oneCell'=true)/\TyL P m' (fl.map (·.type)) l:=by
    intro fl
    induction fl with
    |nil=>
     intro o ys _ htl _ _ ι m hR
     have ho:o=cs.length:=by rw[hcl];exact of_decide_eq_true htl
     subst ho
     rw[List.drop_length]
     exact ⟨ι,m, [],hR,aE.le_refl ι,Chg.refl m,.nil,by simp,.nil⟩
    |cons f fl ihf=>
     intro o ys hfT htl ho hF ι m hR
     have htl:((f.offset==o)&&mh P fl (o+P.cellsOf f.type) (P.cellsOf t))=true:=htl
     rw[Bool.and_eq_true,beq_iff_eq] at htl
     obtain ⟨rfl,htl⟩:=htl
     obtain ⟨y,hy⟩:=hF 0 f rfl
     obtain ⟨ι1,m1,l1,hR1,hle1,hC1,hvr1,hone1,hty1⟩:=ih f.type (hfT f (List.mem_cons_self ..)) _ y hy ι m hR
     have hle:f.offset+P.cellsOf f.type<=cs.length:=by
      have:∀(fl:List Field) (o:Nat),mh P fl o (P.cellsOf t)=true->o<=P.cellsOf t:=by
       intro fl
       induction fl with
       |nil=>intro o h;exact Nat.le_of_eq (of_decide_eq_true h)
       |cons g fl ih=>
        intro o h
        have h:((g.offset==o)&&mh P fl (o+P.cellsOf g.type) (P.cellsOf t))=true:=h
        rw[Bool.and_eq_true] at h
        have:=ih _ h.2
        omega
      have:=this fl _ htl
      omega
     obtain ⟨ι2,m2,l2,hR2,hle2,hC2,hvr2,hone2,hty2⟩:=ihf (f.offset+P.cellsOf f.type) [] (fun g hg=>hfT g (List.mem_cons_of_mem _ hg)) htl hle (fun i g hg=>hF (i+1) g (by simpa using hg)) ι1 m1 hR1
     have hsplit:cs.drop f.offset=(cs.drop f.offset).take (P.cellsOf f.type)++cs.drop (f.offset+P.cellsOf f.type):=by
      rw[←List.drop_drop,List.take_append_drop]
     refine ⟨ι2,m2,l1++l2,hR2,hle1.trans hle2,hC1.trans hC2 (fun _ h _=>h), ?_, ?_,.cons l1 l2 (hty1.grew hC2) hty2⟩
     ·rw[hsplit];exact VRL.append (hvr1.mono hle2) hvr2
     ·rw[hsplit];intro v hv
      rcases List.mem_append.mp hv with hv|hv
      ·exact hone1 v hv
      ·exact hone2 v hv
   obtain ⟨ι',m',l,h1,h2,h3,h4,h5,h6⟩:=go fs.toList 0 [] (fun f hf=>by simpa using List.all_eq_true.mp hft f hf) htl (Nat.zero_le _) (fun i f hf=>by
    have hi:i<xs.length:=by
     rcases Nat.lt_or_ge i fs.toList.length with q|q
     ·rw[hxl];simpa using q
     ·rw[List.getElem?_eq_none q] at hf;cases hf
    exact ⟨xs[i],by rw[hF i f (by simpa using hf),List.getElem?_eq_getElem hi]⟩) ι m hR
   rw[List.drop_zero] at h4 h5
   exact ⟨ι',m',l,h1,h2,h3,h4,h5,.struct hu l h6⟩
  ·cases hok
inductive TyA (P:Program) (m:NH):List TypeId->List NV->Prop
 |nil:TyA P m [] []
 |one {t:TypeId} {ts:List TypeId} {l:List NV} (x:NV) (hn:∀fs,P.underlying t≠some (.struct fs)) (h:Ty P m t [x]) (hl:TyA P m ts l):TyA P m (t::ts) (x::l)
 |agg {t:TypeId} {ts:List TypeId} {l:List NV} {fs:Array Field} (c:List NV) (ht:P.underlying t=some (.struct fs)) (h:Ty P m t c) (hl:TyA P m ts l):TyA P m (t::ts) (.agg c::l)
omit [Val] in
theorem TyA.grew {P:Program} {m m':NH} (hC:Chg [] m m'):∀{ts:List TypeId} {l:List NV},TyA P m ts l->TyA P m' ts l
 |_,_,.nil=> .nil
 |_,_,.one x hn h hl=> .one x hn (h.grew hC) (TyA.grew hC hl)
 |_,_,.agg c ht h hl=> .agg c ht (h.grew hC) (TyA.grew hC hl)
omit [Val] in
theorem ui {P:Program} {W:World} {base:Nat} {t:TypeId} {v:Value} (hok:∀fs,P.underlying t≠some (.struct fs)) (h:Value.okWide P W .any base t v) (ht:hY P [] t=true∨∃e,P.underlying t=some (.slice e)):v.cells=#[v]:=by
 unfold Value.okWide at h
 rcases ht with ht|⟨e,hu⟩
 ·unfold hY at ht
  split at ht
  ·rename_i hu;rw[hu] at h;unfold Cell.okWide Cell.ok at h;rw[hu] at h;dsimp only at h;cases v<;>first|rfl|exact h.elim
  ·rename_i hu;rw[hu] at h;unfold Cell.okWide Cell.ok at h;rw[hu] at h;dsimp only at h;cases v<;>first|rfl|exact h.elim
  ·rename_i hu;rw[hu] at h;unfold Cell.okWide Cell.ok at h;rw[hu] at h;dsimp only at h;cases v<;>first|rfl|exact h.elim
  ·rename_i e hu;rw[hu] at h;unfold Cell.okWide Cell.ok at h;rw[hu] at h;dsimp only at h;cases v<;>first|rfl|exact h.elim
  ·rename_i fs hu;exact Hl hu (hok fs)
  ·cases ht
 ·rw[hu] at h;unfold Cell.okWide Cell.ok at h;rw[hu] at h;dsimp only at h;cases v<;>first|rfl|exact h.elim
theorem tC {P:Program} {W:World} {T:List TypeId} (hT:rC P T=true) (hne:∃(b:Nat) (cur:Array Value) (T:TypeId) (fz:Nat×Nat),W.heap[b]? =some (.cells cur T fz)) {base:Nat} {H:Type} {enc:TypeId×Value->H}:
 ∀(ts:List TypeId) (args:List Value) (ds:List (DataW H)) (ps:List MemPlace),(∀t∈ts,t∈T)->DataW.TrodAll enc P W 0 (fun _=>true) true ts args ds ps->(∀(j:Nat) t v,ts[j]? =some t->args[j]? =some v->Value.okWide P W .any base t v)->
 ∀(ι:aE) (m:NH),Ro P W ι m->∃ι' m' l,Ro P W ι' m'/\ι.le ι'/\Chg [] m m'/\VRL ι' l args/\TyA P m' ts l:=by
 intro ts
 induction ts with
 |nil=>
  intro args ds ps _ h _ ι m hR
  cases args with
  |nil=>exact ⟨ι,m, [],hR,aE.le_refl ι,Chg.refl m,.nil,.nil⟩
  |cons=>cases h
 |cons t ts ih=>
  intro args ds ps hts h hval ι m hR
  cases args with
  |nil=>cases h
  |cons v args=>
   cases ds with
   |nil=>cases h
   |cons d ds=>
    obtain ⟨p,q,⟨n,hd⟩,hr,_⟩:=h
    obtain ⟨ι1,m1,c,hR1,hle1,hC1,hv1,hone1,hty1⟩:=zo hT hne n t (hts t (List.mem_cons_self ..)) _ _ hd ι m hR
    obtain ⟨ι2,m2,l,hR2,hle2,hC2,hv2,hty2⟩:=ih args ds q (fun t ht=>hts t (List.mem_cons_of_mem _ ht)) hr (fun j t v h1 h2=>hval (j+1) t v (by simpa using h1) (by simpa using h2)) ι1 m1 hR1
    have hv:=hval 0 t v rfl rfl
    have hok:hY P T t=true:=List.all_eq_true.mp hT t (hts t (List.mem_cons_self ..))
    have hC:=hC1.trans hC2 (fun _ h _=>h)
    by_cases hst:∃fs,P.underlying t=some (.struct fs)
    ·obtain ⟨fs,hu⟩:=hst
     have hv':=hv
     unfold Value.okWide at hv'
     rw[hu] at hv'
     obtain ⟨cs,rfl,_,_⟩:=hv'
     refine ⟨ι2,m2,.agg c::l,hR2,hle1.trans hle2,hC,.cons _ _ _ _ ?_ hv2,.agg c hu (hty1.grew hC2) hty2⟩
     have:=VR.agg (ι:=ι2) c cs.toList (hv1.mono hle2) hone1
     simpa using this
    ·have hn:∀fs,P.underlying t≠some (.struct fs):=fun fs q=>hst ⟨fs,q⟩
     have hc:v.cells=#[v]:=by
      refine ui hn hv ?_
      unfold hY at hok ⊢
      split at hok
      ·rename_i hu;exact Or.inl rfl
      ·rename_i hu;exact Or.inl rfl
      ·rename_i hu;exact Or.inl rfl
      ·rename_i e hu;exact Or.inr ⟨e,hu⟩
      ·rename_i fs hu;exact Hl hu (hn fs)
      ·cases hok
     rw[hc] at hv1
     cases hv1 with
     |cons x _ xl _ hx hxl=>
      cases hxl
      exact ⟨ι2,m2,x::l,hR2,hle1.trans hle2,hC,.cons _ _ _ _ (hx.mono hle2) hv2,.one x hn (hty1.grew hC2) hty2⟩
theorem qQ {P:Program} (hM:P.follows .mixedOrders=true) (hP:P.check= .ok ()) {S:bP} (hS:dk P S) {T:List TypeId} (hT:rC P T=true) {f:Nat} {nf:NFun} (hf:am P f=some (.code nf)) (hs:∀l,S f l=fun _=>none) {ts:List TypeId} (hts:∀t∈ts,t∈T)
 {m0:NH} (law:∀(m:NH) (l:List NV),Chg [] m0 m->TyA P m ts l->∃m',bu P S f l m (.bool true) m') {W:World} {ι0:aE} (h0:Ro P W ι0 m0) (hne:∃(b:Nat) (cur:Array Value) (T:TypeId) (fz:Nat×Nat),W.heap[b]? =some (.cells cur T fz)) {base:Nat} {H:Type} {enc:TypeId×Value->H} {args:List Value} {ds:List (DataW H)} {ps:List MemPlace}
 (h:DataW.TrodAll enc P W 0 (fun _=>true) true ts args ds ps) (hval:∀(j:Nat) t v,ts[j]? =some t->args[j]? =some v->Value.okWide P W .any base t v):
 Calls P f args.toArray W fun e W'=>e= .returned (.bool true)/\Below W.heap.size W W':=by
 obtain ⟨ι,m,l,hR,_,hC,hv,hty⟩:=tC hT hne ts args ds ps hts h hval ι0 m0 h0
 obtain ⟨m',c,hc⟩:=law m l hC hty
 refine (ve hM hP hS hf (hs l) hc hR.1 hR.2 hv).mono ?_
 rintro e W' ⟨⟨ι',v',rfl,h1,_,_⟩,hb⟩
 cases h1
 exact ⟨rfl,hb⟩
omit [Val] in
theorem trodAll_stays {P:Program} (hl:laidOutB P=true) {W W':World} (hb:Below W.heap.size W W') {H:Type} {enc:TypeId×Value->H} {sp:Nat->Bool}:∀(ts:List TypeId) (args:List Value) (ds:List (DataW H)) (ps:List MemPlace),(∀t∈ts,P.readableRec t=true/\t<P.types.size)->
 DataW.TrodAll enc P W 0 (fun _=>true) true ts args ds ps->(∀p∈ps,p.block<W.heap.size)->(∀p∈ps,sp p.block=true)->DataW.TrodAll enc P W' 0 sp true ts args ds ps:=by
 intro ts
 induction ts with
 |nil=>
  intro args ds ps _ h _ _
  cases args with
  |nil=>cases ds with
   |nil=>exact h
   |cons=>cases h
  |cons=>cases h
 |cons t ts ih=>
  intro args ds ps hr h hlt hsp
  cases args with
  |nil=>cases h
  |cons v args=>
   cases ds with
   |nil=>cases h
   |cons d ds=>
    obtain ⟨p,q,hd,hq,rfl⟩:=h
    exact ⟨p,q,WideElems.Trod_stays hl (hr t (List.mem_cons_self ..)).1 (hr t (List.mem_cons_self ..)).2 hd (fun x hx=>hb.same (hlt x (List.mem_append_left _ hx))) (fun x hx=>hsp x (List.mem_append_left _ hx)),
     ih args ds q (fun t ht=>hr t (List.mem_cons_of_mem _ ht)) hq (fun x hx=>hlt x (List.mem_append_right _ hx)) (fun x hx=>hsp x (List.mem_append_right _ hx)),rfl⟩
omit [Val] in
theorem Ty.inv_int {P:Program} {m:NH} {t:TypeId} {k:IntKind} {l:List NV} (hu:P.underlying t=some (.int k)) (h:Ty P m t l):∃n,l= [.int k (.lit n)]/\(Lit.int k n).wf=true:=by
 cases h with
 |bool ht=>rw[hu] at ht;cases ht
 |int ht n h=>rw[hu] at ht;injection ht with ht;injection ht with ht;subst ht;exact ⟨n,rfl,h⟩
 |str ht=>rw[hu] at ht;cases ht
 |slc ht=>rw[hu] at ht;cases ht
 |struct ht=>rw[hu] at ht;cases ht
omit [Val] in
theorem Ty.inv_struct {P:Program} {m:NH} {t:TypeId} {fs:Array Field} {l:List NV} (hu:P.underlying t=some (.struct fs)) (h:Ty P m t l):TyL P m (fs.toList.map (·.type)) l:=by
 cases h with
 |bool ht=>rw[hu] at ht;cases ht
 |int ht=>rw[hu] at ht;cases ht
 |str ht=>rw[hu] at ht;cases ht
 |slc ht=>rw[hu] at ht;cases ht
 |struct ht _ h=>rw[hu] at ht;injection ht with ht;injection ht with ht;subst ht;exact h
omit [Val] in
theorem TyL.inv {P:Program} {m:NH} {t:TypeId} {ts:List TypeId} {l:List NV} (h:TyL P m (t::ts) l):∃a b,l=a++b/\Ty P m t a/\TyL P m ts b:=by
 cases h with
 |cons a b h hl=>exact ⟨a,b,rfl,h,hl⟩
omit [Val] in
theorem TyL.inv0 {P:Program} {m:NH} {l:List NV} (h:TyL P m [] l):l= []:=by cases h;rfl
omit [Val] in
theorem TyA.invS {P:Program} {m:NH} {t:TypeId} {ts:List TypeId} {fs:Array Field} {l:List NV} (hu:P.underlying t=some (.struct fs)) (h:TyA P m (t::ts) l):∃c r,l= .agg c::r/\TyL P m (fs.toList.map (·.type)) c/\TyA P m ts r:=by
 cases h with
 |one x hn=>exact Hl hu (hn _)
 |agg c ht h hl=>exact ⟨c,_,rfl,h.inv_struct hu,hl⟩
omit [Val] in
theorem TyA.inv0 {P:Program} {m:NH} {l:List NV} (h:TyA P m [] l):l= []:=by cases h;rfl
omit [Val] in
theorem bu.kept {P:Program} {S:bP} {f:Nat} {args:List NV} {v:NV} (h:S f args=fun h=>some (v,h)) (m:NH):bu P S f args m v m:=by
 refine ⟨none,by simp,0, ?_⟩
 unfold bA;rw[h]
omit [Val] in
theorem bu.keptM {P:Program} {S:bP} {f:Nat} {args:List NV} {v:NV} {m m':NH} (h:S f args m=some (v,m')):bu P S f args m v m':=by
 refine ⟨none,by simp,0, ?_⟩
 unfold bA;rw[h]
omit [Val] in
theorem trodAll_len {P:Program} {W:World} {base:Nat} {sp:Nat->Bool} {hd:Bool} {H:Type} {enc:TypeId×Value->H}:∀{ts:List TypeId} {vs:List Value} {ds:List (DataW H)} {ps:List MemPlace},DataW.TrodAll enc P W base sp hd ts vs ds ps->ds.length=ts.length:=by
 intro ts
 induction ts with
 |nil=>intro vs ds ps h;cases vs<;>cases ds<;>first|rfl|cases h
 |cons t ts ih=>
  intro vs ds ps h
  cases vs with
  |nil=>cases h
  |cons v vs=>cases ds with
   |nil=>cases h
   |cons d ds=>obtain ⟨_,_,_,h,_⟩:=h;simp[ih h]
end
end Nm
namespace Nm
open Go Go.RowKit
attribute [go_sem] AX Ea Bo D8 Fd AD yg EC AY B1 AV Aw zF zn CO xE Gv DV D7
attribute [go_sem] GB Fa EI Ca Ex DT CF AJ xz yv F8 F5 wH GD FK
attribute [go_sem] Cu yI vt Cy yR Bh Eo zf Cj Cv zR zJ wa zN wn v7 uB yf
attribute [go_sem] yt zQ uT xK Bool.and_true Bool.true_and Fj DL x9 xN CP Gm Fz Gj Gt Gi
attribute [go_sem] GE GJ Gd Gb GP FC FN Gu FE Fw Gy GK F2 FQ GL Gz Gq GO Ge FP
attribute [go_sem] F4 FG GF AR EG FW E9 Dn EU El Eb uk Bb B6 D6 yb zU
attribute [go_sem] CJ u9 tz yK yr CQ BO yq CW Ff Br
attribute [go_sem] EB A8 D0 AE yi z8 DE Cf
attribute [go_sem] D3 Az D2 Aq uW vd Ax E5 CG B4 Eu En BK Bv EP F1 E8
attribute [go_sem] DN EL Dw Ec Dl Ev D9 uO Dc ES Ct Cr F7 ET Fb
attribute [go_sem] yG yC xu Ep Ew F9 Db FF Dh FI CV BP Nat.sub_self Nat.sub_zero Du
attribute [go_sem] Ba Ek DO Dt FH yW yM
attribute [go_sem] GA Ey Cq aM qA Bx Bu wK vC ol oS n5 Ef Dy
attribute [go_sem] EF EH Bool.not_true Bool.not_false A7 Bq Int.toNat_natCast Int.toNat_zero Int.toNat_one
attribute [go_sem] List.getElem?_cons_zero List.getElem?_cons_succ List.length_cons List.length_nil List.set_cons_zero List.set_cons_succ List.take_zero List.drop_zero List.take_succ_cons List.drop_succ_cons List.take_nil List.drop_nil List.nil_append List.cons_append List.append_nil Nat.zero_add Nat.zero_mul Nat.testBit cond_true cond_false
attribute [go_sem] NT.get_leaf A0 xA ak beq_self_eq_true decide_true decide_false if_true if_false ite_true ite_false eq_self true_and and_true true_implies
noncomputable def aw:=And.intro (@List.length_set.{0})<|And.intro (@List.length_cons.{0})<|And.intro (@List.length_nil.{0})<|And.intro (@List.length_append.{0})<|And.intro (@List.length_map.{0,0})<|@List.length_replicate.{0}
namespace C
abbrev t (a:D4):NOpd:= .tmp a
abbrev k (z:Int):NOpd:= .const (.int .i64 (.lit z))
abbrev kb (z:Int):NOpd:= .const (.int .u8 (.lit z))
abbrev ku (z:Int):NOpd:= .const (.int .u64 (.lit z))
abbrev kt:NOpd:= .const (.bool true)
abbrev kf:NOpd:= .const (.bool false)
abbrev kn:NOpd:= .const .nils
abbrev F (n:Nat):NOpd:= .const (.fn n [])
abbrev o (d:D4) (p:NOp) (i:Nat):NOper:=⟨some d,p,none,0,i⟩
abbrev O (d:D4) (p:NOp) (q i:Nat):NOper:=⟨some d,p,none,q,i⟩
abbrev G (d:D4) (p:NOp) (g:D4) (b:Bool) (i:Nat):NOper:=⟨some d,p,some (g,b),0,i⟩
abbrev m (d s:D4) (i:Nat):NOper:=⟨some d,.move (.tmp s),none,0,i⟩
abbrev f (n:Nat) (d s:D4) (i:Nat):NOper:=⟨some d,.fieldAddr n (.tmp s),none,0,i⟩
abbrev l (d s:D4) (i:Nat):NOper:=⟨some d,.load1 (.tmp s),none,0,i⟩
abbrev L (d s:D4) (i:Nat):NOper:=⟨some d,.lenSlc (.tmp s),none,0,i⟩
abbrev n (d s:D4) (i:Nat):NOper:=⟨some d,.nilCheck (.tmp s),none,0,i⟩
abbrev x (d s:D4) (j i:Nat):NOper:=⟨some d,.extract (.tmp s) j,none,0,i⟩
abbrev q (p:NOp) (i:Nat):NOper:=⟨none,p,none,0,i⟩
abbrev b (d:D4) (p:BinOp) (a c:NOpd) (i:Nat):NOper:=⟨some d,.bin .num p a c,none,0,i⟩
end C
end Nm
namespace Nm
open Go Go.RowKit
section
variable {t:Tm} {m:NH}
end
end Nm
namespace Nm
open Go Go.RowKit
section
variable {t:Tm} {m:NH}
end
end Nm
namespace Nm
open Go Go.RowKit
noncomputable def ql (f:Nat) (F:List NV->NH->Option (NV×NH)) (S:bP):bP:=fun g=>cond (Nat.beq g f) F (S g)
section
variable [Val]
def dX (P:Program) (f:Nat) (F:List NV->NH->Option (NV×NH)):Prop:=
 ∀(ι:aE) (B:Nat) (h:NH) (w:World) (args:List NV) (args':List Value) (v:NV) (h':NH),F args h=some (v,h')->Rel P ι B h w->B<=w.heap.size->VRL ι args args'->
  mo P ι B h w ((callFunc f args'.toArray).run P w) (.val v none h')
theorem iF {P:Program} {S:bP} {f:Nat} {F:List NV->NH->Option (NV×NH)} (hS:dk P S) (hF:dX P f F):dk P (ql f F S):=by
 intro ι B h w g args args' v h' hg hR hB hl
 unfold ql at hg
 cases hb:Nat.beq g f with
 |true=>
  rw[hb] at hg
  obtain rfl:=Hs hb
  exact hF ι B h w args args' v h' hg hR hB hl
 |false=>
  rw[hb] at hg
  exact hS ι B h w g args args' v h' hg hR hB hl
theorem dX.of {P:Program} {f:Nat} {F:List NV->NH->Option (NV×NH)} (hen:∀args w,(callFunc f args).run P w= .ok (.enter f args) w)
 (H:∀(ι:aE) (B:Nat) (h:NH) (w:World) (args:List NV) (args':List Value) (v:NV) (h':NH),F args h=some (v,h')->Rel P ι B h w->B<=w.heap.size->VRL ι args args'->
  Calls P f args'.toArray w fun e w'=>∃ι' v',e= .returned v'/\VR ι' v v'/\Rel P ι' B h' w'/\B<=w'.heap.size/\Grow ι h w ι' h' w'):dX P f F:=by
 intro ι B h w args args' v h' hF hR hB hl c0 cs
 obtain ⟨e,w',fr,⟨ι',v',he,hv,hR',hB',hG⟩,hcomes,hfn,hleave⟩:=H ι B h w args args' v h' hF hR hB hl (c0::cs)
 subst he
 exact ⟨ι',v',w',hv,hR',hB',hG,.inr ⟨w,.inl ⟨f,args'.toArray,hen _ w,Steps.trans hcomes (.one (step_leave_returned hleave))⟩⟩⟩
theorem Rel.below {P:Program} {ι:aE} {B:Nat} {h:NH} {w w':World} (hR:Rel P ι B h w) (hb:Below w.heap.size w w'):Rel P ι B h w':=
 ⟨fun i p hi=>by
  obtain ⟨o,o1,o2⟩:=hR.obj i p hi
  exact ⟨o,o1,o2.mono (aE.le_refl _) (hb.block _ (hR.lt i p hi))⟩,hR.inj,hR.base,fun i p hi=>Nat.lt_of_lt_of_le (hR.lt i p hi) hb.size,hR.fresh,hR.gl⟩
omit [Val] in
theorem Grow.below {ι:aE} {h:NH} {w w':World} (hb:Below w.heap.size w w'):Grow ι h w ι h w':=
 ⟨aE.le_refl _,Nat.le_refl _,fun _ _ x=> .inl x,fun i p x y=> .inr ⟨i,p,x,y,rfl⟩,fun _ _ _=>rfl,hb.size,hb.os,hb.tape,hb.output,fun b hb' _=>hb.block b hb'⟩
theorem dX.plain {P:Program} {f:Nat} {F:List NV->NH->Option (NV×NH)} (hen:∀args w,(callFunc f args).run P w= .ok (.enter f args) w)
 (H:∀(ι:aE) (B:Nat) (h:NH) (w:World) (args:List NV) (args':List Value) (v:NV) (h':NH),F args h=some (v,h')->Rel P ι B h w->VRL ι args args'->
  h'=h/\Calls P f args'.toArray w fun e w'=>(∃v',e= .returned v'/\VR ι v v')/\Below w.heap.size w w'):dX P f F:=
 dX.of hen fun ι B h w args args' v h' hF hR hB hl=>by
  obtain ⟨rfl,hc⟩:=H ι B h w args args' v h' hF hR hl
  refine hc.mono ?_
  rintro e w' ⟨⟨v',he,hv⟩,hb⟩
  exact ⟨ι,v',he,hv,hR.below hb,Nat.le_trans hB hb.size,.below hb⟩
theorem Rel.global {P:Program} {ι:aE} {B:Nat} {h:NH} {w:World} (hR:Rel P ι B h w) {g:Nat} (hg:g<NG) {wr:Bool} {c:List NV} (hc:h.get (D4.of g)=some (.cells wr c)) (hn:c.length=GN g):
 ∃cur T fz,w.heap[g]? =some (.cells cur T fz)/\VRL ι c cur.toList:=by
 obtain ⟨o,o1,o2⟩:=hR.obj _ _ (hR.gl g hg)
 rw[hc] at o1
 cases o1
 obtain ⟨cur,T,fz,k1,k2,k3,k4,k5⟩:=o2
 dsimp only at k1 k3 k4 k5
 refine ⟨cur,T,fz,k1,VRL.of_get (by simp;omega) fun i v hi=> ?_⟩
 obtain ⟨v',a,b,_⟩:=k5 i v hi
 exact ⟨v',by simpa using a,b⟩
theorem Ro.lay {P:Program} {W:World} {ι:aE} {m:NH} (h:Ro P W ι m) {g:Nat} (hg:g<NG) {c:List NV} {cur:Array Value} {T:TypeId} {fz:Nat×Nat} (hb:W.heap[g]? =some (.cells cur T fz)) (hn:cur.size=GN g)
 (hc:VRL ι c cur.toList) (h1:∀v∈cur.toList,v.oneCell'=true):Ro P W ι (m.put (D4.of g) (.cells false c)):=by
 obtain ⟨hR,hL⟩:=h
 have hι:=hR.gl g hg
 have hnl:∀i p,ι i=some p->¬Live ((m.put (D4.of g) (.cells false c)).get i):=fun i p hi=>by
  by_cases e:i=D4.of g
  ·subst e;rw[NH.get_put_same];exact fun q=>q.2 c rfl
  ·rw[NH.get_put_ne _ _ e];exact hL i p hi
 have hold:(D4.of g).toNat<m.next.toNat:=by
  obtain ⟨o,o1,_⟩:=hR.obj _ _ hι;exact hR.fresh _ _ o1
 refine ⟨⟨fun i p hi=> ?_,fun i j p q hi _ _ hl _=>Hl hl (hnl i p hi),fun i p hi hl=>Hl hl (hnl i p hi),hR.lt,fun i o ho=> ?_,hR.gl⟩,hnl⟩
 ·by_cases e:i=D4.of g
  ·subst e
   rw[hι] at hi;cases hi
   refine ⟨_,NH.get_put_same _ _ _,cur,T,fz,hb,fun q=>Bool.noConfusion q,hn,by rw[hc.length];simp;omega,fun i v hv=> ?_⟩
   obtain ⟨v',a,b⟩:=hc.get hv
   exact ⟨v',by simpa using a,b,h1 _ (List.mem_of_getElem? a)⟩
  ·obtain ⟨o,o1,o2⟩:=hR.obj i p hi
   exact ⟨o,by rw[NH.get_put_ne _ _ e];exact o1,o2⟩
 ·show i.toNat<m.next.toNat
  by_cases e:i=D4.of g
  ·subst e;exact hold
  ·rw[NH.get_put_ne _ _ e] at ho;exact hR.fresh i o ho
theorem Rel.madeC {P:Program} {ι:aE} {B:Nat} {h:NH} {w w':World} (hR:Rel P ι B h w) (hb:Below w.heap.size w w') {N:Nat} (hN:w.heap.size<=N) {cur:Array Value} {T:TypeId} {fz:Nat×Nat} (hc:w'.heap[N]? =some (.cells cur T fz)) {o:Nat} {c:List NV} (hlen:o+c.length<=cur.size) (hcs:∀(ι2:aE) (i:Nat) (v:NV),c[i]? =some v->∃v',cur[o+i]? =some v'/\VR ι2 v v'/\v'.oneCell'=true):
 ∃ι',ι' h.next=some ⟨N,o,cur.size⟩/\Rel P ι' B (h.add (.cells false c)) w'/\Grow ι h w ι' (h.add (.cells false c)) w':=by
 have hR':=hR.below hb
 have hn:ι h.next=none:=by
  cases hi:ι h.next with
  |none=>rfl
  |some q=>obtain ⟨o,h1,_⟩:=hR.obj _ _ hi;exact Hl (hR.fresh _ _ h1) (Nat.lt_irrefl _)
 have hle:ι.le (ext ι h.next ⟨N,o,cur.size⟩):=fun i p hi=>by
  unfold ext
  by_cases e:i.toNat=h.next.toNat
  ·rw[D4.toNat_inj e,hn] at hi;cases hi
  ·rw[Hm e];exact hi
 have hinv:∀i p,ext ι h.next ⟨N,o,cur.size⟩ i=some p->(i=h.next/\p=⟨N,o,cur.size⟩)∨(ι i=some p/\i≠h.next):=fun i p hi=>by
  unfold ext at hi
  by_cases e:i.toNat=h.next.toNat
  ·rw[Hn e] at hi;injection hi with hi;exact Or.inl ⟨D4.toNat_inj e,hi.symm⟩
  ·rw[Hm e] at hi;exact Or.inr ⟨hi,fun q=>e (by rw[q])⟩
 have hget:∀i,i≠h.next->(h.add (.cells false c)).get i=h.get i:=fun i e=>NH.get_add_ne _ _ e
 have hnl:¬Live ((h.add (.cells false c)).get h.next):=by rw[NH.get_add_same];exact fun q=>q.2 c rfl
 refine ⟨ext ι h.next ⟨N,o,cur.size⟩,by unfold ext;rw[Hn rfl],⟨fun i p hi=> ?_,fun i j p q hi hj hij d1 d2=> ?_,fun i p hi d=> ?_,fun i p hi=> ?_,fun i o ho=> ?_,hR.gl.mono hle⟩,hle, ?_,fun i p hi=> ?_,fun i p hi d=> ?_,fun i hi hl=> ?_,hb.size,hb.os,hb.tape,hb.output,fun b hb' _=>hb.block b hb'⟩
 ·rcases hinv i p hi with ⟨rfl,rfl⟩|⟨hi,hne⟩
  ·refine ⟨_,NH.get_add_same _ _,cur,T,fz,hc,fun q=>Bool.noConfusion q,rfl,hlen,fun i v hv=>hcs _ i v hv⟩
  ·obtain ⟨o,o1,o2⟩:=hR'.obj i p hi
   exact ⟨o,by rw[hget i hne];exact o1,o2.mono hle rfl⟩
 ·rcases hinv i p hi with ⟨rfl,rfl⟩|⟨hi,hne⟩
  ·exact Hl d1 hnl
  ·rw[hget i hne] at d1
   rcases hinv j q hj with ⟨rfl,rfl⟩|⟨hj,hne'⟩
   ·have:=hR.lt i p hi;show p.b≠N;omega
   ·rw[hget j hne'] at d2
    exact hR.inj i j p q hi hj hij d1 d2
 ·rcases hinv i p hi with ⟨rfl,rfl⟩|⟨hi,hne⟩
  ·exact Hl d hnl
  ·rw[hget i hne] at d;exact hR.base i p hi d
 ·rcases hinv i p hi with ⟨rfl,rfl⟩|⟨hi,_⟩
  ·exact (Array.getElem?_eq_some_iff.1 hc).1
  ·exact hR'.lt i p hi
 ·show i.toNat<h.next.nxt.toNat
  rw[D4.toNat_nxt]
  by_cases e:i=h.next
  ·subst e;omega
  ·rw[hget i e] at ho;have:=hR.fresh i o ho;omega
 ·show h.next.toNat<=h.next.nxt.toNat
  rw[D4.toNat_nxt];omega
 ·rcases hinv i p hi with ⟨rfl,_⟩|⟨hi,_⟩
  ·exact .inr (Nat.le_refl _)
  ·exact .inl hi
 ·rcases hinv i p hi with ⟨rfl,_⟩|⟨hi,hne⟩
  ·exact Hl d hnl
  ·rw[hget i hne] at d;exact .inr ⟨i,p,hi,d,rfl⟩
 ·exact hget i fun e=>by rw[e] at hl;exact Nat.lt_irrefl _ hl
theorem Rel.made {P:Program} {ι:aE} {B:Nat} {h:NH} {w w':World} (hR:Rel P ι B h w) (hb:Below w.heap.size w w') {N:Nat} (hN:w.heap.size<=N) {cur:Array Value} {T:TypeId} {fz:Nat×Nat} (hc:w'.heap[N]? =some (.cells cur T fz)):
 ∃ι',ι' h.next=some ⟨N,0,cur.size⟩/\Rel P ι' B (h.add (.cells false [])) w'/\Grow ι h w ι' (h.add (.cells false [])) w':=
 hR.madeC hb hN hc (o:=0) (by simp) fun _ i v hv=>by simp at hv
noncomputable def yO (args c:List NV) (off len e kc:Nat) (l:List NV) (h:NH):Option (NV×NH):=cond (dU (bC 3) l args) (h.new (.cells false c) fun id h=>some (.slc id off len e kc,h)) none
noncomputable def iY (cf:Nat->Option NFn) (S:bP) (n f:Nat) (args c:List NV) (off len e kc:Nat):Bool:=
 match mK cf S n f args with
 | .val (.slc id o l k m) _ h=>cond (dO args) (cond (dO c) (cond (Nat.beq o off) (cond (Nat.beq l len) (cond (Nat.beq k e) (cond (Nat.beq m kc) (match h.get id with
  |some (.cells true d)=>dU (bC 3) d c
  |_=>false) false) false) false) false) false) false
 |_=>false
omit [Val] in
theorem dY.row {P:Program} {cf:Nat->Option NFn} (hc:dY P cf) {S:bP} {n f:Nat} {args c:List NV} {off len e kc:Nat} (hr:iY cf S n f args c off len e kc=true):iY P S n f args c off len e kc=true:=by
 have e:cf=am P:=funext hc
 rw[e] at hr;exact hr
omit [Val] in
theorem tv:∀{l:List NV} {i:Nat} {v:NV},dO l=true->l[i]? =some v->cW v=true:=by
 intro l
 induction l with
 |nil=>intro i v _ h;simp at h
 |cons a l ih=>
  intro i v h hi
  simp only[dO,Bool.and_eq_true] at h
  cases i with
  |zero=>simp at hi;subst hi;exact h.1
  |succ i=>exact ih h.2 (by simpa using hi)
theorem uX {P:Program} {S:bP} (hM:P.follows .mixedOrders=true) (hP:P.check= .ok ()) (hS:dk P S) {n f:Nat} {args c:List NV} {off len e kc:Nat} (hr:iY P S n f args c off len e kc=true)
 (hen:∀args w,(callFunc f args).run P w= .ok (.enter f args) w):dX P f (yO args c off len e kc):=
 dX.of hen fun ι B h w l args' v h' hF hR hB hl=>by
  unfold yO at hF
  obtain ⟨h1,hF'⟩:=aB hF
  clear hF
  rw[NH.new_eq] at hF'
  have:=dQ (dj 3) h1
  subst this
  injection hF' with hF
  injection hF with e1 e2
  subst e1;subst e2
  unfold iY at hr
  split at hr
  ·rename_i id o l' k m x h0 hrun
   obtain ⟨p1,hr1⟩:=aJ hr
   obtain ⟨p2,hr2⟩:=aJ hr1
   obtain ⟨q1,hr3⟩:=aJ hr2
   obtain ⟨q2,hr4⟩:=aJ hr3
   obtain ⟨q3,hr5⟩:=aJ hr4
   obtain ⟨q4,hr6⟩:=aJ hr5
   clear hr hr1 hr2 hr3 hr4 hr5
   obtain rfl:=Hs q1
   obtain rfl:=Hs q2
   obtain rfl:=Hs q3
   obtain rfl:=Hs q4
   split at hr6
   ·rename_i d hd
    have:=dQ (dj 3) hr6
    subst this
    refine (mS hM hP hS hrun (hl.plain p1) w hR.room).mono ?_
    rintro e w' ⟨⟨ι1,v',rfl,hv,hR1⟩,hb⟩
    cases hv with
    |slc _ _ _ _ _ p a cap z1 z2 z3 z4 z5 z6=>
     have hlive:Live (h0.get id):=by rw[hd];simp
     have hbase:=hR1.base id p z1 hlive
     obtain ⟨ob,o1,o2⟩:=hR1.obj id p z1
     rw[hd] at o1;cases o1
     obtain ⟨cur,T,fz,k1,k2,k3,k4,k5⟩:=o2
     obtain ⟨ι',r1,r2,r3⟩:=hR.madeC hb hbase k1 (by rw[k3];exact k4) (fun ι2 i u hi=>by
      obtain ⟨u',a1,a2,a3⟩:=k5 i u hi
      exact ⟨u',a1,a2.plain (tv p2 hi),a3⟩)
     exact ⟨ι',_,rfl,.slc _ _ _ _ _ _ _ _ r1 z2 z3 z4 z5 (by rw[←k3] at z6;exact z6),r2,Nat.le_trans hB hb.size,r3⟩
   ·cases hr6
  ·cases hr
noncomputable def vn (k:IntKind) (F:Int->Option NV) (l:List NV) (h:NH):Option (NV×NH):=
 match l with
 | [.int k' (.lit n)]=>cond (eS k k') (match F n with|some v=>some (v,h)|none=>none) none
 |_=>none
theorem x0 {P:Program} {S:bP} (hM:P.follows .mixedOrders=true) (hP:P.check= .ok ()) (hS:dk P S) {N f:Nat} {k:IntKind} {F:Int->Option NV} (hen:∀args w,(callFunc f args).run P w= .ok (.enter f args) w)
 (H:∀n v,F n=some v->∃x:SI,(∀ι,VR ι (.int k x) (.int k n))/\br P S N f [.int k x] v=true):dX P f (vn k F):=
 dX.plain hen fun ι B h w l args' v h' hF hR hl=>by
  unfold vn at hF
  split at hF
  ·rename_i k' n
   obtain ⟨c1,hF2⟩:=aB hF
   clear hF
   obtain rfl:=dM c1
   cases hu:F n with
   |none=>rw[hu] at hF2;cases hF2
   |some u=>
    rw[hu] at hF2
    injection hF2 with hF3
    injection hF3 with e1 e2
    subst e1;subst e2
    obtain ⟨x,hx,hr⟩:=H n u hu
    unfold br at hr
    split at hr
    ·rename_i u' y h0 hrun
     obtain ⟨p1,hr1⟩:=aJ hr
     obtain ⟨p2,hr2⟩:=aJ hr1
     have:=dj _ _ _ hr2
     subst this
     cases hl with
     |cons _ _ _ _ h1 hl=>
      cases hl;cases h1
      refine ⟨rfl,(mS hM hP hS hrun (.cons _ _ _ _ (hx _) .nil) w hR.room).mono ?_⟩
      rintro e w' ⟨⟨ι1,v',rfl,hv,_⟩,hb⟩
      exact ⟨⟨v',rfl,hv.plain p2⟩,hb⟩
    ·cases hr
  ·cases hF
end
end Nm
namespace Nm
open Go Go.RowKit Go.Proofs Go.Sort
noncomputable section
def gu (fuel:Nat):Nat->List Nat->List Nat:=Nat.rec (fun _ acc=>acc) (fun _ ih u acc=>cond (Nat.ble (Nat.succ u) 10) (ai (Nat.add 48 u) fun d=>d::acc) (ai (Nat.add 48 (Nat.mod u 10)) fun d=>ih (Nat.div u 10) (d::acc))) fuel
def cA (n:Int):List Nat:=Int.rec (fun m=>gu 20 m []) (fun m=>45::gu 20 (Nat.succ m) []) n
def Gn (k:Nat):Nat->List NV:=Nat.rec (fun _=> []) (fun _ ih x=>ai x fun x=> .int .u64 (.lit (.ofNat x))::ih (Nat.mul x 10)) k
def eT:List NV:=Gn 20 1
def mm (g:Nat) (h:NH):Bool:=match h.get (D4.of g) with|some (.cells _ c)=>dU (bC 1) c eT|_=>false
def si (g:Nat) (l:List NV) (h:NH):Option (NV×NH):=
 match l with
 | [.int .i64 (.lit n)]=>cond (mm g h) (cond (iN (.negSucc 9223372036854775807) n) (cond (iN n (.ofNat 9223372036854775807)) (some (.str (cA n),h)) none) none) none
 |_=>none
end
theorem gb (k u:Nat) (acc:List Nat):gu (k+1) u acc=if u<10 then (48+u)::acc else gu k (u / 10) ((48+u % 10)::acc):=by
 have e:gu (k+1) u acc=cond (Nat.ble (Nat.succ u) 10) (ai (Nat.add 48 u) fun d=>d::acc) (ai (Nat.add 48 (Nat.mod u 10)) fun d=>gu k (Nat.div u 10) (d::acc)):=rfl
 rw[e,ae,ae]
 by_cases h:u<10
 ·rw[Hn h,Nat.ble_eq_true_of_le (by omega)];rfl
 ·rw[Hm h]
  cases hb:Nat.ble (Nat.succ u) 10 with
  |true=>exact Hl (Nat.le_of_ble_eq_true hb) (by omega)
  |false=>rfl
theorem mZ:∀(k u:Nat) (acc:List Nat),u<10 ^ k->0<k->gu k u acc=(Lib.decDigits u).map UInt8.toNat++acc:=by
 intro k
 induction k with
 |zero=>intro u acc _ h;omega
 |succ k ih=>
  intro u acc hu _
  rw[gb,Lib.decDigits]
  by_cases h:u<10
  ·rw[Hn h,dif_pos h];simp;omega
  ·rw[Hm h,dif_neg h]
   rcases Nat.eq_zero_or_pos k with rfl|hk
   ·omega
   ·rw[ih _ _ (by rw[Nat.pow_succ] at hu;omega) hk]
    simp;omega
theorem it {n:Int} (h0:-9223372036854775808<=n) (h1:n<=9223372036854775807):cA n=(Lib.itoa n).map UInt8.toNat:=by
 unfold Lib.itoa
 cases n with
 |ofNat m=>
  have e:cA (.ofNat m)=gu 20 m []:=rfl
  rw[e,mZ 20 m [] (by show m<100000000000000000000;have:((m:Nat):Int)<=9223372036854775807:=h1;omega) (by omega),Hm (by simp)]
  simp
 |negSucc m=>
  have e:cA (.negSucc m)=45::gu 20 (m+1) []:=rfl
  rw[e,mZ 20 (m+1) [] (by show m+1<100000000000000000000;omega) (by omega),Hn (by omega)]
  simp
theorem mi:eT=Lib.pow10Tab.map fun z=> .int .u64 (.lit z):=by
 have e:eT= [0,1,2,3,4,5,6,7,8,9,10,11,12,13,14,15,16,17,18,19].map fun k:Nat=>NV.int .u64 (.lit (.ofNat (10 ^ k))):=by kernel_rfl
 rw[e];rfl
theorem qd (w:World) (q:Nat) (os:Array Obj):Below w.heap.size w (grow (w.drewN q) os):=
 ⟨rfl,rfl,rfl,by first|(simp[grow];done)|(simp[grow];omega),fun i hi=>by
  show ((w.drewN q).heap++os)[i]? =_
  rw[Array.getElem?_append_left (by show i<w.heap.size;omega)]
  rfl⟩
section
variable [Val]
theorem VRL.ints {ι:aE} {k:IntKind}:∀{zs:List Int} {l:List Value},VRL ι (zs.map fun z=> .int k (.lit z)) l->l=zs.map fun z=> .int k z:=by
 intro zs
 induction zs with
 |nil=>intro l h;cases h;rfl
 |cons z zs ih=>
  intro l h
  cases h with
  |cons _ v _ l' h hl=>cases h;rw[ih hl];rfl
theorem CD {P:Program} {ι:aE} {B:Nat} {h:NH} {w:World} (hR:Rel P ι B h w) {g:Nat} (hg:g<NG) (hn:GN g=20) (hN:P.globalNamed "internal/strconv.uint64pow10" =some g) (ht:mm g h=true):Lib.TabIs P w "internal/strconv.uint64pow10" .u64 Lib.pow10Tab:=by
 unfold mm at ht
 split at ht
 ·rename_i wr c hc
  have:=dQ (dj 1) ht
  subst this
  obtain ⟨cur,T,fz,k1,k2⟩:=hR.global hg hc (by rw[hn];decide+kernel)
  rw[mi] at k2
  have:=VRL.ints k2
  unfold Lib.TabIs World.var?
  rw[hN]
  simp only[Option.bind_some,k1]
  rw[←this]
 ·cases ht
theorem u7 {P:Program} {ρ:Shelf.Ren} (L:LaysM.n171 P ρ) {g:Nat} (hg:g<NG) (hn:GN g=20) (hN:P.globalNamed "internal/strconv.uint64pow10" =some g):dX P (ρ.f 171) (si g):=
 dX.plain (enters_of L.f171 (by kernel_rfl) rfl) fun ι B h w args args' v h' hF hR hl=>by
  unfold si at hF
  split at hF
  ·rename_i n
   obtain ⟨c1,hF⟩:=aB hF
   obtain ⟨c2,hF⟩:=aB hF
   obtain ⟨c3,hF⟩:=aB hF
   cases hF
   rw[bR] at c2 c3
   have h0:-9223372036854775808<=n:=of_decide_eq_true c2
   have h1:n<=9223372036854775807:=of_decide_eq_true c3
   cases hl with
   |cons _ _ _ _ hx hnil=>
    cases hnil;cases hx
    refine ⟨rfl,(Any.strconv_Itoa L n h0 h1 w (CD hR hg hn hN c1)).mono ?_⟩
    rintro e w' ⟨rfl,k,os,rfl⟩
    refine ⟨⟨_,rfl,.str _ _ ?_⟩,qd _ _ _⟩
    rw[it h0 h1]
  ·cases hF
theorem zS {P:Program} {ρ:Shelf.Ren} (L:LaysM.n171 P ρ) {f g:Nat} (hf:ρ.f 171=f) (hg:g<NG) (hn:GN g=20) (hN:P.globalNamed "internal/strconv.uint64pow10" =some g):dX P f (si g):=hf▸u7 L hg hn hN
end
end Nm
namespace Nm
open Go Go.RowKit Go.Proofs Go.Sort
noncomputable section
def fJ (s:List Nat):Lib.NumEnd Int:=Lib.atoiAll (s.map UInt8.ofNat)
def lL (g t:Nat) (v:Int) (h:NH):Option (NV×NH):=
 match h.get (D4.of g) with
 |some (.cells _ [.ifc _ _])=>h.new (.cells false []) fun id h=>some (.tup [.int .i64 (.lit v),.ifc t (.ptr id 0)],h)
 |_=>none
def o8 (g0 g1 t:Nat) (l:List NV) (h:NH):Option (NV×NH):=
 match l with
 | [.str s]=>cond (Nat.ble s.length 281474976710656) (match fJ s with
  | .ok v=>some (.tup [.int .i64 (.lit v),.nili],h)
  | .range=>lL g1 t (Lib.atoiSat (s.map UInt8.ofNat)) h
  |_=>lL g0 t 0 h) none
 |_=>none
end
theorem rm (s:ByteArray):(s.data.toList.map UInt8.toNat).map UInt8.ofNat=s.data.toList:=by
 rw[List.map_map]
 conv=>rhs;rw[←List.map_id s.data.toList]
 apply List.map_congr_left
 intro b _
 exact UInt8.ofNat_toNat
section
variable [Val]
theorem sa {P:Program} {f g t:Nat} {z:Int} (hg:g<NG) (hn:GN g=1) {s':ByteArray} {ι:aE} {B:Nat} {h:NH} {w:World} {v:NV} {h':NH} (hF:lL g t z h=some (v,h')) (hR:Rel P ι B h w) (hB:B<=w.heap.size)
 (H:∀(ev:Value),w.cell? ⟨g,0,none⟩=some ev->(ev= .nilIface∨∃te pe,ev= .iface te pe)->
  Calls P f #[.string s'] w fun e w'=>∃N T c,e= .returned (.tuple #[.int .i64 z,.iface t (.pointer (some ⟨N,0,none⟩))])/\w.heap.size<=N/\w'.heap[N]? =some (.cells c T (0,0))/\Below w.heap.size w w'):
 Calls P f #[.string s'] w fun e w'=>∃ι' v',e= .returned v'/\VR ι' v v'/\Rel P ι' B h' w'/\B<=w'.heap.size/\Grow ι h w ι' h' w':=by
 unfold lL at hF
 split at hF
 ·rename_i wr t' x hc
  rw[NH.new_eq] at hF
  cases hF
  obtain ⟨cur,T,fz,k1,k2⟩:=hR.global hg hc (by rw[hn];rfl)
  have hcur:∃te pe,cur=#[.iface te pe]:=by
   generalize hcl:cur.toList=cl at k2
   cases k2 with
   |cons _ _ _ _ a b=>cases a with
    |ifc _ _ v' _=>cases b;exact ⟨t',v',by apply Array.ext';simpa using hcl⟩
  obtain ⟨te,pe,rfl⟩:=hcur
  have hcell:w.cell? ⟨g,0,none⟩=some (.iface te pe):=by unfold World.cell?;rw[k1];rfl
  refine (H _ hcell (.inr ⟨te,pe,rfl⟩)).mono ?_
  rintro e w' ⟨N,T',c,rfl,hN,hb',hbl⟩
  obtain ⟨ι',q1,q2,q3⟩:=hR.made hbl hN hb'
  refine ⟨ι',_,rfl, ?_,q2,Nat.le_trans hB hbl.size,q3⟩
  have:=VR.ptr h.next 0 _ q1
  exact .tup _ _ (.cons _ _ _ _ (.int _ _) (.cons _ _ _ _ (.ifc _ _ _ (by simpa using this)) .nil))
 ·cases hF
theorem xr {P:Program} {ρ:Shelf.Ren} (L:LaysC.n172 P ρ) {f g0 g1 t:Nat} (hf:ρ.f 172=f) (e0:ρ.g 15=g0) (e1:ρ.g 16=g1) (et:ρ.t 168=t) (hg0:g0<NG) (hn0:GN g0=1) (hg1:g1<NG) (hn1:GN g1=1):dX P f (o8 g0 g1 t):=by
 subst hf;subst e0;subst e1;subst et
 refine dX.of (enters_of L.f172 (by kernel_rfl) rfl) fun ι B h w args args' v h' hF hR hB hl=> ?_
 unfold o8 at hF
 split at hF
 ·rename_i s
  obtain ⟨c1,hF⟩:=aB hF
  have hlen:=Nat.le_of_ble_eq_true c1
  cases hl with
  |cons _ _ _ _ hx hnil=>
   cases hnil
   cases hx with
   |str _ s' hs=>
    subst hs
    unfold fJ at hF
    rw[rm] at hF
    have hsz:s'.size<=281474976710656:=by simpa using hlen
    cases hz:Lib.atoiAll s'.data.toList with
    |ok z=>
     rw[hz] at hF
     cases hF
     refine (Any.strconv_Atoi_ok L s' (by omega) z hz w).mono ?_
     rintro e w' ⟨rfl,hW⟩
     have hb:Below w.heap.size w w':=by
      rcases hW with rfl|⟨t,rfl⟩
      ·exact Below.refl _ _
      ·exact Lib.bytesWorld_below _ _ _
     exact ⟨ι,_,rfl,.tup _ _ (.cons _ _ _ _ (.int _ _) (.cons _ _ _ _ .nili .nil)),hR.below hb,Nat.le_trans hB hb.size,.below hb⟩
    |range=>
     rw[hz] at hF
     exact sa hg1 hn1 hF hR hB fun ev h1 h2=>(Any.strconv_Atoi_range L s' hsz hz ev w h1 h2).mono fun e w' ⟨N,a,b,c,d⟩=>⟨N,_,_,a,b,c,d⟩
    |_=>
     rw[hz] at hF
     exact sa hg0 hn0 hF hR hB fun ev h1 h2=>(Any.strconv_Atoi_syntax L s' hsz hz ev w h1 h2).mono fun e w' ⟨N,a,b,c,d⟩=>⟨N,_,_,a,b,c,d⟩
 ·cases hF
end
theorem uA:∀(k u acc:Nat),u<10 ^ k->0<k->∀l,Lib.decFrom acc (Lib.decDigits u++l)=Lib.decFrom (acc*10 ^ (Lib.decDigits u).length+u) l:=by
 intro k
 induction k with
 |zero=>intro u acc _ h;omega
 |succ k ih=>
  intro u acc hu _ l
  rw[Lib.decDigits]
  have hd:∀d:Nat,d<10->Lib.digitVal (UInt8.ofNat (48+d))=some d:=by
   intro d hd
   have:d=0∨d=1∨d=2∨d=3∨d=4∨d=5∨d=6∨d=7∨d=8∨d=9:=by omega
   rcases this with rfl|rfl|rfl|rfl|rfl|rfl|rfl|rfl|rfl|rfl<;>rfl
  by_cases h:u<10
  ·rw[dif_pos h]
   simp only[List.cons_append,List.nil_append,Lib.decFrom,hd u h,List.length_cons,List.length_nil]
  ·rw[dif_neg h]
   rcases Nat.eq_zero_or_pos k with rfl|hk
   ·omega
   ·rw[List.append_assoc,ih _ _ (by rw[Nat.pow_succ] at hu;omega) hk]
    simp only[List.cons_append,List.nil_append,Lib.decFrom,hd (u % 10) (by omega),List.length_append,List.length_cons,List.length_nil]
    congr 1
    rw[Nat.zero_add,Nat.pow_succ,Nat.add_mul,Nat.mul_assoc]
    omega
theorem t8:∀(k u:Nat) (acc:List Nat),(gu k u acc).length<=k+acc.length:=by
 intro k
 induction k with
 |zero=>intro u acc;show acc.length<=_;omega
 |succ k ih=>
  intro u acc
  rw[gb]
  split
  ·simp;omega
  ·have:=ih (u / 10) ((48+u % 10)::acc);simp at this ⊢;omega
theorem rU {u:Nat} (hu:u<10 ^ 11):Lib.decNat (Lib.decDigits u)=some u/\(Lib.decDigits u).length<=11:=by
 have h:=uA 11 u 0 hu (by omega) []
 rw[List.append_nil] at h
 constructor
 ·unfold Lib.decNat
  have hne:(Lib.decDigits u).isEmpty=false:=by
   rw[Lib.decDigits];split<;>simp
  rw[hne,h]
  show some _=_
  congr 1;omega
 ·have e:=mZ 11 u [] hu (by omega)
  have l:(gu 11 u []).length<=11:=by
   have:=t8 11 u [];simpa using this
  rw[e] at l
  simpa using l
theorem uc {n:Int} (h0:-4294967296<=n) (h1:n<=4294967296):fJ (cA n)= .ok n:=by
 unfold fJ
 rw[it (by omega) (by omega),List.map_map]
 have e:(Lib.itoa n).map (UInt8.ofNat ∘ UInt8.toNat)=Lib.itoa n:=by
  conv=>rhs;rw[←List.map_id (Lib.itoa n)]
  exact List.map_congr_left fun b _=>UInt8.ofNat_toNat
 rw[e]
 unfold Lib.itoa
 split
 ·obtain ⟨d1,d2⟩:=rU (u:=n.natAbs) (by omega)
  rw[Lib.atoiAll_short _ (by simp;omega)]
  unfold Lib.atoi
  show Lib.NumEnd.ofOption (Option.map (fun (m:Nat)=>-(m:Int)) (Lib.decNat (Lib.decDigits n.natAbs)))=_
  rw[d1]
  show Lib.NumEnd.ok (-(n.natAbs:Int))=_
  congr 1;omega
 ·obtain ⟨d1,d2⟩:=rU (u:=n.toNat) (by omega)
  rw[Lib.atoiAll_short _ (by omega)]
  unfold Lib.atoi
  cases hd:Lib.decDigits n.toNat with
  |nil=>rw[hd] at d1;cases d1
  |cons b r=>
   rw[hd] at d1
   have hv:∀c:UInt8,Lib.digitVal c=none->(b==c)=false:=by
    intro c hc
    cases hb:b==c with
    |false=>rfl
    |true=>
     have:=eq_of_beq hb
     subst this
     simp only[Lib.decNat,Lib.decFrom,hc] at d1
     cases d1
   simp only[hv 45 rfl,hv 43 rfl,d1]
   show Lib.NumEnd.ok (n.toNat:Int)=_
   congr 1;omega
end Nm
